import PyProof.Rows.All
import Wide.All
import OpenK.AllK
import Wide.FinOn
import KE.KStateDown
import HandS.ForMost
import HandS.ForExc
import HandS.Walk
import HandS.Zip
import HandS.IsInst
import HandS.FStr
import HandS.Lambda
import HandS.TupAny
import HandS.TupMul
import HandS.Deep
import HandS.Defaults
import HandS.HeadHook1
import HandS.HeadHook2
import HandS.HeadEnd
import HandS.Head0
import HandS.Head1
import HandS.Head2
import KE.GoesMore
import KE.GoesEnum
import HandS.Conv
import HandS.Text
import HandS.More
import PyProof.ListStr
import PyProof.CollectIter
import PyProof.JoinWalk
import HandS.Style
import KE.KRevSl
import HandS.ExcValue
import HandS.ExcIs
import HandS.HeadHook4
import HandS.HeadWalk
import HandS.EndTab
import KE.KDictKeyed
import HandS.IterVal
import KE.SortData
import HandS.SortOrd
import HandS.TupSets
import KE.KeyNested
import HandS.SetFor
import HandS.Strs
import PySem.Challenge.RW_signscribes_k09_whole_rows
set_option Elab.async false
set_option linter.all false
set_option maxRecDepth 100000
set_option maxHeartbeats 0
namespace DL
open PySem PySem.Spec PyProof.Rows L2
abbrev St := L2.St

/-! ### plain data -/
inductive D where
  | non | bl (b : Bool) | int (i : Int) | str (x : Str) | tup (xs : List D) | lst (xs : List D) | dct (ks : List Str) (ds : List D) | town | scr | obj (v : V)
  /-- a tuple that is known to have no dict of its own -/
  | ftp (xs : List D)

structure Wd where
  P : Program
  w : World
  K : PySem.W.Frag

/-- the town's dict, the dict of rests: known by what is true of their objects -/
def townH (W : Wd) (t r : Addr) : HO := .ext fun h => ∃ c : Int, ObjOk W.P W.w (fun _ => none) h t (.dK [(.inr "count", .int c), (.inr "rests", .ref r)])
def RestKv (kvs : List (Key × V)) : Prop := (kvs.map (·.1)).Nodup ∧ ∀ p ∈ kvs, ∃ (i : Nat) (j : Int), i < 64 ∧ p = (.inl (i : Int), .int j)
def restH (W : Wd) (r : Addr) : HO := .ext fun h => ∃ kvs, RestKv kvs ∧ ObjOk W.P W.w (fun _ => none) h r (.dK kvs)

/-- a tuple that is tracked and not hidden, or stands in the written part -/
def TupAt (W : Wd) (O : Addr → Prop) (H : Hp) (a : Addr) (xs : List V) : Prop := (¬ O a ∧ H a = some (.tup xs)) ∨ (¬ O a ∧ ∃ o, H a = some (.frz o (.tup xs))) ∨ SqT W.K (fun _ => none) a xs

mutual
def Dp (W : Wd) (O : Addr → Prop) (H : Hp) : V → D → Prop
  | v, .non => v = .non
  | v, .bl b => v = .bl b
  | v, .int i => v = .int i
  | v, .str x => v = .str x
  | v, .tup ds => ∃ a xs, v = .ref a ∧ TupAt W O H a xs ∧ ds.length ≤ sizeLine ∧ DpA W O H xs ds
  | v, .lst ds => ∃ a xs, v = .ref a ∧ ¬ O a ∧ H a = some (.lst xs) ∧ ds.length ≤ sizeLine ∧ DpA W O H xs ds
  | v, .dct ks ds => ∃ a xs, v = .ref a ∧ ¬ O a ∧ H a = some (.dK ((ks.map Sum.inr).zip xs)) ∧ ks.length = ds.length ∧ ks.length ≤ sizeLine ∧ DpA W O H xs ds
  | v, .town => ∃ t r, v = .ref t ∧ t ≠ r ∧ H t = some (townH W t r) ∧ H r = some (restH W r)
  | v, .scr => ∃ a, ∃ ns : List Int, v = .ref a ∧ ((¬ O a ∧ Rd H a (.lst (ns.map V.int))) ∨ SqL W.K (fun _ => none) a (ns.map V.int)) ∧ ns.length ≤ 63
  | v, .obj u => ∃ nm, u = .str nm ∧ v = .ref (He.ga W.K nm)
  | v, .ftp ds => ∃ a o xs, v = .ref a ∧ ¬ O a ∧ o.dict = none ∧ H a = some (.frz o (.tup xs)) ∧ ds.length ≤ sizeLine ∧ DpA W O H xs ds
def DpA (W : Wd) (O : Addr → Prop) (H : Hp) : List V → List D → Prop
  | [], [] => True
  | v :: vs, d :: ds => Dp W O H v d ∧ DpA W O H vs ds
  | _, _ => False
end

/-! ### what stays -/
abbrev Tb := List (Addr × Str)
structure Ext (T : Tb) (H H' : Hp) : Prop where
  n : LamX.ExtN H H'
  t : LamX.Tabs T H → LamX.Tabs T H'
theorem Ext.refl {T : Tb} {H : Hp} : Ext T H H := ⟨LamX.ExtN.refl H, fun h => h⟩
theorem Ext.trans {T : Tb} {H H1 H2 : Hp} (a : Ext T H H1) (b : Ext T H1 H2) : Ext T H H2 := ⟨a.n.trans b.n, fun h => b.t (a.t h)⟩
theorem Ext.of {T : Tb} {H H' : Hp} (e : Same H H') : Ext T H H' := ⟨LamX.ExtN.of e, fun h => h.ext e⟩
theorem Ext.new {T : Tb} {H : Hp} {p : Addr} {o : HO} (h : H p = none) : Ext T H (upd H p o) := .of fun b u e => by rw [upd_ne (ne_of_none e h)]; exact e
theorem Ext.at {T : Tb} {H H' : Hp} (e : Ext T H H') {a : Addr} {o : HO} (h : H a = some o) (n : ∀ ps, o ≠ .tbl ps) : H' a = some o := e.n a o h n
theorem Ext.lst {T : Tb} {H H' : Hp} (e : Ext T H H') {a : Addr} {xs : List V} (h : H a = some (.lst xs)) : H' a = some (.lst xs) := e.at h fun _ z => by cases z
theorem Ext.tup {T : Tb} {H H' : Hp} (e : Ext T H H') {a : Addr} {xs : List V} (h : H a = some (.tup xs)) : H' a = some (.tup xs) := e.at h fun _ z => by cases z
theorem Ext.sqL {T : Tb} {K : PySem.W.Frag} {H H' : Hp} (e : Ext T H H') {a : Addr} {xs : List V} (h : SqL K H a xs) : SqL K H' a xs := by
  rcases h with (h | ⟨o, h⟩) | h
  · exact .inl (.inl (e.at h fun _ z => by cases z))
  · exact .inl (.inr ⟨o, e.at h fun _ z => by cases z⟩)
  · exact .inr h

section
variable {W : Wd} {T : Tb} {O O' : Addr → Prop} {H H' : Hp}
/-- all but tables and hidden lists stays -/
def Keep (O : Addr → Prop) (H H' : Hp) : Prop := ∀ b o, H b = some o → (∀ ps, o ≠ .tbl ps) → (O b ∧ ∃ xs, o = .lst xs) ∨ H' b = some o
theorem Ext.keep (e : Ext T H H') : Keep O H H' := fun b o h n => .inr (e.n b o h n)
theorem Keep.tup (k : Keep O H H') {a : Addr} {xs : List V} (h : H a = some (.tup xs)) : H' a = some (.tup xs) := by
  rcases k a _ h (fun _ z => by cases z) with ⟨_, ys, z⟩ | z
  · cases z
  · exact z
theorem Keep.lst (k : Keep O H H') {a : Addr} {xs : List V} (o : ¬ O a) (h : H a = some (.lst xs)) : H' a = some (.lst xs) := by
  rcases k a _ h (fun _ z => by cases z) with ⟨z, _⟩ | z
  · exact absurd z o
  · exact z
theorem Keep.ext (k : Keep O H H') {a : Addr} {φ : Heap → Prop} (h : H a = some (.ext φ)) : H' a = some (.ext φ) := by
  rcases k a _ h (fun _ z => by cases z) with ⟨_, ys, z⟩ | z
  · cases z
  · exact z
theorem Keep.dK (k : Keep O H H') {a : Addr} {kvs : List (Key × V)} (h : H a = some (.dK kvs)) : H' a = some (.dK kvs) := by
  rcases k a _ h (fun _ z => by cases z) with ⟨_, ys, z⟩ | z
  · cases z
  · exact z
theorem Keep.frz (k : Keep O H H') {a : Addr} {ob : Obj} {u : HO} (h : H a = some (.frz ob u)) : H' a = some (.frz ob u) := by
  rcases k a _ h (fun _ z => by cases z) with ⟨_, ys, z⟩ | z
  · cases z
  · exact z
theorem Keep.sqL {K : PySem.W.Frag} (k : Keep O H H') {a : Addr} {xs : List V} (o : ¬ O a) (h : SqL K H a xs) : SqL K H' a xs := by
  rcases h with (h | ⟨ob, h⟩) | h
  · exact .inl (.inl (k.lst o h))
  · rcases k a _ h (fun _ z => by cases z) with ⟨z, _⟩ | z
    · exact absurd z o
    · exact .inl (.inr ⟨ob, z⟩)
  · exact .inr h
theorem TupAt.keep {a : Addr} {xs : List V} (e : Keep O H H') (ho : ∀ a o, H a = some o → (∀ ps, o ≠ .tbl ps) → O' a → O a) (h : TupAt W O H a xs) : TupAt W O' H' a xs := by
  rcases h with ⟨n, h⟩ | ⟨n, ob, h⟩ | h
  · exact .inl ⟨fun z => n (ho a _ h (fun _ q => by cases q) z), e.tup h⟩
  · exact .inr (.inl ⟨fun z => n (ho a _ h (fun _ q => by cases q) z), ob, e.frz h⟩)
  · exact .inr (.inr h)
theorem TupAt.sq {a : Addr} {xs : List V} (h : TupAt W O H a xs) : SqT W.K H a xs := by
  rcases h with ⟨n, h⟩ | ⟨n, ob, h⟩ | h
  · exact .inl (.inl h)
  · exact .inl (.inr ⟨ob, h⟩)
  · rcases h with (h | ⟨o, h⟩) | h
    · cases h
    · cases h
    · exact .inr h
mutual
theorem Dp.keep (e : Keep O H H') (ho : ∀ a o, H a = some o → (∀ ps, o ≠ .tbl ps) → O' a → O a) : ∀ (d : D) (v : V), Dp W O H v d → Dp W O' H' v d
  | .non, _, h => h
  | .bl _, _, h => h
  | .int _, _, h => h
  | .str _, _, h => h
  | .tup ds, _, h => by
    obtain ⟨a, xs, e1, t, n, r⟩ := h
    exact ⟨a, xs, e1, t.keep e ho, n, DpA.keep e ho ds xs r⟩
  | .lst ds, _, h => by
    obtain ⟨a, xs, e1, o, t, n, r⟩ := h
    exact ⟨a, xs, e1, fun z => o (ho a _ t (fun _ q => by cases q) z), e.lst o t, n, DpA.keep e ho ds xs r⟩
  | .dct ks ds, _, h => by
    obtain ⟨a, xs, e1, o, t, n, m, r⟩ := h
    exact ⟨a, xs, e1, fun z => o (ho a _ t (fun _ q => by cases q) z), e.dK t, n, m, DpA.keep e ho ds xs r⟩
  | .town, _, h => by
    obtain ⟨t, r, e1, ne, h1, h2⟩ := h
    exact ⟨t, r, e1, ne, e.ext h1, e.ext h2⟩
  | .scr, _, h => by
    obtain ⟨a, ns, e1, h1, h2⟩ := h
    refine ⟨a, ns, e1, ?_, h2⟩
    rcases h1 with ⟨o, h1⟩ | h1
    · rcases h1 with h1 | ⟨ob, h1⟩
      · exact .inl ⟨fun z => o (ho a _ h1 (fun _ q => by cases q) z), .inl (e.lst o h1)⟩
      · rcases e a _ h1 (fun _ z => by cases z) with ⟨z, _⟩ | z
        · exact absurd z o
        · exact .inl ⟨fun z => o (ho a _ h1 (fun _ q => by cases q) z), .inr ⟨ob, z⟩⟩
    · exact .inr h1
  | .obj _, _, h => h
  | .ftp ds, _, h => by
    obtain ⟨a, ob, xs, e1, o, dn, t, n, r⟩ := h
    exact ⟨a, ob, xs, e1, fun z => o (ho a _ t (fun _ q => by cases q) z), dn, e.frz t, n, DpA.keep e ho ds xs r⟩
theorem DpA.keep (e : Keep O H H') (ho : ∀ a o, H a = some o → (∀ ps, o ≠ .tbl ps) → O' a → O a) : ∀ (ds : List D) (vs : List V), DpA W O H vs ds → DpA W O' H' vs ds
  | [], [], _ => trivial
  | [], _ :: _, h => h.elim
  | _ :: _, [], h => h.elim
  | d :: ds, v :: vs, h => ⟨Dp.keep e ho d v h.1, DpA.keep e ho ds vs h.2⟩
end
theorem Dp.ext (e : Ext T H H') (ho : ∀ a o, H a = some o → (∀ ps, o ≠ .tbl ps) → O' a → O a) (d : D) (v : V) (h : Dp W O H v d) : Dp W O' H' v d := Dp.keep e.keep ho d v h
theorem DpA.ext (e : Ext T H H') (ho : ∀ a o, H a = some o → (∀ ps, o ≠ .tbl ps) → O' a → O a) (ds : List D) (vs : List V) (h : DpA W O H vs ds) : DpA W O' H' vs ds := DpA.keep e.keep ho ds vs h
theorem DpA.len : ∀ {ds : List D} {vs : List V}, DpA W O H vs ds → vs.length = ds.length
  | [], [], _ => rfl
  | [], _ :: _, h => h.elim
  | _ :: _, [], h => h.elim
  | d :: ds, v :: vs, h => congrArg (· + 1) (DpA.len h.2)
theorem DpA.get : ∀ {ds : List D} {vs : List V} {i : Nat} {v : V}, DpA W O H vs ds → vs[i]? = some v → ∃ d, ds[i]? = some d ∧ Dp W O H v d
  | [], [], _, _, _, e => by simp at e
  | [], _ :: _, _, _, h, _ => h.elim
  | _ :: _, [], _, _, h, _ => h.elim
  | d :: ds, v :: vs, 0, u, h, e => by
    simp at e; subst e; exact ⟨d, rfl, h.1⟩
  | d :: ds, v :: vs, i + 1, u, h, e => by
    obtain ⟨x, h1, h2⟩ := DpA.get (i := i) h.2 (by simpa using e)
    exact ⟨x, by simpa using h1, h2⟩
theorem DpA.getD : ∀ {ds : List D} {vs : List V} {i : Nat} {d : D}, DpA W O H vs ds → ds[i]? = some d → ∃ v, vs[i]? = some v ∧ Dp W O H v d
  | [], _, _, _, _, e => by simp at e
  | _ :: _, [], _, _, h, _ => h.elim
  | d :: ds, v :: vs, 0, u, h, e => by
    simp at e; subst e; exact ⟨v, rfl, h.1⟩
  | d :: ds, v :: vs, i + 1, u, h, e => by
    obtain ⟨x, h1, h2⟩ := DpA.getD (i := i) h.2 (by simpa using e)
    exact ⟨x, by simpa using h1, h2⟩
theorem DpA.append : ∀ {ds es : List D} {vs us : List V}, DpA W O H vs ds → DpA W O H us es → DpA W O H (vs ++ us) (ds ++ es)
  | [], _, [], _, _, h => h
  | [], _, _ :: _, _, h, _ => h.elim
  | _ :: _, _, [], _, h, _ => h.elim
  | d :: ds, es, v :: vs, us, h, k => ⟨h.1, DpA.append h.2 k⟩
theorem DpA.take : ∀ {ds : List D} {vs : List V} (n : Nat), DpA W O H vs ds → DpA W O H (vs.take n) (ds.take n)
  | _, _, 0, _ => by simp [DpA]
  | [], [], _ + 1, _ => trivial
  | [], _ :: _, _, h => h.elim
  | _ :: _, [], _, h => h.elim
  | d :: ds, v :: vs, n + 1, h => ⟨h.1, DpA.take n h.2⟩
theorem DpA.drop : ∀ {ds : List D} {vs : List V} (n : Nat), DpA W O H vs ds → DpA W O H (vs.drop n) (ds.drop n)
  | _, _, 0, h => h
  | [], [], _ + 1, _ => trivial
  | [], _ :: _, _, h => h.elim
  | _ :: _, [], _, h => h.elim
  | d :: ds, v :: vs, n + 1, h => DpA.drop n h.2
theorem DpA.reverse {ds : List D} {vs : List V} (h : DpA W O H vs ds) : DpA W O H vs.reverse ds.reverse := by
  induction ds generalizing vs with
  | nil =>
    cases vs with
    | nil => trivial
    | cons _ _ => exact h.elim
  | cons d ds ih =>
    cases vs with
    | nil => exact h.elim
    | cons v vs =>
      rw [List.reverse_cons, List.reverse_cons]
      exact (ih h.2).append ⟨h.1, trivial⟩
theorem DpA.ints (ns : List Int) : DpA W O H (ns.map V.int) (ns.map D.int) := by
  induction ns with
  | nil => trivial
  | cons n ns ih => exact ⟨rfl, ih⟩
theorem DpA.strs (ns : List Str) : DpA W O H (ns.map V.str) (ns.map D.str) := by
  induction ns with
  | nil => trivial
  | cons n ns ih => exact ⟨rfl, ih⟩
theorem DpA.bls (ns : List Bool) : DpA W O H (ns.map V.bl) (ns.map D.bl) := by
  induction ns with
  | nil => trivial
  | cons n ns ih => exact ⟨rfl, ih⟩
end

/-! ### slots -/
inductive Sl where
  | non | val (d : D) | own (ds : List D)
abbrev Rho := List Sl
/-- where a def began: what stood then (no tables of code objects), what is hidden from it -/
structure Bs where
  Hb : Hp
  O0 : Addr → Prop
  ntb : ∀ b ps, Hb b ≠ some (.tbl ps)
structure BOk (T : Tb) (B : Bs) (H : Hp) : Prop where
  n : Same B.Hb H
  t : LamX.Tabs T H
theorem BOk.ext {T : Tb} {B : Bs} {H H' : Hp} (b : BOk T B H) (e : Ext T H H') : BOk T B H' :=
  ⟨fun c o h => e.n c o (b.n c o h) fun ps z => B.ntb c ps (by rw [h, z]), e.t b.t⟩
theorem BOk.none {T : Tb} {B : Bs} {H : Hp} (b : BOk T B H) {p : Addr} (h : H p = none) : B.Hb p = none := b.n.free h
/-- without tables -/
def strip (H : Hp) : Hp := fun b => match H b with
  | some (.tbl _) => none
  | o => o
theorem strip_ntb {H : Hp} (b : Addr) (ps : Array Value) : strip H b ≠ some (.tbl ps) := by
  unfold strip
  intro z
  split at z
  · cases z
  · rename_i h; exact h _ z
theorem strip_some {H : Hp} {b : Addr} {o : HO} (h : strip H b = some o) : H b = some o := by
  unfold strip at h
  split at h
  · cases h
  · exact h
theorem strip_of {H : Hp} {b : Addr} {o : HO} (h : H b = some o) (n : ∀ ps, o ≠ .tbl ps) : strip H b = some o := by
  unfold strip
  split
  · rename_i ps q; rw [h] at q; exact absurd (Option.some.inj q) (n ps)
  · exact h
theorem strip_none {H : Hp} {b : Addr} (h : H b = none) : strip H b = none := by
  cases z : strip H b with
  | none => rfl
  | some o => rw [strip_some z] at h; cases h
/-- a def's begin -/
def bsOf (T : Tb) (O : Addr → Prop) (H : Hp) : Bs := ⟨strip H, O, strip_ntb⟩
theorem bsOf_ok {T : Tb} {O : Addr → Prop} {H : Hp} (h : LamX.Tabs T H) : BOk T (bsOf T O H) H := ⟨fun _ _ h => strip_some h, h⟩
theorem bsOf_ext {T : Tb} {O : Addr → Prop} {H H' : Hp} (b : BOk T (bsOf T O H) H') : Ext T H H' := ⟨fun c o h n => b.n c o (strip_of h n), fun _ => b.t⟩
def SlOk (W : Wd) (B : Bs) (O : Addr → Prop) (H : Hp) (v : Option V) : Sl → Prop
  | .non => True
  | .val d => ∃ x, v = some x ∧ Dp W O H x d
  | .own ds => ∃ a xs, v = some (.ref a) ∧ O a ∧ ¬ B.O0 a ∧ B.Hb a = none ∧ H a = some (.lst xs) ∧ ds.length ≤ sizeLine ∧ DpA W O H xs ds
def OwnAt (σ : St) (ρ : Rho) (i : Nat) (a : Addr) : Prop := (∃ ds, ρ[i]? = some (.own ds)) ∧ σ[i]? = some (some (.ref a))
structure Rel (W : Wd) (T : Tb) (B : Bs) (O : Addr → Prop) (H : Hp) (σ : St) (ρ : Rho) : Prop where
  base : BOk T B H
  sub : ∀ a, B.O0 a → O a
  new : ∀ a, O a → B.O0 a ∨ B.Hb a = none
  dom : ∀ a, O a → ∃ xs, H a = some (.lst xs)
  len : ρ.length = σ.length
  sl : ∀ (i : Nat) (s : Sl), ρ[i]? = some s → SlOk W B O H (σ[i]?.getD none) s
  dist : ∀ (i j : Nat) (a : Addr), OwnAt σ ρ i a → OwnAt σ ρ j a → i = j
section
variable {W : Wd} {T : Tb} {B : Bs} {O : Addr → Prop} {H H' : Hp} {σ : St} {ρ : Rho}
theorem Rel.free (r : Rel W T B O H σ ρ) {p : Addr} (h : H p = none) : ¬ O p := fun z => by
  obtain ⟨xs, e⟩ := r.dom p z
  rw [h] at e; cases e
theorem SlOk.ext {v : Option V} {s : Sl} (e : Ext T H H') (h : SlOk W B O H v s) : SlOk W B O H' v s := by
  cases s with
  | non => trivial
  | val d =>
    obtain ⟨x, e1, h⟩ := h
    exact ⟨x, e1, Dp.ext e (fun _ _ _ _ z => z) d x h⟩
  | own ds =>
    obtain ⟨a, xs, e1, h1, h2, h3, h4, h5, h6⟩ := h
    exact ⟨a, xs, e1, h1, h2, h3, e.lst h4, h5, DpA.ext e (fun _ _ _ _ z => z) ds xs h6⟩
/-- an expression has run -/
theorem Rel.ext (r : Rel W T B O H σ ρ) (e : Ext T H H') : Rel W T B O H' σ ρ :=
  ⟨r.base.ext e, r.sub, r.new, fun a z => let ⟨xs, h⟩ := r.dom a z; ⟨xs, e.lst h⟩, r.len, fun i s h => (r.sl i s h).ext e, r.dist⟩
theorem own_set {σ : St} {ρ : Rho} {i j : Nat} {a : Addr} {v : Option V} {s : Sl} (hs : ∀ ds, s ≠ .own ds) (h : OwnAt (σ.set i v) (ρ.set i s) j a) : OwnAt σ ρ j a := by
  obtain ⟨⟨ds, h1⟩, h2⟩ := h
  by_cases e : i = j
  · subst e
    by_cases l : i < ρ.length
    · rw [List.getElem?_set_self l] at h1
      exact absurd (Option.some.inj h1) (hs ds)
    · rw [List.getElem?_eq_none (by rw [List.length_set]; omega)] at h1; cases h1
  · rw [List.getElem?_set_ne e] at h1 h2
    exact ⟨⟨ds, h1⟩, h2⟩
/-- a slot gets a value, or is forgotten -/
theorem Rel.set (r : Rel W T B O H σ ρ) {i : Nat} {v : Option V} {s : Sl} (hs : ∀ ds, s ≠ .own ds) (h : SlOk W B O H v s) : Rel W T B O H (σ.set i v) (ρ.set i s) := by
  refine ⟨r.base, r.sub, r.new, r.dom, by rw [List.length_set, List.length_set]; exact r.len, fun j s' e => ?_, fun j k a h1 h2 => r.dist j k a (own_set hs h1) (own_set hs h2)⟩
  by_cases q : i = j
  · subst q
    by_cases l : i < ρ.length
    · rw [List.getElem?_set_self l] at e
      cases e
      rw [List.getElem?_set_self (by rw [← r.len]; exact l)]
      exact h
    · rw [List.getElem?_eq_none (by rw [List.length_set]; omega)] at e; cases e
  · rw [List.getElem?_set_ne q] at e ⊢
    exact r.sl j s' e
theorem Rel.val (r : Rel W T B O H σ ρ) {i : Nat} {v : V} {d : D} (h : Dp W O H v d) : Rel W T B O H (σ.set i (some v)) (ρ.set i (.val d)) :=
  r.set (fun _ z => by cases z) ⟨v, rfl, h⟩
@[simp] def wipeR (ρ : Rho) : List Nat → Rho
  | [] => ρ
  | v :: vs => (wipeR ρ vs).set v .non
theorem Rel.wipe (r : Rel W T B O H σ ρ) : ∀ vs : List Nat, Rel W T B O H (L2.wipe σ vs) (wipeR ρ vs)
  | [] => r
  | v :: vs => (Rel.wipe r vs).set (fun _ z => by cases z) trivial
end
/-- what is read at once: a value, or an own list -/
def DpB (W : Wd) (O0 O : Addr → Prop) (H : Hp) (v : V) (d : D) : Prop :=
  Dp W O H v d ∨ ∃ a xs ds, v = .ref a ∧ d = .lst ds ∧ ¬ O0 a ∧ H a = some (.lst xs) ∧ ds.length ≤ sizeLine ∧ DpA W O H xs ds
theorem DpB.ext {W : Wd} {T : Tb} {O0 O : Addr → Prop} {H H' : Hp} {v : V} {d : D} (e : Ext T H H') (h : DpB W O0 O H v d) : DpB W O0 O H' v d := by
  rcases h with h | ⟨a, xs, ds, e1, e2, h1, h2, h3, h4⟩
  · exact .inl (Dp.ext e (fun _ _ _ _ z => z) d v h)
  · exact .inr ⟨a, xs, ds, e1, e2, h1, e.lst h2, h3, DpA.ext e (fun _ _ _ _ z => z) ds xs h4⟩
/-- behind a def the hidden lists of its own are no more hidden -/
theorem DpB.out {W : Wd} {O0 O : Addr → Prop} {H : Hp} {v : V} {d : D} (s : ∀ a, O0 a → O a) (h : DpB W O0 O H v d) : Dp W O0 H v d := by
  rcases h with h | ⟨a, xs, ds, rfl, rfl, h1, h2, h3, h4⟩
  · exact Dp.ext (T := []) Ext.refl (fun a _ _ _ z => s a z) d v h
  · exact ⟨a, xs, rfl, h1, h2, h3, DpA.ext (T := []) Ext.refl (fun a _ _ _ z => s a z) ds xs h4⟩
end DL
namespace DL
open PySem PySem.Spec PyProof.Rows L2

/-! ### data as the library has it -/
mutual
def D.py : D → PyData
  | .non => .none
  | .bl b => .bool b
  | .int i => .int i
  | .str x => .str x
  | .tup ds => .tuple (D.pyA ds)
  | .lst ds => .list (D.pyA ds)
  | .dct _ _ => .dict []
  | .town => .dict []
  | .scr => .dict []
  | .obj _ => .dict []
  | .ftp _ => .dict []
def D.pyA : List D → List PyData
  | [] => []
  | d :: ds => d.py :: D.pyA ds
end
def shp (d : D) : Bool := SeqAt.shaped d.py
def eqD (a b : D) : Bool := PyData.eqv a.py b.py
section
variable {W : Wd} {O0 O : Addr → Prop} {H : Hp}
mutual
theorem Dp.py : ∀ (d : D) (v : V), Dp W O H v d → d.py.canLay0 = true → L2.Dp W.K H v d.py
  | .non, _, h, _ => by cases h; exact .non
  | .bl _, _, h, _ => by cases h; exact .bl _
  | .int _, _, h, _ => by cases h; exact .int _
  | .str _, _, h, _ => by cases h; exact .str _
  | .tup ds, _, h, c => by
    obtain ⟨a, xs, rfl, t, n, r⟩ := h
    exact .tup t.sq (DpA.py ds xs r (by simpa [D.py, PyData.canLay0] using c))
  | .lst ds, _, h, c => by
    obtain ⟨a, xs, rfl, o, t, n, r⟩ := h
    exact .lst (.inl (.inl t)) (DpA.py ds xs r (by simpa [D.py, PyData.canLay0] using c))
  | .dct _ _, _, _, c => by simp [D.py, PyData.canLay0] at c
  | .town, _, _, c => by simp [D.py, PyData.canLay0] at c
  | .scr, _, _, c => by simp [D.py, PyData.canLay0] at c
  | .obj _, _, _, c => by simp [D.py, PyData.canLay0] at c
  | .ftp _, _, _, c => by simp [D.py, PyData.canLay0] at c
theorem DpA.py : ∀ (ds : List D) (vs : List V), DpA W O H vs ds → PyData.canLayAll0 (D.pyA ds) = true → L2.DpAll W.K H vs (D.pyA ds)
  | [], [], _, _ => .nil
  | [], _ :: _, h, _ => h.elim
  | _ :: _, [], h, _ => h.elim
  | d :: ds, v :: vs, h, c => by
    have c' : d.py.canLay0 = true ∧ PyData.canLayAll0 (D.pyA ds) = true := by simpa [D.pyA, PyData.canLayAll0] using c
    exact .cons (Dp.py d v h.1 c'.1) (DpA.py ds vs h.2 c'.2)
end
theorem DpB.py {v : V} {d : D} (h : DpB W O0 O H v d) (c : shp d = true) : L2.Dp W.K H v d.py := by
  have c' : d.py.canLay0 = true := (Bool.and_eq_true_iff.mp c).1
  rcases h with h | ⟨a, xs, ds, rfl, rfl, h1, h2, h3, h4⟩
  · exact Dp.py d v h c'
  · exact .lst (.inl (.inl h2)) (DpA.py ds xs h4 (by simpa [D.py, PyData.canLay0] using c'))
theorem DpB.non {v : V} (h : DpB W O0 O H v .non) : v = .non := by
  rcases h with h | ⟨a, xs, ds, _, e, _⟩
  · exact h
  · cases e
theorem DpB.bl {v : V} {b : Bool} (h : DpB W O0 O H v (.bl b)) : v = .bl b := by
  rcases h with h | ⟨a, xs, ds, _, e, _⟩
  · exact h
  · cases e
theorem DpB.int {v : V} {i : Int} (h : DpB W O0 O H v (.int i)) : v = .int i := by
  rcases h with h | ⟨a, xs, ds, _, e, _⟩
  · exact h
  · cases e
theorem DpB.str {v : V} {x : Str} (h : DpB W O0 O H v (.str x)) : v = .str x := by
  rcases h with h | ⟨a, xs, ds, _, e, _⟩
  · exact h
  · cases e
theorem DpB.tup {v : V} {ds : List D} (h : DpB W O0 O H v (.tup ds)) : ∃ a xs, v = .ref a ∧ TupAt W O H a xs ∧ ds.length ≤ sizeLine ∧ DpA W O H xs ds := by
  rcases h with h | ⟨a, xs, ds, _, e, _⟩
  · exact h
  · cases e
theorem DpB.lst {v : V} {ds : List D} (h : DpB W O0 O H v (.lst ds)) : ∃ a xs, v = .ref a ∧ H a = some (.lst xs) ∧ ds.length ≤ sizeLine ∧ DpA W O H xs ds := by
  rcases h with ⟨a, xs, e1, o, t, n, r⟩ | ⟨a, xs, es, e1, e, h1, h2, h3, h4⟩
  · exact ⟨a, xs, e1, t, n, r⟩
  · cases e
    exact ⟨a, xs, e1, h2, h3, h4⟩
end

/-! ### the judgements -/
/-- nothing is tracked there but a table of code objects, perhaps -/
def Fresh (H : Hp) (p : Addr) : Prop := ∀ o, H p = some o → ∃ ps, o = .tbl ps
theorem Ext.fresh {T : Tb} {H H' : Hp} {p : Addr} (e : Ext T H H') (n : H' p = none) : Fresh H p := fun o h => by
  by_cases z : ∃ ps, o = .tbl ps
  · exact z
  · have q := e.n p o h fun ps e => z ⟨ps, e⟩
    rw [n] at q; cases q
structure Jd where
  T : Tb
  ca : Str → Addr
abbrev wd (X : Cx) : Wd := ⟨X.prog, X.w, X.K⟩
abbrev RX := Str → Prop
abbrev DT := Rho → (D → Prop) → RX → Prop
abbrev DTA := Rho → (List D → Prop) → RX → Prop
abbrev DTQ := Rho → (Bool → Prop) → RX → Prop
def EOk (J : Jd) (E : XK) (B : Bs) (R : RX) : Prop := ∀ nm H', BOk J.T B H' → R nm → E (.ref (J.ca nm)) none H'
def Fin (W : Wd) (T : Tb) (O : Addr → Prop) (H : Hp) (Q : VK) (P : D → Prop) : Prop := ∀ v H' d, Ext T H H' → Dp W O H' v d → P d → Q v H'
def FinB (W : Wd) (T : Tb) (O0 O : Addr → Prop) (H : Hp) (Q : VK) (P : D → Prop) : Prop := ∀ v H' d, Ext T H H' → DpB W O0 O H' v d → P d → Q v H'
/-- a value that may be kept -/
structure DE (J : Jd) (X : Cx) (E : XK) (e : Expr) (t : DT) : Prop where
  ex : ∃ te, PE X e te ∧ ∀ B O H σ ρ P R Q, Rel (wd X) J.T B O H σ ρ → EOk J E B R → t ρ P R → Fin (wd X) J.T O H Q P → te σ H Q
/-- a value that is read at once -/
structure DB (J : Jd) (X : Cx) (E : XK) (e : Expr) (t : DT) : Prop where
  ex : ∃ te, PE X e te ∧ ∀ B O H σ ρ P R Q, Rel (wd X) J.T B O H σ ρ → EOk J E B R → t ρ P R → FinB (wd X) J.T B.O0 O H Q P → te σ H Q
/-- a new list -/
structure DF (J : Jd) (X : Cx) (E : XK) (e : Expr) (t : DTA) : Prop where
  ex : ∃ te, PE X e te ∧ ∀ B O H σ ρ (P : List D → Prop) R Q, Rel (wd X) J.T B O H σ ρ → EOk J E B R → t ρ P R →
    (∀ p xs H' ds, Ext J.T H H' → Fresh H p → ¬ O p → B.Hb p = none → H' p = some (.lst xs) → ds.length ≤ sizeLine → DpA (wd X) (fun a => O a ∨ a = p) H' xs ds → P ds → Q (.ref p) H') → te σ H Q
structure DA (J : Jd) (X : Cx) (E : XK) (es : List Expr) (t : DTA) : Prop where
  ex : ∃ te, PA X es te ∧ ∀ B O H σ ρ (P : List D → Prop) R Q, Rel (wd X) J.T B O H σ ρ → EOk J E B R → t ρ P R →
    (∀ vs H' ds, Ext J.T H H' → DpA (wd X) O H' vs ds → P ds → Q vs H') → te σ H Q
structure DQ (J : Jd) (X : Cx) (E : XK) (e : Expr) (t : DTQ) : Prop where
  ex : ∃ te, PT X e te ∧ ∀ B O H σ ρ (P : Bool → Prop) R Q, Rel (wd X) J.T B O H σ ρ → EOk J E B R → t ρ P R → (∀ b H', Ext J.T H H' → P b → Q b H') → te σ H Q
structure DW (J : Jd) (X : Cx) (E : XK) (e : Expr) (t : DTQ) : Prop where
  ex : ∃ te, PW X e te ∧ ∀ B O H σ ρ (P : Bool → Prop) R Q, Rel (wd X) J.T B O H σ ρ → EOk J E B R → t ρ P R → (∀ b H', Ext J.T H H' → P b → Q b H') → te σ H Q

section
variable {J : Jd} {X : Cx} {E : XK} {e e1 e2 e3 : Expr} {es : List Expr} {t ta tb tc : DT} {tA : DTA} {q q' : DTQ} {pos : Pos}
theorem DE.bb (h : DE J X E e t) : DB J X E e t := by
  obtain ⟨te, p, s⟩ := h.ex
  exact ⟨te, p, fun B O H σ ρ P R Q r x ht f => s B O H σ ρ P R Q r x ht fun v H' d x h => f v H' d x (.inl h)⟩
@[simp] def dOfL (t : DTA) : DT := fun ρ P R => t ρ (fun ds => P (.lst ds)) R
theorem DF.ee (h : DF J X E e tA) : DE J X E e (dOfL tA) := by
  obtain ⟨te, p, s⟩ := h.ex
  refine ⟨te, p, fun B O H σ ρ P R Q r x ht f => s B O H σ ρ _ R Q r x ht fun p xs H' ds x1 _ n _ h1 h2 h3 h4 => ?_⟩
  exact f (.ref p) H' (.lst ds) x1 ⟨p, xs, rfl, n, h1, h2, DpA.ext (Ext.refl (T := J.T)) (fun _ _ _ _ z => .inl z) ds xs h3⟩ h4

/-! ### constants, names -/
@[simp] def dC (d : D) : DT := fun _ P _ => P d
theorem de_int {i j} : DE J X E (.Constant (.int i) j pos) (dC (.int i)) := ⟨_, pe_int, fun _ _ H _ _ _ _ _ _ _ h f => f _ H (D.int i) Ext.refl rfl h⟩
theorem de_bl {i j} : DE J X E (.Constant (.bool i) j pos) (dC (.bl i)) := ⟨_, pe_bl, fun _ _ H _ _ _ _ _ _ _ h f => f _ H (D.bl i) Ext.refl rfl h⟩
theorem de_non {j} : DE J X E (.Constant .none j pos) (dC .non) := ⟨_, pe_non, fun _ _ H _ _ _ _ _ _ _ h f => f _ H (D.non) Ext.refl rfl h⟩
theorem de_str {x j} : DE J X E (.Constant (.str x) j pos) (dC (.str x)) := ⟨_, pe_str, fun _ _ H _ _ _ _ _ _ _ h f => f _ H (D.str x) Ext.refl rfl h⟩
@[simp] def slP (s : Option Sl) (P : D → Prop) : Prop := match s with
  | some (.val d) => P d
  | _ => False
@[simp] def slB (s : Option Sl) (P : D → Prop) : Prop := match s with
  | some (.val d) => P d
  | some (.own ds) => P (.lst ds)
  | _ => False
@[simp] def dV (i : Nat) : DT := fun ρ P _ => slP ρ[i]? P
@[simp] def dVB (i : Nat) : DT := fun ρ P _ => slB ρ[i]? P
theorem de_v (i : Nat) {x : Str} (h : PE X (.Name x pos) (tVar i)) : DE J X E (.Name x pos) (dV i) := by
  refine ⟨_, h, fun B O H σ ρ P R Q r x ht f => ?_⟩
  have ht : slP ρ[i]? P := ht
  cases e : ρ[i]? with
  | none => rw [e] at ht; exact ht.elim
  | some s =>
    rw [e] at ht
    cases s with
    | non => exact ht.elim
    | own _ => exact ht.elim
    | val d =>
      obtain ⟨v, e1, h1⟩ := r.sl i _ e
      refine ⟨v, ?_, f v H d Ext.refl h1 ht⟩
      cases z : σ[i]? with
      | none => rw [z] at e1; cases e1
      | some o => rw [z] at e1; exact congrArg some e1
theorem db_v (i : Nat) {x : Str} (h : PE X (.Name x pos) (tVar i)) : DB J X E (.Name x pos) (dVB i) := by
  refine ⟨_, h, fun B O H σ ρ P R Q r x ht f => ?_⟩
  have ht : slB ρ[i]? P := ht
  cases e : ρ[i]? with
  | none => rw [e] at ht; exact ht.elim
  | some s =>
    rw [e] at ht
    cases s with
    | non => exact ht.elim
    | own ds =>
      obtain ⟨a, xs, e1, h1, h2, h3, h4, h5, h6⟩ := r.sl i _ e
      refine ⟨.ref a, ?_, f _ H _ Ext.refl (.inr ⟨a, xs, ds, rfl, rfl, h2, h4, h5, h6⟩) ht⟩
      cases z : σ[i]? with
      | none => rw [z] at e1; cases e1
      | some o => rw [z] at e1; exact congrArg some e1
    | val d =>
      obtain ⟨v, e1, h1⟩ := r.sl i _ e
      refine ⟨v, ?_, f v H d Ext.refl (.inl h1) ht⟩
      cases z : σ[i]? with
      | none => rw [z] at e1; cases e1
      | some o => rw [z] at e1; exact congrArg some e1
/-- a module's constant -/
theorem de_glob {x : Str} {v : V} {u : Value} {d : D} (hg : Gl X x) (hm : X.mg x = some u) (r : RelV v u) (hv : ∀ O H, Dp (wd X) O H v d) (hd : (x == ("__debug__" : Str)) = false := by decide) : DE J X E (.Name x pos) (dC d) :=
  ⟨_, pe_glob hg hm r hd, fun _ O H _ _ _ _ _ _ _ h f => f _ H _ Ext.refl (hv O H) h⟩
theorem de_globS {x y : Str} {k : Tok} (hg : Gl X x) (hm : X.mg x = some (.str y k)) (hd : (x == ("__debug__" : Str)) = false := by decide) : DE J X E (.Name x pos) (dC (.str y)) :=
  de_glob hg hm (v := .str y) ⟨_, rfl⟩ (fun _ _ => rfl) hd
theorem de_globI {x : Str} {i : Int} {k : Tok} (hg : Gl X x) (hm : X.mg x = some (.int i k)) (hd : (x == ("__debug__" : Str)) = false := by decide) : DE J X E (.Name x pos) (dC (.int i)) :=
  de_glob hg hm (v := .int i) ⟨_, rfl⟩ (fun _ _ => rfl) hd

/-! ### lists of arguments, displays -/
@[simp] def dNil : DTA := fun _ P _ => P []
@[simp] def dCons (t : DT) (tA : DTA) : DTA := fun ρ P R => t ρ (fun d => tA ρ (fun ds => P (d :: ds)) R) R
theorem da_nil : DA J X E [] dNil := ⟨_, pa_nil, fun _ _ H _ _ _ _ _ _ _ h f => f [] H [] Ext.refl trivial h⟩
theorem da_cons (h1 : DE J X E e t) (h2 : DA J X E es tA) (hs : starEach (e :: es) X.env = (false, eval e X.env) :: starEach es X.env := by rfl) : DA J X E (e :: es) (dCons t tA) := by
  obtain ⟨te, p1, s1⟩ := h1.ex
  obtain ⟨tr, p2, s2⟩ := h2.ex
  refine ⟨_, pa_cons p1 p2 hs, fun B O H σ ρ P R Q r x ht f => s1 B O H σ ρ _ R _ r x ht fun v H1 d x1 hv h1 => ?_⟩
  exact s2 B O H1 σ ρ _ R _ (r.ext x1) x h1 fun vs H2 ds x2 hvs h2 => f (v :: vs) H2 (d :: ds) (x1.trans x2) ⟨Dp.ext x2 (fun _ _ _ _ z => z) d v hv, hvs⟩ h2
@[simp] def dTup (tA : DTA) : DT := fun ρ P R => tA ρ (fun ds => ds.length ≤ sizeLine ∧ P (.tup ds)) R
theorem de_tup {x1} (h : DA J X E es tA) : DE J X E (.Tuple es x1 pos) (dTup tA) := by
  obtain ⟨te, p, s⟩ := h.ex
  refine ⟨_, pe_tup p, fun B O H σ ρ P R Q r x ht f => s B O H σ ρ _ R _ r x ht fun vs H1 ds e1 hvs ⟨hl, h1⟩ => ?_⟩
  refine ⟨by rw [DpA.len hvs]; exact hl, fun p np => ?_⟩
  exact f (.ref p) _ (.tup ds) (e1.trans (Ext.new np)) ⟨p, vs, rfl, .inl ⟨(r.ext e1).free np, upd_same⟩, hl, DpA.ext (Ext.new (T := J.T) np) (fun _ _ _ _ z => z) ds vs hvs⟩ h1
theorem new_mask {W : Wd} {O : Addr → Prop} {H : Hp} {p : Addr} {o : HO} {vs : List V} {ds : List D} (np : H p = none) (h : DpA W O H vs ds) : DpA W (fun a => O a ∨ a = p) (upd H p o) vs ds :=
  DpA.ext (Ext.new (T := []) np) (fun a u n _ z => z.elim id fun z => by rw [z, np] at n; cases n) ds vs h
@[simp] def dLst (tA : DTA) : DTA := fun ρ P R => tA ρ (fun ds => ds.length ≤ sizeLine ∧ P ds) R
theorem df_lst (h : DA J X E es tA) : DF J X E (.List es pos) (dLst tA) := by
  obtain ⟨te, p, s⟩ := h.ex
  refine ⟨_, pe_lst p, fun B O H σ ρ P R Q r x ht f => s B O H σ ρ _ R _ r x ht fun vs H1 ds e1 hvs ⟨hl, h1⟩ => ?_⟩
  refine ⟨by rw [DpA.len hvs]; exact hl, fun p np => ?_⟩
  exact f p vs _ ds (e1.trans (Ext.new np)) (e1.fresh np) ((r.ext e1).free np) ((r.ext e1).base.none np) upd_same hl (new_mask np hvs) h1
end
end DL
namespace DL
open PySem PySem.Spec PyProof.Rows L2

/-! ### operators -/
abbrev Dom (O : Addr → Prop) (H : Hp) : Prop := ∀ a, O a → ∃ xs, H a = some (.lst xs)
abbrev D2 := D → D → (D → Prop) → Prop
/-- a two-place operation on data -/
def SO (J : Jd) (X : Cx) (r : R2) (f : D2) : Prop :=
  ∀ O0 O H x y dx dy P Q, Dom O H → DpB (wd X) O0 O H x dx → DpB (wd X) O0 O H y dy → f dx dy P → Fin (wd X) J.T O H Q P → r x y H Q
@[simp] def dOp (f : D2) (ta tb : DT) : DT := fun ρ P R => ta ρ (fun x => tb ρ (fun y => f x y P) R) R
theorem Dom.free {O : Addr → Prop} {H : Hp} (d : Dom O H) {p : Addr} (h : H p = none) : ¬ O p := fun z => by
  obtain ⟨xs, e⟩ := d p z
  rw [h] at e; cases e
section
variable {J : Jd} {X : Cx} {E : XK} {e a b c : Expr} {es : List Expr} {t ta tb tc : DT} {tA : DTA} {q q' : DTQ} {pos : Pos}
theorem SO.or {r r' : R2} {f g : D2} (h : SO J X r f) (h' : SO J X r' g) : SO J X (fun x y H Q => r x y H Q ∨ r' x y H Q) (fun x y P => f x y P ∨ g x y P) :=
  fun O0 O H x y dx dy P Q d hx hy hf fin => hf.elim (fun z => .inl (h O0 O H x y dx dy P Q d hx hy z fin)) fun z => .inr (h' O0 O H x y dx dy P Q d hx hy z fin)
theorem SO.imp {r : R2} {f g : D2} (h : SO J X r f) (i : ∀ x y P, g x y P → f x y P) : SO J X r g :=
  fun O0 O H x y dx dy P Q d hx hy hf fin => h O0 O H x y dx dy P Q d hx hy (i _ _ _ hf) fin
theorem binD {ta' tb' : TE} {B : Bs} {O : Addr → Prop} {H : Hp} {σ : St} {ρ : Rho} {P : D → Prop} {R : RX} {Q : VK} {r : R2} {f : D2}
    (s1 : ∀ B O H σ ρ P R Q, Rel (wd X) J.T B O H σ ρ → EOk J E B R → ta ρ P R → FinB (wd X) J.T B.O0 O H Q P → ta' σ H Q)
    (s2 : ∀ B O H σ ρ P R Q, Rel (wd X) J.T B O H σ ρ → EOk J E B R → tb ρ P R → FinB (wd X) J.T B.O0 O H Q P → tb' σ H Q)
    (so : SO J X r f) (rl : Rel (wd X) J.T B O H σ ρ) (x : EOk J E B R) (h : dOp f ta tb ρ P R) (fin : Fin (wd X) J.T O H Q P) : tOp r ta' tb' σ H Q := by
  refine s1 B O H σ ρ _ R _ rl x h fun v H1 d x1 hv h1 => ?_
  refine s2 B O H1 σ ρ _ R _ (rl.ext x1) x h1 fun u H2 d2 x2 hu h2 => ?_
  exact so B.O0 O H2 v u d d2 P Q ((rl.ext x1).ext x2).dom (hv.ext x2) hu h2 fun v' H' d' x' hv' p => fin v' H' d' ((x1.trans x2).trans x') hv' p
theorem de_op {op : Operator} {r : R2} {f : D2} (ho : OpR X (binaryOp op) r) (so : SO J X r f) (ha : DB J X E a ta) (hb : DB J X E b tb) : DE J X E (.BinOp a op b pos) (dOp f ta tb) := by
  obtain ⟨te, p1, s1⟩ := ha.ex
  obtain ⟨tr, p2, s2⟩ := hb.ex
  exact ⟨_, pe_op ho p1 p2, fun B O H σ ρ P R Q rl x h fin => binD s1 s2 so rl x h fin⟩
theorem de_cmp {op : CmpOp} {r : R2} {f : D2} (ho : OpR X (compareOp op) r) (so : SO J X r f) (ha : DB J X E a ta) (hb : DB J X E b tb) (hm : behindInMarks op b = false) : DE J X E (.Compare a [op] [b] pos) (dOp f ta tb) := by
  obtain ⟨te, p1, s1⟩ := ha.ex
  obtain ⟨tr, p2, s2⟩ := hb.ex
  exact ⟨_, pe_cmpR ho p1 p2 hm, fun B O H σ ρ P R Q rl x h fin => binD s1 s2 so rl x h fin⟩
/-- a bool among the data -/
@[simp] def isB (P : Bool → Prop) : D → Prop
  | .bl b => P b
  | _ => False
@[simp] def qV (t : DT) : DTQ := fun ρ P R => t ρ (isB P) R
theorem finB_test {W : Wd} {T : Tb} {O : Addr → Prop} {H : Hp} {P : Bool → Prop} {Q : Bool → Hp → Prop} (f : ∀ b H', Ext T H H' → P b → Q b H') : Fin W T O H (fun x H' => ∃ k, x = V.bl k ∧ Q k H') (isB P) := fun v H' d x hv h => by
  cases d with
  | bl k => exact ⟨k, hv, f k H' x h⟩
  | _ => exact h.elim
theorem dq_cmp {op : CmpOp} {r : R2} {f : D2} (ho : OpR X (compareOp op) r) (so : SO J X r f) (ha : DB J X E a ta) (hb : DB J X E b tb) (hm : behindInMarks op b = false) : DQ J X E (.Compare a [op] [b] pos) (qV (dOp f ta tb)) := by
  obtain ⟨te, p1, s1⟩ := ha.ex
  obtain ⟨tr, p2, s2⟩ := hb.ex
  exact ⟨_, pt_cmpR ho p1 p2 hm, fun B O H σ ρ P R Q rl x h fin => binD s1 s2 so rl x h (finB_test fin)⟩
theorem dq_val (h : DE J X E e t) (he : ∀ whole, isTrue e X.env whole = (do let v ← whole; standAt e.pos; holding [v] (truthy v)) := by intro _; rfl) : DQ J X E e (qV t) := by
  obtain ⟨te, p, s⟩ := h.ex
  exact ⟨_, pt_val p he, fun B O H σ ρ P R Q rl x h fin => s B O H σ ρ _ R _ rl x h (finB_test fin)⟩
/-! ### and, or, not -/
@[simp] def qAnd (q q' : DTQ) : DTQ := fun ρ P R => q ρ (fun k => if k = true then q' ρ P R else P false) R
@[simp] def qOr (q q' : DTQ) : DTQ := fun ρ P R => q ρ (fun k => if k = true then P true else q' ρ P R) R
@[simp] def qNot (q : DTQ) : DTQ := fun ρ P R => q ρ (fun k => P (!k)) R
theorem DW.dq (h : DW J X E e q) : DQ J X E e q := by
  obtain ⟨te, p, s⟩ := h.ex
  exact ⟨te, p.pt, s⟩
theorem dw_and1 (h : DQ J X E a q) : DW J X E (.BoolOp .And [a] pos) q := by
  obtain ⟨te, p, s⟩ := h.ex
  exact ⟨te, pw_and1 p, s⟩
theorem dw_or1 (h : DQ J X E a q) : DW J X E (.BoolOp .Or [a] pos) q := by
  obtain ⟨te, p, s⟩ := h.ex
  exact ⟨te, pw_or1 p, s⟩
theorem dw_and {rest : List Expr} (h1 : DQ J X E a q) (h2 : DW J X E (.BoolOp .And (b :: rest) pos) q') : DW J X E (.BoolOp .And (a :: b :: rest) pos) (qAnd q q') := by
  obtain ⟨te, p1, s1⟩ := h1.ex
  obtain ⟨tr, p2, s2⟩ := h2.ex
  refine ⟨_, pw_and p1 p2, fun B O H σ ρ P R Q rl x h fin => s1 B O H σ ρ _ R _ rl x h fun k H1 x1 h1 => ?_⟩
  cases k with
  | true => exact s2 B O H1 σ ρ P R Q (rl.ext x1) x h1 fun k H2 x2 h2 => fin k H2 (x1.trans x2) h2
  | false => exact fin false H1 x1 h1
theorem dw_or {rest : List Expr} (h1 : DQ J X E a q) (h2 : DW J X E (.BoolOp .Or (b :: rest) pos) q') : DW J X E (.BoolOp .Or (a :: b :: rest) pos) (qOr q q') := by
  obtain ⟨te, p1, s1⟩ := h1.ex
  obtain ⟨tr, p2, s2⟩ := h2.ex
  refine ⟨_, pw_or p1 p2, fun B O H σ ρ P R Q rl x h fin => s1 B O H σ ρ _ R _ rl x h fun k H1 x1 h1 => ?_⟩
  cases k with
  | false => exact s2 B O H1 σ ρ P R Q (rl.ext x1) x h1 fun k H2 x2 h2 => fin k H2 (x1.trans x2) h2
  | true => exact fin true H1 x1 h1
theorem dq_not (h : DQ J X E a q) : DQ J X E (.UnaryOp .Not a pos) (qNot q) := by
  obtain ⟨te, p, s⟩ := h.ex
  exact ⟨_, pt_not p, fun B O H σ ρ P R Q rl x h fin => s B O H σ ρ _ R _ rl x h fun k H1 x1 h1 => fin (!k) H1 x1 h1⟩
/-- .. as values -/
@[simp] def dAnd (t u : DT) : DT := fun ρ P R => t ρ (isB fun k => if k = true then u ρ P R else P (.bl false)) R
@[simp] def dOr (t u : DT) : DT := fun ρ P R => t ρ (isB fun k => if k = true then P (.bl true) else u ρ P R) R
@[simp] def dNot (t : DT) : DT := fun ρ P R => t ρ (isB fun k => P (.bl (!k))) R
theorem de_one {op} (h : DE J X E a t) : DE J X E (.BoolOp op [a] pos) t := by
  obtain ⟨te, p, s⟩ := h.ex
  exact ⟨te, pe_one p, s⟩
theorem de_and {rest : List Expr} (h1 : DE J X E a ta) (h2 : DE J X E (.BoolOp .And (b :: rest) pos) tb) : DE J X E (.BoolOp .And (a :: b :: rest) pos) (dAnd ta tb) := by
  obtain ⟨te, p1, s1⟩ := h1.ex
  obtain ⟨tr, p2, s2⟩ := h2.ex
  refine ⟨_, pe_and p1 p2, fun B O H σ ρ P R Q rl x h fin => s1 B O H σ ρ _ R _ rl x h fun v H1 d x1 hv h1 => ?_⟩
  cases d with
  | bl k =>
    refine ⟨k, hv, ?_⟩
    cases k with
    | true => exact s2 B O H1 σ ρ P R Q (rl.ext x1) x h1 fun v H2 d x2 h2 p => fin v H2 d (x1.trans x2) h2 p
    | false => exact fin _ H1 (.bl false) x1 rfl h1
  | _ => exact h1.elim
theorem de_or {rest : List Expr} (h1 : DE J X E a ta) (h2 : DE J X E (.BoolOp .Or (b :: rest) pos) tb) : DE J X E (.BoolOp .Or (a :: b :: rest) pos) (dOr ta tb) := by
  obtain ⟨te, p1, s1⟩ := h1.ex
  obtain ⟨tr, p2, s2⟩ := h2.ex
  refine ⟨_, pe_or p1 p2, fun B O H σ ρ P R Q rl x h fin => s1 B O H σ ρ _ R _ rl x h fun v H1 d x1 hv h1 => ?_⟩
  cases d with
  | bl k =>
    refine ⟨k, hv, ?_⟩
    cases k with
    | false => exact s2 B O H1 σ ρ P R Q (rl.ext x1) x h1 fun v H2 d x2 h2 p => fin v H2 d (x1.trans x2) h2 p
    | true => exact fin _ H1 (.bl true) x1 rfl h1
  | _ => exact h1.elim
theorem de_not (h : DE J X E a t) : DE J X E (.UnaryOp .Not a pos) (dNot t) := by
  obtain ⟨te, p, s⟩ := h.ex
  refine ⟨_, pe_not p, fun B O H σ ρ P R Q rl x h fin => s B O H σ ρ _ R _ rl x h fun v H1 d x1 hv h1 => ?_⟩
  cases d with
  | bl k => exact ⟨k, hv, fin _ H1 (.bl (!k)) x1 rfl h1⟩
  | _ => exact h1.elim
@[simp] def dIf (q : DTQ) (ta tb : DT) : DT := fun ρ P R => q ρ (fun k => if k = true then ta ρ P R else tb ρ P R) R
theorem de_ifE (hc : DQ J X E c q) (ha : DE J X E a ta) (hb : DE J X E b tb) : DE J X E (.IfExp c a b pos) (dIf q ta tb) := by
  obtain ⟨te, p, s⟩ := hc.ex
  obtain ⟨t1, p1, s1⟩ := ha.ex
  obtain ⟨t2, p2, s2⟩ := hb.ex
  refine ⟨_, pe_ifExp p p1 p2, fun B O H σ ρ P R Q rl x h fin => s B O H σ ρ _ R _ rl x h fun k H1 x1 h1 => ?_⟩
  cases k with
  | true => exact s1 B O H1 σ ρ P R Q (rl.ext x1) x h1 fun v H2 d x2 h2 p => fin v H2 d (x1.trans x2) h2 p
  | false => exact s2 B O H1 σ ρ P R Q (rl.ext x1) x h1 fun v H2 d x2 h2 p => fin v H2 d (x1.trans x2) h2 p
/-- a op b op' c -/
@[simp] def dChain (f g : D2) (ta tb tc : DT) : DT := fun ρ P R => ta ρ (fun x => tb ρ (fun y => f x y (isB fun k => if k = true then tc ρ (fun z => g y z P) R else P (.bl false))) R) R
theorem de_chain {op op' : CmpOp} {r r' : R2} {f g : D2} (ho : OpR X (compareOp op) r) (ho' : OpR X (compareOp op') r') (so : SO J X r f) (so' : SO J X r' g) (ha : DB J X E a ta) (hb : DB J X E b tb) (hc : DB J X E c tc)
    (hm : lastMarks [op, op'] [b, c] = false := by with_unfolding_all rfl) : DE J X E (.Compare a [op, op'] [b, c] pos) (dChain f g ta tb tc) := by
  obtain ⟨t1, p1, s1⟩ := ha.ex
  obtain ⟨t2, p2, s2⟩ := hb.ex
  obtain ⟨t3, p3, s3⟩ := hc.ex
  refine ⟨_, pe_chain ho ho' p1 p2 p3 hm, fun B O H σ ρ P R Q rl x h fin => s1 B O H σ ρ _ R _ rl x h fun v H1 d x1 hv h1 => s2 B O H1 σ ρ _ R _ (rl.ext x1) x h1 fun u H2 d2 x2 hu h2 => ?_⟩
  have rl2 := (rl.ext x1).ext x2
  refine so B.O0 O H2 v u d d2 _ _ rl2.dom (hv.ext x2) hu h2 fun v3 H3 d3 x3 hv3 h3 => ?_
  cases d3 with
  | bl k =>
    refine ⟨k, hv3, ?_⟩
    cases k with
    | false => exact fin _ H3 (.bl false) ((x1.trans x2).trans x3) rfl h3
    | true =>
      refine s3 B O H3 σ ρ _ R _ (rl2.ext x3) x h3 fun w H4 d4 x4 hw h4 => ?_
      exact so' B.O0 O H4 u w d2 d4 P Q ((rl2.ext x3).ext x4).dom ((hu.ext x3).ext x4) hw h4 fun v' H' d' x' hv' p => fin v' H' d' ((((x1.trans x2).trans x3).trans x4).trans x') hv' p
  | _ => exact h3.elim

/-! ### the operations -/
@[simp] def fII (g : Int → Int → D) : D2 := fun x y P => match x, y with
  | .int i, .int j => P (g i j)
  | _, _ => False
@[simp] def fIC (C : Int → Int → Prop) (g : Int → Int → D) : D2 := fun x y P => match x, y with
  | .int i, .int j => C i j ∧ P (g i j)
  | _, _ => False
theorem so_int {g : Int → Int → Int} : SO J X (rI0 fun i j => .int (g i j)) (fII fun i j => .int (g i j)) := fun O0 O H x y dx dy P Q _ hx hy h fin => by
  cases dx with
  | int i =>
    cases dy with
    | int j => exact ⟨i, j, hx.int, hy.int, fin _ H (.int (g i j)) Ext.refl rfl h⟩
    | _ => exact h.elim
  | _ => exact h.elim
theorem so_intC {C : Int → Int → Prop} {g : Int → Int → Int} : SO J X (rI C fun i j => .int (g i j)) (fIC C fun i j => .int (g i j)) := fun O0 O H x y dx dy P Q _ hx hy h fin => by
  cases dx with
  | int i =>
    cases dy with
    | int j => exact ⟨i, j, hx.int, hy.int, h.1, fin _ H (.int (g i j)) Ext.refl rfl h.2⟩
    | _ => exact h.elim
  | _ => exact h.elim
theorem so_intB {g : Int → Int → Bool} : SO J X (rI0 fun i j => .bl (g i j)) (fII fun i j => .bl (g i j)) := fun O0 O H x y dx dy P Q _ hx hy h fin => by
  cases dx with
  | int i =>
    cases dy with
    | int j => exact ⟨i, j, hx.int, hy.int, fin _ H (.bl (g i j)) Ext.refl rfl h⟩
    | _ => exact h.elim
  | _ => exact h.elim
/-- + of ints, texts, tuples, lists -/
@[simp] def fAdd : D2 := fun x y P => match x, y with
  | .int i, .int j => P (.int (i + j))
  | .str i, .str j => i.length + j.length ≤ sizeLine ∧ P (.str (i ++ j))
  | .tup ds, .tup es => ds.length + es.length ≤ sizeLine ∧ P (.tup (ds ++ es))
  | _, _ => False
def rAddA (K : PySem.W.Frag) : R2 := fun x y H Q => (∃ i j, x = V.int i ∧ y = V.int j ∧ Q (.int (i + j)) H) ∨ ((∃ i j, x = V.str i ∧ y = V.str j ∧ i.length + j.length ≤ sizeLine ∧ Q (.str (i ++ j)) H) ∨ rCatA K x y H Q)
theorem op_addA : OpR X (binaryOp .Add) (rAddA X.K) := OpR.or op_add (OpR.or op_add_str op_catA)
theorem TupAt.inj {W : Wd} {O : Addr → Prop} {H : Hp} {a : Addr} {xs : List V} (h : TupAt W O H a xs) : True := trivial
theorem so_add : SO J X (rAddA X.K) fAdd := fun O0 O H x y dx dy P Q dm hx hy h fin => by
  cases dx with
  | int i =>
    cases dy with
    | int j => exact .inl ⟨i, j, hx.int, hy.int, fin _ H (.int (i + j)) Ext.refl rfl h⟩
    | _ => exact h.elim
  | str i =>
    cases dy with
    | str j => exact .inr (.inl ⟨i, j, hx.str, hy.str, h.1, fin _ H (.str (i ++ j)) Ext.refl rfl h.2⟩)
    | _ => exact h.elim
  | tup ds =>
    cases dy with
    | tup es =>
      obtain ⟨a, xs, rfl, t1, n1, r1⟩ := hx.tup
      obtain ⟨b, ys, rfl, t2, n2, r2⟩ := hy.tup
      have l1 := DpA.len r1
      have l2 := DpA.len r2
      refine .inr (.inr ⟨a, b, xs, ys, rfl, rfl, t1.sq, t2.sq, by rw [l1, l2]; exact h.1, fun z => ?_, fun _ z => ?_, fun _ _ p np => ?_⟩)
      · subst z
        have e : ds = [] := List.eq_nil_of_length_eq_zero (by rw [← l1]; rfl)
        subst e
        exact fin _ H (.tup es) Ext.refl ⟨b, ys, rfl, t2, n2, r2⟩ h.2
      · subst z
        have e : es = [] := List.eq_nil_of_length_eq_zero (by rw [← l2]; rfl)
        subst e
        refine fin _ H (.tup ds) Ext.refl ⟨a, xs, rfl, t1, n1, r1⟩ (by have := h.2; rwa [List.append_nil] at this)
      · refine fin _ _ (.tup (ds ++ es)) (Ext.new np) ⟨p, xs ++ ys, rfl, .inl ⟨dm.free np, upd_same⟩, by rw [List.length_append]; exact h.1, DpA.ext (Ext.new (T := J.T) np) (fun _ _ _ _ z => z) _ _ (r1.append r2)⟩ h.2
    | _ => exact h.elim
  | _ => exact h.elim
/-- == and != of data -/
@[simp] def fEq : D2 := fun x y P => shp x = true ∧ shp y = true ∧ P (.bl (eqD x y))
@[simp] def fNe : D2 := fun x y P => shp x = true ∧ shp y = true ∧ P (.bl (!eqD x y))
theorem so_eq : SO J X (rEqD X.K) fEq := fun O0 O H x y dx dy P Q _ hx hy h fin =>
  ⟨dx.py, dy.py, hx.py h.1, hy.py h.2.1, h.1, h.2.1, fin _ H (.bl (eqD dx dy)) Ext.refl rfl h.2.2⟩
theorem so_ne : SO J X (rNeD X.K) fNe := fun O0 O H x y dx dy P Q _ hx hy h fin =>
  ⟨dx.py, dy.py, hx.py h.1, hy.py h.2.1, h.1, h.2.1, fin _ H (.bl (!eqD dx dy)) Ext.refl rfl h.2.2⟩
/-- < of ints, texts -/
@[simp] def fLt : D2 := fun x y P => match x, y with
  | .int i, .int j => P (.bl (decide (i < j)))
  | .str i, .str j => P (.bl (decide (i.cps.toList < j.cps.toList)))
  | _, _ => False
def rLtA : R2 := fun x y H Q => (∃ i j, x = V.int i ∧ y = V.int j ∧ Q (.bl (decide (i < j))) H) ∨ (∃ i j, x = V.str i ∧ y = V.str j ∧ Q (.bl (decide (i.cps.toList < j.cps.toList))) H)
theorem op_ltA : OpR X (compareOp .Lt) rLtA := OpR.or op_lt op_lt_str
theorem so_lt : SO J X rLtA fLt := fun O0 O H x y dx dy P Q _ hx hy h fin => by
  cases dx with
  | int i =>
    cases dy with
    | int j => exact .inl ⟨i, j, hx.int, hy.int, fin _ H (.bl _) Ext.refl rfl h⟩
    | _ => exact h.elim
  | str i =>
    cases dy with
    | str j => exact .inr ⟨i, j, hx.str, hy.str, fin _ H (.bl _) Ext.refl rfl h⟩
    | _ => exact h.elim
  | _ => exact h.elim
/-- is None, is not None -/
def isNon : D → Bool
  | .non => true
  | _ => false
theorem isN_of {W : Wd} {O0 O : Addr → Prop} {H : Hp} {x : V} : ∀ {d : D}, DpB W O0 O H x d → (∀ v, d ≠ .obj v) → decide (x = .non) = isNon d
  | .non, h, _ => by rw [h.non]; rfl
  | .bl _, h, _ => by rw [h.bl]; rfl
  | .int _, h, _ => by rw [h.int]; rfl
  | .str _, h, _ => by rw [h.str]; rfl
  | .tup _, h, _ => by obtain ⟨a, _, e, _⟩ := h.tup; rw [e]; rfl
  | .lst _, h, _ => by obtain ⟨a, _, e, _⟩ := h.lst; rw [e]; rfl
  | .dct _ _, h, _ => by
    rcases h with ⟨a, _, e, _⟩ | ⟨_, _, _, _, e, _⟩
    · rw [e]; rfl
    · cases e
  | .town, h, _ => by
    rcases h with ⟨a, _, e, _⟩ | ⟨_, _, _, _, e, _⟩
    · rw [e]; rfl
    · cases e
  | .scr, h, _ => by
    rcases h with ⟨a, _, e, _⟩ | ⟨_, _, _, _, e, _⟩
    · rw [e]; rfl
    · cases e
  | .obj v, _, ho => absurd rfl (ho v)
  | .ftp _, h, _ => by
    rcases h with ⟨a, _, _, e, _⟩ | ⟨_, _, _, _, e, _⟩
    · rw [e]; rfl
    · cases e
@[simp] def fIsN : D2 := fun x y P => match x, y with
  | .obj _, _ => False
  | .non, .non => P (.bl true)
  | _, .non => P (.bl false)
  | _, _ => False
@[simp] def fNotN : D2 := fun x y P => match x, y with
  | .obj _, _ => False
  | .non, .non => P (.bl false)
  | _, .non => P (.bl true)
  | _, _ => False
theorem so_isN : SO J X (fun x y H Q => y = .non ∧ Q (.bl (decide (x = .non))) H) fIsN := fun O0 O H x y dx dy P Q _ hx hy h fin => by
  cases dy with
  | non =>
    refine ⟨hy.non, ?_⟩
    cases dx with
    | obj v => exact h.elim
    | _ =>
      rw [isN_of hx (fun _ z => by cases z)]
      exact fin _ H (.bl _) Ext.refl rfl h
  | _ => cases dx <;> exact h.elim
theorem so_notN : SO J X (fun x y H Q => y = .non ∧ Q (.bl (!decide (x = .non))) H) fNotN := fun O0 O H x y dx dy P Q _ hx hy h fin => by
  cases dy with
  | non =>
    refine ⟨hy.non, ?_⟩
    cases dx with
    | obj v => exact h.elim
    | _ =>
      rw [isN_of hx (fun _ z => by cases z)]
      exact fin _ H (.bl _) Ext.refl rfl h
  | _ => cases dx <;> exact h.elim
/-- a sign or a text within a text -/
def inStr (i j : Str) : Bool := match i.cps.toList with
  | [c] => decide (c ∈ j.cps.toList)
  | _ => !(Builtin.Str.occurrences j i 0 j.length 1).isEmpty
def fInS : D2 := fun x y P => match x, y with
  | .str i, .str j => P (.bl (inStr i j))
  | _, _ => False
def rInSA : R2 := fun x y H Q => (∃ (c : Nat) (z : Str), x = .str ⟨#[c]⟩ ∧ y = .str z ∧ Q (.bl (decide (c ∈ z.cps.toList))) H) ∨ (∃ i j, x = V.str i ∧ y = V.str j ∧ Q (.bl (!(Builtin.Str.occurrences j i 0 j.length 1).isEmpty)) H)
theorem op_inSA : OpR X (compareOp .In) rInSA := OpR.or op_in_sign op_in_str
theorem str_of {i : Str} {l : List Nat} (e : i.cps.toList = l) : i = ⟨l.toArray⟩ := by
  obtain ⟨a⟩ := i
  subst e
  rfl
theorem so_inS : SO J X rInSA fInS := fun O0 O H x y dx dy P Q _ hx hy h fin => by
  cases dx with
  | str i =>
    cases dy with
    | str j =>
      have h : P (.bl (inStr i j)) := h
      have hx := hx.str
      have hy := hy.str
      unfold inStr at h
      split at h
      · rename_i c e
        exact .inl ⟨c, j, by rw [hx, str_of e], hy, fin _ H (.bl _) Ext.refl rfl h⟩
      · exact .inr ⟨i, j, hx, hy, fin _ H (.bl _) Ext.refl rfl h⟩
    | _ => exact h.elim
  | _ => exact h.elim
/-- in a list, in a tuple of data -/
def fInL (neg : Bool) : D2 := fun x y P => match y with
  | .lst ds => shp x = true ∧ shp (.lst ds) = true ∧ P (.bl (if neg then !(ds.any fun z => eqD z x) else ds.any fun z => eqD z x))
  | _ => False
theorem pyA_map (ds : List D) : D.pyA ds = ds.map D.py := by
  induction ds with
  | nil => rfl
  | cons d ds ih => rw [D.pyA, ih]; rfl
theorem any_py (x : D) (ds : List D) : ((D.pyA ds).any fun z => PyData.eqv z x.py) = ds.any fun z => eqD z x := by
  rw [pyA_map, List.any_map]; rfl
theorem so_inL : SO J X (rInD X.K) (fInL false) := fun O0 O H x y dx dy P Q _ hx hy h fin => by
  cases dy with
  | lst ds =>
    refine ⟨dx.py, D.pyA ds, hx.py h.1, hy.py h.2.1, h.1, h.2.1, ?_⟩
    rw [any_py]
    exact fin _ H (.bl _) Ext.refl rfl h.2.2
  | _ => exact h.elim
theorem so_notInL : SO J X (rNotInD X.K) (fInL true) := fun O0 O H x y dx dy P Q _ hx hy h fin => by
  cases dy with
  | lst ds =>
    refine ⟨dx.py, D.pyA ds, hx.py h.1, hy.py h.2.1, h.1, h.2.1, ?_⟩
    rw [any_py]
    exact fin _ H (.bl _) Ext.refl rfl h.2.2
  | _ => exact h.elim
end
end DL
namespace DL
open PySem PySem.Spec PyProof.Rows L2

section
variable {J : Jd} {X : Cx} {E : XK} {e a b c : Expr} {es : List Expr} {t ta tb tc : DT} {tA : DTA} {q q' : DTQ} {pos : Pos}
/-! ### the judgements by one canonical reading -/
def upE (W : Wd) (J : Jd) (E : XK) (t : DT) : TE := fun σ H Q => ∃ B O ρ P R, Rel W J.T B O H σ ρ ∧ EOk J E B R ∧ t ρ P R ∧ Fin W J.T O H Q P
theorem DE.up (h : DE J X E e t) : PE X e (upE (wd X) J E t) := by
  obtain ⟨te, p, s⟩ := h.ex
  refine ⟨fun pins st σ H Q I hh => ?_⟩
  obtain ⟨B, O, ρ, P, R, rl, x, ht, f⟩ := hh
  exact p.run pins st σ H Q I (s B O H σ ρ P R Q rl x ht f)
def upQ (W : Wd) (J : Jd) (E : XK) (t : DTQ) : TT := fun σ H Q => ∃ B O ρ P R, Rel W J.T B O H σ ρ ∧ EOk J E B R ∧ t ρ P R ∧ ∀ b H', Ext J.T H H' → P b → Q b H'
theorem DQ.up (h : DQ J X E e q) : PT X e (upQ (wd X) J E q) := by
  obtain ⟨te, p, s⟩ := h.ex
  refine ⟨fun pins st σ H Q I hh => ?_⟩
  obtain ⟨B, O, ρ, P, R, rl, x, ht, f⟩ := hh
  exact p.run pins st σ H Q I (s B O H σ ρ P R Q rl x ht f)

/-! ### subscripts -/
@[simp] def atD (ds : List D) (i : Int) (P : D → Prop) : Prop := match atI ds i with
  | some d => P d
  | none => False
def fIx : D2 := fun x y P => match x, y with
  | .tup ds, .int i => atD ds i P
  | .lst ds, .int i => atD ds i P
  | .str z, .int i => z.length ≤ sizeLine ∧ (match atI z.cps.toList i with | some c => P (.str ⟨#[c]⟩) | none => False)
  | _, _ => False
@[simp] theorem fIx_tup (ds : List D) (i : Int) (P : D → Prop) : fIx (.tup ds) (.int i) P = atD ds i P := rfl
@[simp] theorem fIx_lst (ds : List D) (i : Int) (P : D → Prop) : fIx (.lst ds) (.int i) P = atD ds i P := rfl
theorem atD_of {W : Wd} {O : Addr → Prop} {H : Hp} {xs : List V} {ds : List D} {i : Int} {P : D → Prop} (r : DpA W O H xs ds) (h : atD ds i P) : ∃ v d, atI xs i = some v ∧ Dp W O H v d ∧ P d := by
  unfold atD at h
  split at h
  · rename_i d e
    unfold atI at e ⊢
    rw [DpA.len r]
    cases z : ixN ds.length i with
    | none => rw [z] at e; cases e
    | some j =>
      rw [z] at e
      obtain ⟨v, h1, h2⟩ := r.getD e
      exact ⟨v, d, h1, h2, h⟩
  · exact h.elim
theorem so_ix : SO J X (rIx X.K) fIx := fun O0 O H x y dx dy P Q dm hx hy h fin => by
  cases dx with
  | tup ds =>
    cases dy with
    | int i =>
      obtain ⟨a, xs, rfl, t1, n1, r1⟩ := hx.tup
      obtain ⟨v, d, h1, h2, h3⟩ := atD_of r1 h
      exact .inr (.inl ⟨a, xs, i, v, rfl, hy.int, t1.sq, h1, fin v H d Ext.refl h2 h3⟩)
    | _ => exact h.elim
  | lst ds =>
    cases dy with
    | int i =>
      obtain ⟨a, xs, rfl, t1, n1, r1⟩ := hx.lst
      obtain ⟨v, d, h1, h2, h3⟩ := atD_of r1 h
      exact .inl ⟨a, xs, i, v, rfl, hy.int, .inl (.inl t1), h1, fin v H d Ext.refl h2 h3⟩
    | _ => exact h.elim
  | str z =>
    cases dy with
    | int i =>
      have h : z.length ≤ sizeLine ∧ (match atI z.cps.toList i with | some c => P (.str ⟨#[c]⟩) | none => False) := h
      obtain ⟨hl, h⟩ := h
      cases e : atI z.cps.toList i with
      | none => rw [e] at h; exact h.elim
      | some c =>
        rw [e] at h
        exact .inr (.inr ⟨z, i, c, hx.str, hy.int, hl, e, fin _ H (.str ⟨#[c]⟩) Ext.refl rfl h⟩)
    | _ => exact h.elim
  | _ => cases dy <;> exact h.elim
theorem de_ix (ha : DB J X E a ta) (hb : DB J X E b tb) (hs : PlainIx b := by exact fun _ _ => rfl) : DE J X E (.Subscript a b pos) (dOp fIx ta tb) := by
  obtain ⟨te, p1, s1⟩ := ha.ex
  obtain ⟨tr, p2, s2⟩ := hb.ex
  exact ⟨_, pe_ix ix_seq p1 p2 hs, fun B O H σ ρ P R Q rl x h fin => binD s1 s2 so_ix rl x h fin⟩
/-! ### slices -/
abbrev DTO := Rho → (Option Int → Prop) → RX → Prop
structure DO (J : Jd) (X : Cx) (E : XK) (e : Option Expr) (t : DTO) : Prop where
  ex : ∃ te, PO X e te ∧ ∀ B O H σ ρ (P : Option Int → Prop) R Q, Rel (wd X) J.T B O H σ ρ → EOk J E B R → t ρ P R → (∀ b H', Ext J.T H H' → P b → Q b H') → te σ H Q
@[simp] def dNoP : DTO := fun _ P _ => P none
@[simp] def dP (t : DT) : DTO := fun ρ P R => t ρ (fun d => match d with | .int i => P (some i) | _ => False) R
theorem do_none : DO J X E none dNoP := ⟨_, po_none, fun B O H σ ρ P R Q rl x h fin => fin none H Ext.refl h⟩
theorem do_some (h : DB J X E e t) : DO J X E (some e) (dP t) := by
  obtain ⟨te, p, s⟩ := h.ex
  refine ⟨_, po_some p, fun B O H σ ρ P R Q rl x h fin => s B O H σ ρ _ R _ rl x h fun v H1 d x1 hv h1 => ?_⟩
  cases d with
  | int i => exact ⟨i, hv.int, fin (some i) H1 x1 h1⟩
  | _ => exact h1.elim
def cutD (ds : List D) (lo hi : Option Int) : List D := (ds.drop (HT.sIx ds.length 0 lo)).take (HT.sIx ds.length ds.length hi - HT.sIx ds.length 0 lo)
def fSl (x : D) (lo hi : Option Int) (P : D → Prop) : Prop := match x with
  | .tup ds => P (.tup (cutD ds lo hi))
  | .lst ds => P (.lst (cutD ds lo hi))
  | .str z => z.length ≤ sizeLine ∧ P (.str (cutS z lo hi))
  | _ => False
@[simp] def dSl (t : DT) (tl th : DTO) : DT := fun ρ P R => t ρ (fun x => tl ρ (fun lo => th ρ (fun hi => fSl x lo hi P) R) R) R
theorem cutD_len (ds : List D) (lo hi : Option Int) : (cutD ds lo hi).length ≤ ds.length := by
  unfold cutD; rw [List.length_take, List.length_drop]; omega
theorem cut_DpA {W : Wd} {O : Addr → Prop} {H : Hp} {xs : List V} {ds : List D} (r : DpA W O H xs ds) (lo hi : Option Int) : DpA W O H (cutV xs lo hi) (cutD ds lo hi) := by
  unfold cutV cutD
  rw [DpA.len r]
  exact (r.drop _).take _
@[simp] theorem fSl_tup (ds : List D) (lo hi : Option Int) (P : D → Prop) : fSl (.tup ds) lo hi P = P (.tup (cutD ds lo hi)) := rfl
@[simp] theorem fSl_lst (ds : List D) (lo hi : Option Int) (P : D → Prop) : fSl (.lst ds) lo hi P = P (.lst (cutD ds lo hi)) := rfl
theorem cut_whole {α : Type} (ds : List α) (lo hi : Option Int) (h : HT.sIx ds.length 0 lo = 0 ∧ HT.sIx ds.length ds.length hi = ds.length) : (ds.drop (HT.sIx ds.length 0 lo)).take (HT.sIx ds.length ds.length hi - HT.sIx ds.length 0 lo) = ds := by
  rw [h.1, h.2]; simp
theorem de_sl {lo hi : Option Expr} {tl th : DTO} {p2 : Pos} (ha : DB J X E a ta) (hl : DO J X E lo tl) (hh : DO J X E hi th) : DE J X E (.Subscript a (.Slice lo hi none p2) pos) (dSl ta tl th) := by
  obtain ⟨te, p, s⟩ := ha.ex
  obtain ⟨t1, p1, s1⟩ := hl.ex
  obtain ⟨t2, p2, s2⟩ := hh.ex
  refine ⟨_, pe_slice (SlR.or sl_tupA (SlR.or sl_list sl_str)) p p1 p2, fun B O H σ ρ P R Q rl x h fin => s B O H σ ρ _ R _ rl x h fun v H1 d x1 hv h1 => s1 B O H1 σ ρ _ R _ (rl.ext x1) x h1 fun lo H2 x2 h2 => s2 B O H2 σ ρ _ R _ ((rl.ext x1).ext x2) x h2 fun hi H3 x3 h3 => ?_⟩
  have rl3 := ((rl.ext x1).ext x2).ext x3
  have x03 := (x1.trans x2).trans x3
  have hv3 := (hv.ext x2).ext x3
  cases d with
  | tup ds =>
    obtain ⟨a, xs, rfl, t1, n1, r1⟩ := hv3.tup
    refine .inl ⟨a, xs, rfl, t1.sq, fun z => ?_, fun _ p np => ?_⟩
    · have e : cutD ds lo hi = ds := cut_whole ds lo hi (by rw [← DpA.len r1]; exact z)
      have h3 : P (.tup (cutD ds lo hi)) := h3
      rw [e] at h3
      exact fin _ H3 (.tup ds) x03 ⟨a, xs, rfl, t1, n1, r1⟩ h3
    · exact fin _ _ (.tup (cutD ds lo hi)) (x03.trans (Ext.new np)) ⟨p, _, rfl, .inl ⟨rl3.free np, upd_same⟩, Nat.le_trans (cutD_len ds lo hi) n1, DpA.ext (Ext.new (T := J.T) np) (fun _ _ _ _ z => z) _ _ (cut_DpA r1 lo hi)⟩ h3
  | lst ds =>
    obtain ⟨a, xs, rfl, t1, n1, r1⟩ := hv3.lst
    refine .inr (.inl ⟨a, xs, rfl, .inl (.inl t1), fun p np => ?_⟩)
    exact fin _ _ (.lst (cutD ds lo hi)) (x03.trans (Ext.new np)) ⟨p, _, rfl, rl3.free np, upd_same, Nat.le_trans (cutD_len ds lo hi) n1, DpA.ext (Ext.new (T := J.T) np) (fun _ _ _ _ z => z) _ _ (cut_DpA r1 lo hi)⟩ h3
  | str z => exact .inr (.inr ⟨z, hv3.str, h3.1, fin _ H3 (.str (cutS z lo hi)) x03 rfl h3.2⟩)
  | _ => exact h3.elim

/-! ### calls of defs -/
abbrev SpD := List D → (D → Prop) → RX → Prop
/-- a promise over data -/
def Lift (W : Wd) (J : Jd) (sd : SpD) : Sp := fun vs H Q E => ∃ O ds P R, Dom O H ∧ LamX.Tabs J.T H ∧ DpA W O H vs ds ∧ sd ds P R ∧ Fin W J.T O H Q P ∧ EOk J E (bsOf J.T O H) R
@[simp] def dCall (sd : SpD) (tA : DTA) : DT := fun ρ P R => tA ρ (fun ds => sd ds P R) R
theorem EOk.down {B : Bs} {O : Addr → Prop} {H : Hp} {R : RX} (x : EOk J E B R) (b : BOk J.T B H) : EOk J E (bsOf J.T O H) R := fun nm H' b' h => x nm H' (b.ext (bsOf_ext b')) h
theorem lift_of {B : Bs} {O : Addr → Prop} {H : Hp} {σ : St} {ρ : Rho} {sd : SpD} {vs : List V} {ds : List D} {P : D → Prop} {R : RX} {Q : VK} (rl : Rel (wd X) J.T B O H σ ρ) (x : EOk J E B R) (r : DpA (wd X) O H vs ds) (h : sd ds P R) (fin : Fin (wd X) J.T O H Q P) :
    Lift (wd X) J sd vs H Q E := ⟨O, ds, P, R, rl.dom, rl.base.t, r, h, fin, x.down rl.base⟩
theorem fin_ext {W : Wd} {T : Tb} {O : Addr → Prop} {H H' : Hp} {P : D → Prop} {Q : VK} (f : Fin W T O H Q P) (x : Ext T H H') : Fin W T O H' Q P := fun v H2 d x2 hv p => f v H2 d (x.trans x2) hv p
section
variable {CX : CXT} {k : Nat} {f : Addr} {fd : FuncData} {ps ks : List Str} {sd : SpD} {x : Str} {p : Pos}
theorem de_call (F : FnOk X.prog X.w X.K X.mg X.base CX k f fd ps (Lift (wd X) J sd)) (hr : Room k X.A) (hg : Gl X x) (hm : X.mg x = some (.ref f)) (hk : PySem.W.keepIn X.K (.ref f) = true) (hb : Binds X.K fd ps []) (hx : Passes CX X E)
    (ha : DA J X E (e :: es) tA) (hdb : (x == ("__debug__" : Str)) = false := by decide) (he : starEach (e :: es) X.env = (false, eval e X.env) :: starEach es X.env := by rfl) (hpl : (backTo pos (starEach es X.env)).any (·.1) = false := by rfl) :
    DE J X E (.Call (.Name x p) (e :: es) [] pos) (dCall sd tA) := by
  obtain ⟨te, p1, s1⟩ := ha.ex
  refine ⟨_, pe_call F hr hg hm hk hb .nil hx p1 hdb he hpl, fun B O H σ ρ P R Q rl xx h fin => s1 B O H σ ρ _ R _ rl xx h fun vs H1 ds x1 hvs h1 => ?_⟩
  rw [List.append_nil]
  exact lift_of (rl.ext x1) xx hvs h1 (fin_ext fin x1)
theorem de_call0 (F : FnOk X.prog X.w X.K X.mg X.base CX k f fd ps (Lift (wd X) J sd)) (hr : Room k X.A) (hg : Gl X x) (hm : X.mg x = some (.ref f)) (hk : PySem.W.keepIn X.K (.ref f) = true) (hb : Binds X.K fd ps []) (hx : Passes CX X E)
    (hdb : (x == ("__debug__" : Str)) = false := by decide) : DE J X E (.Call (.Name x p) [] [] pos) (dCall sd dNil) := by
  refine ⟨_, pe_call0 F hr hg hm hk hb .nil hx hdb, fun B O H σ ρ P R Q rl xx h fin => ?_⟩
  exact lift_of rl xx (vs := []) (ds := []) trivial h fin
end

/-! ### isinstance, len, tuple, list, all -/
def tyN : D → Option String
  | .non => some "NoneType"
  | .bl _ => some "bool"
  | .int _ => some "int"
  | .str _ => some "str"
  | .tup _ => some "tuple"
  | .lst _ => some "list"
  | .dct _ _ => some "dict"
  | _ => none
theorem tyX_of {O0 O : Addr → Prop} {H : Hp} {v : V} : ∀ {d : D} {n : String}, DpB (wd X) O0 O H v d → tyN d = some n → TyX X.K H v (.type n)
  | .non, _, h, e => by cases e; rw [h.non]; exact .base .non
  | .bl _, _, h, e => by cases e; rw [h.bl]; exact .base (.bl _)
  | .int _, _, h, e => by cases e; rw [h.int]; exact .base (.int _)
  | .str _, _, h, e => by cases e; rw [h.str]; exact .base (.str _)
  | .tup _, _, h, e => by
    cases e
    obtain ⟨a, xs, rfl, t, _⟩ := h.tup
    rcases t with ⟨_, t⟩ | ⟨_, _, t⟩ | (t | ⟨_, t⟩) | ⟨o, its, n, lk, c, _⟩
    · exact .base (.tup t)
    · exact .fTuple t
    · cases t
    · cases t
    · exact .kTuple lk c
  | .lst _, _, h, e => by
    cases e
    obtain ⟨a, xs, rfl, t, _⟩ := h.lst
    exact .base (.lst t)
  | .dct _ _, _, h, e => by
    cases e
    rcases h with ⟨a, xs, rfl, _, t, _⟩ | ⟨_, _, _, _, e, _⟩
    · exact .base (.dK t)
    · cases e
  | .town, _, _, e => by cases e
  | .scr, _, _, e => by cases e
  | .obj _, _, _, e => by cases e
  | .ftp _, _, _, e => by cases e
/-- a test of types -/
def KitF (T : String) (f : D → Option Bool) : Prop := ∀ d b, f d = some b → ∃ n, tyN d = some n ∧ kitB n T = some b
@[simp] def isIntD : D → Option Bool
  | .int _ => some true
  | .bl _ => some true
  | .non => some false
  | .str _ => some false
  | .tup _ => some false
  | .lst _ => some false
  | .dct _ _ => some false
  | _ => none
@[simp] def isBoolD : D → Option Bool
  | .int _ => some false
  | .bl _ => some true
  | .non => some false
  | .str _ => some false
  | .tup _ => some false
  | .lst _ => some false
  | .dct _ _ => some false
  | _ => none
@[simp] def isStrD : D → Option Bool
  | .int _ => some false
  | .bl _ => some false
  | .non => some false
  | .str _ => some true
  | .tup _ => some false
  | .lst _ => some false
  | .dct _ _ => some false
  | _ => none
@[simp] def isTupD : D → Option Bool
  | .int _ => some false
  | .bl _ => some false
  | .non => some false
  | .str _ => some false
  | .tup _ => some true
  | .lst _ => some false
  | .dct _ _ => some false
  | _ => none
theorem kitf_int : KitF "int" isIntD := fun d b h => by
  cases d <;> cases h <;> exact ⟨_, rfl, by decide +kernel⟩
theorem kitf_bool : KitF "bool" isBoolD := fun d b h => by
  cases d <;> cases h <;> exact ⟨_, rfl, by decide +kernel⟩
theorem kitf_str : KitF "str" isStrD := fun d b h => by
  cases d <;> cases h <;> exact ⟨_, rfl, by decide +kernel⟩
theorem kitf_tup : KitF "tuple" isTupD := fun d b h => by
  cases d <;> cases h <;> exact ⟨_, rfl, by decide +kernel⟩
@[simp] def dIsT (f : D → Option Bool) (t : DT) : DT := fun ρ P R => t ρ (fun d => match f d with | some b => P (.bl b) | none => False) R
theorem de_isT {T : String} {f : D → Option Bool} {x2 : Str} {p p2 : Pos} (kf : KitF T f) (hg : Gl X "isinstance") (hm : X.mg "isinstance" = none) (hg2 : Gl X x2) (hm2 : X.mg x2 = none) (hv2 : bootBuiltins x2 = some (.type T)) (ha : DB J X E a ta)
    (hn2 : x2 ≠ "__name__" := by decide) (hd2 : (x2 == ("__debug__" : Str)) = false := by decide)
    (he : starEach (a :: [.Name x2 p2]) X.env = (false, eval a X.env) :: starEach [.Name x2 p2] X.env := by rfl) (hs2 : starEach (.Name x2 p2 :: []) X.env = (false, eval (.Name x2 p2) X.env) :: starEach [] X.env := by rfl) (hpl : (backTo pos (starEach [.Name x2 p2] X.env)).any (·.1) = false := by rfl) :
    DE J X E (.Call (.Name "isinstance" p) [a, .Name x2 p2] [] pos) (dIsT f ta) := by
  obtain ⟨te, p1, s1⟩ := ha.ex
  refine ⟨_, pe_callB call_isi hg hm (by decide +kernel) (pa_cons p1 (pa_cons (pe_bltn (v := .ty T) hg2 hm2 hv2 rfl hn2 hd2) pa_nil hs2) he) (by decide) (by decide) he hpl, fun B O H σ ρ P R Q rl x h fin => s1 B O H σ ρ _ R _ rl x h fun v H1 d x1 hv h1 => ?_⟩
  have h1 : match f d with | some b => P (.bl b) | none => False := h1
  cases z : f d with
  | none => rw [z] at h1; exact h1.elim
  | some b =>
    rw [z] at h1
    obtain ⟨n, hn, hk⟩ := kf d b z
    exact ⟨v, .ty T, .type n, .type T, b, rfl, .ty T, tyX_of hv hn, kit_ty hk, fin _ H1 (.bl b) x1 rfl h1⟩
/-- a built-in of one argument -/
@[simp] def dLen (t : DT) : DT := fun ρ P R => t ρ (fun d => match d with
  | .str z => z.length ≤ sizeLine ∧ P (.int z.length)
  | .tup ds => P (.int ds.length)
  | .lst ds => P (.int ds.length)
  | _ => False) R
theorem de_len {p : Pos} (hg : Gl X "len") (hm : X.mg "len" = none) (ha : DB J X E a ta) (he : starEach (a :: []) X.env = (false, eval a X.env) :: starEach [] X.env := by rfl) : DE J X E (.Call (.Name "len" p) [a] [] pos) (dLen ta) := by
  obtain ⟨te, p1, s1⟩ := ha.ex
  refine ⟨_, pe_callB call_len hg hm PySem.boot_len (pa_cons p1 pa_nil he) (by decide) (by decide) he rfl, fun B O H σ ρ P R Q rl x h fin => s1 B O H σ ρ _ R _ rl x h fun v H1 d x1 hv h1 => ?_⟩
  cases d with
  | str z => exact ⟨v, z.length, rfl, by rw [hv.str]; exact ⟨h1.1, rfl⟩, fin _ H1 (.int z.length) x1 rfl h1.2⟩
  | tup ds =>
    obtain ⟨a, xs, rfl, t, _, r⟩ := hv.tup
    exact ⟨.ref a, ds.length, rfl, .inr ⟨xs, t.sq, (DpA.len r).symm⟩, fin _ H1 (.int ds.length) x1 rfl h1⟩
  | lst ds =>
    obtain ⟨a, xs, rfl, t, _, r⟩ := hv.lst
    exact ⟨.ref a, ds.length, rfl, .inl ⟨xs, .inl (.inl t), (DpA.len r).symm⟩, fin _ H1 (.int ds.length) x1 rfl h1⟩
  | _ => exact h1.elim
@[simp] def dTuple (t : DT) : DT := fun ρ P R => t ρ (fun d => match d with
  | .tup ds => P (.tup ds)
  | .lst ds => P (.tup ds)
  | _ => False) R
theorem boot_tuple' : bootBuiltins "tuple" = some (.type "tuple") := by decide +kernel
theorem boot_list' : bootBuiltins "list" = some (.type "list") := by decide +kernel
theorem boot_all' : bootBuiltins "all" = some (.builtin "all") := by decide +kernel
theorem boot_str' : bootBuiltins "str" = some (.type "str") := by decide +kernel
theorem de_tuple {p : Pos} (hg : Gl X "tuple") (hm : X.mg "tuple" = none) (ha : DB J X E a ta) (he : starEach (a :: []) X.env = (false, eval a X.env) :: starEach [] X.env := by rfl) : DE J X E (.Call (.Name "tuple" p) [a] [] pos) (dTuple ta) := by
  obtain ⟨te, p1, s1⟩ := ha.ex
  refine ⟨_, pe_callTy call_tuple_of hg hm boot_tuple' (pa_cons p1 pa_nil he) (by decide) (by decide) he rfl, fun B O H σ ρ P R Q rl x h fin => s1 B O H σ ρ _ R _ rl x h fun v H1 d x1 hv h1 => ?_⟩
  cases d with
  | tup ds =>
    obtain ⟨a, xs, rfl, t, n, r⟩ := hv.tup
    exact ⟨a, xs, rfl, .inr ⟨t.sq, fin _ H1 (.tup ds) x1 ⟨a, xs, rfl, t, n, r⟩ h1⟩⟩
  | lst ds =>
    obtain ⟨a, xs, rfl, t, n, r⟩ := hv.lst
    exact ⟨a, xs, rfl, .inl ⟨.inl (.inl t), fun p np => fin _ _ (.tup ds) (x1.trans (Ext.new np)) ⟨p, xs, rfl, .inl ⟨(rl.ext x1).free np, upd_same⟩, n, DpA.ext (Ext.new (T := J.T) np) (fun _ _ _ _ z => z) _ _ r⟩ h1⟩⟩
  | _ => exact h1.elim
@[simp] def dList (t : DT) : DTA := fun ρ P R => t ρ (fun d => match d with
  | .tup ds => P ds
  | .lst ds => P ds
  | _ => False) R
theorem df_list {p : Pos} (hg : Gl X "list") (hm : X.mg "list" = none) (ha : DB J X E a ta) (he : starEach (a :: []) X.env = (false, eval a X.env) :: starEach [] X.env := by rfl) : DF J X E (.Call (.Name "list" p) [a] [] pos) (dList ta) := by
  obtain ⟨te, p1, s1⟩ := ha.ex
  refine ⟨_, pe_callTy call_list_of hg hm boot_list' (pa_cons p1 pa_nil he) (by decide) (by decide) he rfl, fun B O H σ ρ P R Q rl x h fin => s1 B O H σ ρ _ R _ rl x h fun v H1 d x1 hv h1 => ?_⟩
  cases d with
  | tup ds =>
    obtain ⟨a, xs, rfl, t, n, r⟩ := hv.tup
    exact ⟨a, xs, rfl, .inr t.sq, fun p np => fin p xs _ ds (x1.trans (Ext.new np)) (x1.fresh np) ((rl.ext x1).free np) ((rl.ext x1).base.none np) upd_same n (new_mask np r) h1⟩
  | lst ds =>
    obtain ⟨a, xs, rfl, t, n, r⟩ := hv.lst
    exact ⟨a, xs, rfl, .inl (.inl (.inl t)), fun p np => fin p xs _ ds (x1.trans (Ext.new np)) (x1.fresh np) ((rl.ext x1).free np) ((rl.ext x1).base.none np) upd_same n (new_mask np r) h1⟩
  | _ => exact h1.elim
/-- all of a list of bools -/
@[simp] def blsOf : List D → Option (List Bool)
  | [] => some []
  | .bl b :: r => (blsOf r).map (b :: ·)
  | _ => none
theorem bls_of {W : Wd} {O : Addr → Prop} {H : Hp} : ∀ {ds : List D} {xs : List V} {bs : List Bool}, blsOf ds = some bs → DpA W O H xs ds → xs = bs.map V.bl
  | [], [], _, e, _ => by cases e; rfl
  | [], _ :: _, _, _, h => h.elim
  | _ :: _, [], _, _, h => h.elim
  | d :: ds, v :: vs, bs, e, h => by
    cases d with
    | bl b =>
      unfold blsOf at e
      cases z : blsOf ds with
      | none => rw [z] at e; cases e
      | some cs =>
        rw [z] at e
        cases e
        have h1 : v = V.bl b := h.1
        rw [h1, bls_of z h.2]; rfl
    | _ => cases e
@[simp] def dAll (t : DT) : DT := fun ρ P R => t ρ (fun d => match d with
  | .lst ds => (match blsOf ds with | some bs => P (.bl (bs.all id)) | none => False)
  | _ => False) R
theorem de_all {p : Pos} (hc : X.calm = true) (hg : Gl X "all") (hm : X.mg "all" = none) (ha : DB J X E a ta) (he : starEach (a :: []) X.env = (false, eval a X.env) :: starEach [] X.env := by rfl) : DE J X E (.Call (.Name "all" p) [a] [] pos) (dAll ta) := by
  obtain ⟨te, p1, s1⟩ := ha.ex
  refine ⟨_, pe_callB (cr_all hc) hg hm boot_all' (pa_cons p1 pa_nil he) (by decide) (by decide) he rfl, fun B O H σ ρ P R Q rl x h fin => s1 B O H σ ρ _ R _ rl x h fun v H1 d x1 hv h1 => ?_⟩
  cases d with
  | lst ds =>
    obtain ⟨a, xs, rfl, t, n, r⟩ := hv.lst
    have h1 : (match blsOf ds with | some bs => P (.bl (bs.all id)) | none => False) := h1
    cases z : blsOf ds with
    | none => rw [z] at h1; exact h1.elim
    | some bs =>
      rw [z] at h1
      exact ⟨a, bs, rfl, .inl (.inl (by rw [t, bls_of z r])), fin _ H1 (.bl _) x1 rfl h1⟩
  | _ => exact h1.elim
@[simp] def dStrI (t : DT) : DT := fun ρ P R => t ρ (fun d => match d with
  | .int i => i.natAbs.log2 < 1920 ∧ P (.str (toString i))
  | _ => False) R
theorem de_strI {p : Pos} (hg : Gl X "str") (hm : X.mg "str" = none) (ha : DB J X E a ta) (he : starEach (a :: []) X.env = (false, eval a X.env) :: starEach [] X.env := by rfl) : DE J X E (.Call (.Name "str" p) [a] [] pos) (dStrI ta) := by
  obtain ⟨te, p1, s1⟩ := ha.ex
  refine ⟨_, pe_callTy call_str_int hg hm boot_str' (pa_cons p1 pa_nil he) (by decide) (by decide) he rfl, fun B O H σ ρ P R Q rl x h fin => s1 B O H σ ρ _ R _ rl x h fun v H1 d x1 hv h1 => ?_⟩
  cases d with
  | int i => exact ⟨i, by rw [hv.int], h1.1, fin _ H1 (.str (toString i)) x1 rfl h1.2⟩
  | _ => exact h1.elim
end
end DL
namespace DL
open PySem PySem.Spec PyProof.Rows L2

/-! ### targets -/
theorem wipe_in (σ : St) : ∀ {vs : List Nat} {k : Nat}, k ∈ vs → (L2.wipe σ vs)[k]? = if k < σ.length then some none else none
  | [], k, h => by cases h
  | v :: vs, k, h => by
    unfold L2.wipe
    by_cases e : v = k
    · subst e
      by_cases l : v < σ.length
      · rw [List.getElem?_set_self (by rw [wipe_length]; exact l), if_pos l]
      · rw [List.getElem?_eq_none (by rw [List.length_set, wipe_length]; omega), if_neg l]
    · rw [List.getElem?_set_ne e]
      rcases List.mem_cons.mp h with z | z
      · exact absurd z.symm e
      · exact wipe_in σ z
theorem wipe_notin (σ : St) {vs : List Nat} {k : Nat} (h : k ∉ vs) : (L2.wipe σ vs)[k]? = σ[k]? := L2.wipe_out h
/-- what is stored lies at these slots -/
def WS (ix : List Nat) (σ σ' : St) : Prop := ∀ vs : List Nat, (∀ i ∈ ix, i ∈ vs) → L2.wipe σ' vs = L2.wipe σ vs
theorem WS.set {i : Nat} {σ : St} {v : Option V} : WS [i] σ (σ.set i v) := fun vs h => by
  have hi : i ∈ vs := h i (by simp)
  apply List.ext_getElem?
  intro k
  by_cases hk : k ∈ vs
  · rw [wipe_in _ hk, wipe_in _ hk, List.length_set]
  · rw [wipe_notin _ hk, wipe_notin _ hk, List.getElem?_set_ne]
    intro z; subst z; exact hk hi
theorem WS.nil {σ : St} : WS [] σ σ := fun _ _ => rfl
theorem WS.app {a b : List Nat} {σ σ' σ'' : St} (h : WS a σ σ') (k : WS b σ' σ'') : WS (a ++ b) σ σ'' := fun vs hv =>
  (k vs fun i hi => hv i (List.mem_append_right _ hi)).trans (h vs fun i hi => hv i (List.mem_append_left _ hi))
abbrev GD := D → Rho → (Rho → Prop) → Prop
abbrev GDs := List D → Rho → (Rho → Prop) → Prop
structure DG (X : Cx) (tg : Expr) (g : GD) (ix : List Nat) : Prop where
  ex : ∃ gt, PG X tg gt ∧ ∀ T B O H σ ρ v d (P : Rho → Prop) Q, Rel (wd X) T B O H σ ρ → Dp (wd X) O H v d → g d ρ P → (∀ σ' ρ', Rel (wd X) T B O H σ' ρ' → WS ix σ σ' → P ρ' → Q σ' H) → gt v σ H Q
structure DGs (X : Cx) (tgs : List Expr) (g : GDs) (ix : List Nat) : Prop where
  ex : ∃ gt, PGs X tgs gt ∧ ∀ T B O H σ ρ vs ds (P : Rho → Prop) Q, Rel (wd X) T B O H σ ρ → DpA (wd X) O H vs ds → g ds ρ P → (∀ σ' ρ', Rel (wd X) T B O H σ' ρ' → WS ix σ σ' → P ρ' → Q σ' H) → gt vs σ H Q
@[simp] def gN (i : Nat) : GD := fun d ρ P => P (ρ.set i (.val d))
@[simp] def gsNil : GDs := fun ds ρ P => ds = [] ∧ P ρ
@[simp] def gsCons (g : GD) (u : GDs) : GDs := fun ds ρ P => match ds with
  | d :: r => g d ρ fun ρ' => u r ρ' P
  | [] => False
@[simp] def gT (n : Nat) (u : GDs) : GD := fun d ρ P => match d with
  | .tup ds => ds.length = n ∧ u ds ρ P
  | _ => False
section
variable {J : Jd} {X : Cx} {E : XK} {e a b c tg : Expr} {es tgs : List Expr} {t ta tb tc : DT} {tA : DTA} {q q' : DTQ} {pos : Pos} {g : GD} {u : GDs} {ix jx : List Nat}
theorem dg_n {i : Nat} {x : Str} (h : PG X (.Name x pos) (gName i)) : DG X (.Name x pos) (gN i) [i] :=
  ⟨_, h, fun T B O H σ ρ v d P Q rl hv h fin => fin _ _ (rl.val hv) WS.set h⟩
theorem dgs_nil : DGs X [] gsNil [] := ⟨_, pgs_nil, fun T B O H σ ρ vs ds P Q rl hv h fin => by
  obtain ⟨rfl, h⟩ := h
  cases vs with
  | nil => exact ⟨rfl, fin _ _ rl WS.nil h⟩
  | cons _ _ => exact hv.elim⟩
theorem dgs_cons (h1 : DG X e g ix) (h2 : DGs X es u jx) (hs : (assignEach (e :: es) X.env).map (·.2) = assign e X.env :: (assignEach es X.env).map (·.2) := by rfl) : DGs X (e :: es) (gsCons g u) (ix ++ jx) := by
  obtain ⟨g1, p1, s1⟩ := h1.ex
  obtain ⟨g2, p2, s2⟩ := h2.ex
  refine ⟨_, pgs_cons p1 p2 hs, fun T B O H σ ρ vs ds P Q rl hv h fin => ?_⟩
  cases ds with
  | nil => exact h.elim
  | cons d ds =>
    cases vs with
    | nil => exact hv.elim
    | cons v vs =>
      refine ⟨v, vs, rfl, s1 T B O H σ ρ v d _ _ rl hv.1 h fun σ1 ρ1 rl1 w1 h1 => s2 T B O H σ1 ρ1 vs ds P Q rl1 hv.2 h1 fun σ2 ρ2 rl2 w2 h2 => fin σ2 ρ2 rl2 (w1.app w2) h2⟩
theorem dg_t {n k : Nat} (hc : X.calm = true) (h : DGs X es u ix) (hn : (assignEach es X.env).length = n := by rfl) (hst : (assignEach es X.env).findIdx? (·.1) = none := by rfl) : DG X (.Tuple es k pos) (gT n u) ix := by
  obtain ⟨g1, p1, s1⟩ := h.ex
  refine ⟨_, pg_tup hc p1 hn hst, fun T B O H σ ρ v d P Q rl hv h fin => ?_⟩
  cases d with
  | tup ds =>
    obtain ⟨a, xs, rfl, t, _, r⟩ := hv
    exact ⟨a, xs, rfl, t.sq, (DpA.len r).trans h.1, s1 T B O H σ ρ xs ds P Q rl r h.2 fin⟩
  | _ => exact h.elim
def upG (W : Wd) (T : Tb) (g : GD) (ix : List Nat) : TG := fun v σ H Q => ∃ B O ρ d P, Rel W T B O H σ ρ ∧ Dp W O H v d ∧ g d ρ P ∧ ∀ σ' ρ', Rel W T B O H σ' ρ' → WS ix σ σ' → P ρ' → Q σ' H
theorem DG.up {T : Tb} (h : DG X tg g ix) : PG X tg (upG (wd X) T g ix) := by
  obtain ⟨gt, p, s⟩ := h.ex
  refine ⟨fun pins st σ H v u Q I r hh => ?_⟩
  obtain ⟨B, O, ρ, d, P, rl, hv, h, f⟩ := hh
  exact p.run pins st σ H v u Q I r (s T B O H σ ρ v d P Q rl hv h f)
end

/-! ### what is walked -/
/-- an iterator gives the data ds, whatever happens to lists that are hidden -/
def Wk (X : Cx) (T : Tb) (I : It) (O : Addr → Prop) (H : Hp) (ds : List D) : Prop :=
  ∀ (Hb : Hp) (O0 : Addr → Prop), (∀ v d, Dp (wd X) O H v d → Dp (wd X) O0 Hb v d) → Walk I ds.length (fun H1 => Same Hb H1)
    (fun i H1 v H2 => Ext T H1 H2 ∧ ∃ d, ds[i]? = some d ∧ ∀ O1 : Addr → Prop, (∀ a, O1 a → O0 a ∨ Hb a = none) → Dom O1 H1 → Dp (wd X) O1 H2 v d)
theorem dp_up {W : Wd} {T : Tb} {O0 O1 : Addr → Prop} {Hb H : Hp} {v : V} {d : D} (h : Dp W O0 Hb v d) (s : Same Hb H) (o : ∀ a, O1 a → O0 a ∨ Hb a = none) : Dp W O1 H v d :=
  Dp.ext (T := T) (.of s) (fun a u n _ z => (o a z).elim id fun q => by rw [n] at q; cases q) d v h
theorem dpA_up {W : Wd} {T : Tb} {O0 O1 : Addr → Prop} {Hb H : Hp} {v : List V} {d : List D} (h : DpA W O0 Hb v d) (s : Same Hb H) (o : ∀ a, O1 a → O0 a ∨ Hb a = none) : DpA W O1 H v d :=
  DpA.ext (T := T) (.of s) (fun a u n _ z => (o a z).elim id fun q => by rw [n] at q; cases q) d v h
/-- two iterators of the same source are the same: the source is known by its address -/
theorem Dp.lst_at {W : Wd} {O O0 : Addr → Prop} {H Hb : Hp} {a : Addr} {ds : List D} (m : ∀ v d, Dp W O H v d → Dp W O0 Hb v d) (h : Dp W O H (.ref a) (.lst ds)) : ∃ xs, Hb a = some (.lst xs) ∧ DpA W O0 Hb xs ds := by
  obtain ⟨b, xs, e, _, t, _, r⟩ := m _ _ h
  cases e
  exact ⟨xs, t, r⟩
theorem Dp.tup_at {W : Wd} {O O0 : Addr → Prop} {H Hb : Hp} {a : Addr} {ds : List D} (m : ∀ v d, Dp W O H v d → Dp W O0 Hb v d) (h : Dp W O H (.ref a) (.tup ds)) : ∃ xs, SqT W.K Hb a xs ∧ DpA W O0 Hb xs ds := by
  obtain ⟨b, xs, e, t, _, r⟩ := m _ _ h
  cases e
  exact ⟨xs, t.sq, r⟩
section
variable {X : Cx} {T : Tb} {O : Addr → Prop} {H : Hp} {a b : Addr} {ds es : List D}
theorem wk_lst (h : Dp (wd X) O H (.ref a) (.lst ds)) : Wk X T (Itl X.K a) O H ds := fun Hb O0 m => by
  obtain ⟨xs, t, r⟩ := Dp.lst_at m h
  rw [← DpA.len r]
  refine (walk_list (K := X.K) (a := a) (xs := xs)).mono (fun H1 s => .inl (.inl (s a _ t))) fun i H1 x H2 hi s y => ?_
  obtain ⟨rfl, hx⟩ := y
  obtain ⟨d, hd, hv⟩ := r.get hx
  exact ⟨Ext.refl, d, hd, fun O1 ho _ => dp_up (T := T) hv s ho⟩
theorem wk_tup (h : Dp (wd X) O H (.ref a) (.tup ds)) : Wk X T (Itt X.K a) O H ds := fun Hb O0 m => by
  obtain ⟨xs, t, r⟩ := Dp.tup_at m h
  have sq : ∀ {H1 : Hp}, Same Hb H1 → SqT X.K H1 a xs := fun s => by
    rcases t with (t | ⟨o, t⟩) | t
    · exact .inl (.inl (s _ _ t))
    · exact .inl (.inr ⟨o, s _ _ t⟩)
    · exact .inr t
  rw [← DpA.len r]
  refine (walk_tup (K := X.K) (a := a) (xs := xs)).mono (fun H1 s => sq s) fun i H1 x H2 hi s y => ?_
  obtain ⟨rfl, hx⟩ := y
  obtain ⟨d, hd, hv⟩ := r.get hx
  exact ⟨Ext.refl, d, hd, fun O1 ho _ => dp_up (T := T) hv s ho⟩
def rangeD (lo : Int) (n : Nat) : List D := (List.range n).map fun i => .int (lo + (i : Nat))
theorem wk_range {lo : Int} {n : Nat} : Wk X T (Itr lo n) O H (rangeD lo n) := fun Hb O0 m => by
  have e : (rangeD lo n).length = n := by unfold rangeD; rw [List.length_map, List.length_range]
  rw [e]
  refine (walk_range (lo := lo) (n := n)).mono (fun H1 s => trivial) fun i H1 x H2 hi s y => ?_
  obtain ⟨rfl, rfl⟩ := y
  exact ⟨Ext.refl, .int (lo + (i : Nat)), by unfold rangeD; rw [List.getElem?_map, List.getElem?_range hi]; rfl, fun O1 _ _ => rfl⟩
def charsD (z : Str) : List D := z.cps.toList.map fun c => .str ⟨#[c]⟩
theorem wk_str {z : Str} : Wk X T (Its z) O H (charsD z) := fun Hb O0 m => by
  have e : (charsD z).length = z.cps.size := by unfold charsD; rw [List.length_map, Array.length_toList]
  rw [e]
  refine (walk_str (z := z)).mono (fun H1 s => trivial) fun i H1 x H2 hi s y => ?_
  obtain ⟨rfl, c, hc, rfl⟩ := y
  exact ⟨Ext.refl, .str ⟨#[c]⟩, by unfold charsD; rw [List.getElem?_map, Array.getElem?_toList, hc]; rfl, fun O1 _ _ => rfl⟩
def zipD (ds es : List D) : List D := (ds.zip es).map fun p => .tup [p.1, p.2]
theorem zipD_get {ds es : List D} {i : Nat} {d e : D} (h : ds[i]? = some d) (k : es[i]? = some e) : (zipD ds es)[i]? = some (.tup [d, e]) := by
  unfold zipD
  rw [List.getElem?_map]
  have : (ds.zip es)[i]? = some (d, e) := List.getElem?_zip_eq_some.mpr ⟨h, k⟩
  rw [this]; rfl
theorem zipD_len (ds es : List D) : (zipD ds es).length = min ds.length es.length := by
  unfold zipD; rw [List.length_map, List.length_zip]
theorem two_line : 2 ≤ sizeLine := by decide
theorem pair_dp {W : Wd} {T : Tb} {O0 O1 : Addr → Prop} {Hb H1 : Hp} {x y : V} {d e : D} {p : Addr} (s : Same Hb H1) (hx : Dp W O0 Hb x d) (hy : Dp W O0 Hb y e) (np : H1 p = none) (ho : ∀ a, O1 a → O0 a ∨ Hb a = none) (dm : Dom O1 H1) :
    Dp W O1 (upd H1 p (.tup [x, y])) (.ref p) (.tup [d, e]) := by
  have k : ∀ {v : V} {d : D}, Dp W O0 Hb v d → Dp W O1 (upd H1 p (.tup [x, y])) v d := fun h => Dp.ext (Ext.new (T := T) np) (fun _ _ _ _ z => z) _ _ (dp_up (T := T) h s ho)
  exact ⟨p, [x, y], rfl, .inl ⟨dm.free np, upd_same⟩, two_line, k hx, k hy, trivial⟩
theorem wk_zipL (h : Dp (wd X) O H (.ref a) (.lst ds)) (h2 : Dp (wd X) O H (.ref b) (.lst es)) : Wk X T (Itz X.K a b) O H (zipD ds es) := fun Hb O0 m => by
  obtain ⟨xs, t, r⟩ := Dp.lst_at m h
  obtain ⟨ys, t2, r2⟩ := Dp.lst_at m h2
  rw [zipD_len, ← DpA.len r, ← DpA.len r2]
  refine (walk_zip (K := X.K) (a := a) (b := b) (xs := xs) (ys := ys) rfl).mono (fun H1 s => ⟨.inl (.inl (s a _ t)), .inl (.inl (s b _ t2))⟩) fun i H1 x H2 hi s y => ?_
  obtain ⟨p, x, y, rfl, np, rfl, hx, hy⟩ := y
  obtain ⟨d, hd, hv⟩ := r.get hx
  obtain ⟨e, he, hu⟩ := r2.get hy
  exact ⟨Ext.new np, _, zipD_get hd he, fun O1 ho dm => pair_dp (T := T) s hv hu np ho dm⟩
theorem walk_zipT {K : PySem.W.Frag} {a b : Addr} {xs ys : List V} : Walk (RZ.ItzT K a b) (min xs.length ys.length) (fun H => SqT K H a xs ∧ SqT K H b ys) (YPair (fun i => xs[i]?) (fun i => ys[i]?)) := by
  refine ⟨fun i _ hi q => ?_, fun _ q => ⟨xs, ys, q.1, q.2, by omega⟩, fun i H v H' _ q y => ?_⟩
  · have h1 : i < xs.length := by omega
    have h2 : i < ys.length := by omega
    exact ⟨xs, ys, xs[i], ys[i], q.1, q.2, by simp [h1], by simp [h2]⟩
  · obtain ⟨T, x, z, h1, h2, h3, h4, h5⟩ := y
    exact ⟨T, x, z, h1, h2, h3, h4 xs q.1, h5 ys q.2⟩
theorem sqT_same {K : PySem.W.Frag} {Hb H1 : Hp} {a : Addr} {xs : List V} (s : Same Hb H1) (t : SqT K Hb a xs) : SqT K H1 a xs := by
  rcases t with (t | ⟨o, t⟩) | t
  · exact .inl (.inl (s _ _ t))
  · exact .inl (.inr ⟨o, s _ _ t⟩)
  · exact .inr t
theorem wk_zipT (h : Dp (wd X) O H (.ref a) (.tup ds)) (h2 : Dp (wd X) O H (.ref b) (.tup es)) : Wk X T (RZ.ItzT X.K a b) O H (zipD ds es) := fun Hb O0 m => by
  obtain ⟨xs, t, r⟩ := Dp.tup_at m h
  obtain ⟨ys, t2, r2⟩ := Dp.tup_at m h2
  rw [zipD_len, ← DpA.len r, ← DpA.len r2]
  refine (walk_zipT (K := X.K) (a := a) (b := b) (xs := xs) (ys := ys)).mono (fun H1 s => ⟨sqT_same s t, sqT_same s t2⟩) fun i H1 x H2 hi s y => ?_
  obtain ⟨p, x, y, rfl, np, rfl, hx, hy⟩ := y
  obtain ⟨d, hd, hv⟩ := r.get hx
  obtain ⟨e, he, hu⟩ := r2.get hy
  exact ⟨Ext.new np, _, zipD_get hd he, fun O1 ho dm => pair_dp (T := T) s hv hu np ho dm⟩
def enumD (ds : List D) : List D := zipD (rangeD 0 ds.length) ds
theorem range_get {n i : Nat} (h : i < n) : (rangeD 0 n)[i]? = some (.int (i : Nat)) := by
  unfold rangeD
  rw [List.getElem?_map, List.getElem?_range h]
  simp
theorem enumD_len (ds : List D) : (enumD ds).length = ds.length := by
  unfold enumD; rw [zipD_len]; unfold rangeD; rw [List.length_map, List.length_range]; omega
theorem wk_enumL (h : Dp (wd X) O H (.ref a) (.lst ds)) : Wk X T (Ite X.K a) O H (enumD ds) := fun Hb O0 m => by
  obtain ⟨xs, t, r⟩ := Dp.lst_at m h
  rw [enumD_len, ← DpA.len r]
  refine (walk_enum (K := X.K) (a := a) (xs := xs)).mono (fun H1 s => .inl (.inl (s a _ t))) fun i H1 x H2 hi s y => ?_
  obtain ⟨p, x, y, rfl, np, rfl, hx, hy⟩ := y
  obtain ⟨e, he, hu⟩ := r.get hy
  cases hx
  exact ⟨Ext.new np, _, zipD_get (range_get (by rw [← DpA.len r]; exact hi)) he, fun O1 ho dm => pair_dp (T := T) s (x := .int (i : Nat)) (d := .int (i : Nat)) rfl hu np ho dm⟩
end
end DL
/-! enumerate of a tuple -/
namespace PySem
open Sem (wp)
open AutoSeq1 (wpAny_loadPart')
theorem dl_enumerate_newT (l : Addr) (items : Array Value) (n : Nat) (dct : Option Addr) (sl : Array (Option Value)) :
    Meets (Builtin.«enumerate.__new__» ⟨[.type "enumerate", .ref l], []⟩) (fun _ R s => s.heap.get? l = some { cls := .type "tuple", dict := dct, data := .seq items n, slots := sl } ∧
      R (.ok (.ret (.ref (s.heap.push { cls := .type "tuple_iterator", data := .fields #[.ref l, .int 0 0] }).objs.size)))
        { s with heap := (s.heap.push { cls := .type "tuple_iterator", data := .fields #[.ref l, .int 0 0] }).push { cls := .type "enumerate", data := .fields #[.none, .bool false, .ref s.heap.objs.size, rawInt 0, .none, .none] } }) :=
  .of_wp fun prog w A R s h => by
    obtain ⟨hp, g, d, tk, os⟩ := s; obtain ⟨hl, h⟩ := h
    have hsub := sub_enumerate
    have hL : Heap.IsTuple (Shared.heap ⟨hp, g, d, tk, os⟩) l items := ⟨_, hl, rfl, n, rfl⟩
    wp_walk using wpAny_loadPart' hl
    refine wpAny_stack_any fun st => wpAny_pure ?_
    split
    · rename_i c _ _ _ _ _
      cases (c == Value.type "enumerate")
      · wp_walk using wpAny_loadPart' hl, wpAny_pyIter_tuple hL
        exact ⟨_, rfl, h⟩
      · wp_walk using wpAny_loadPart' hl, wpAny_pyIter_tuple hL
        exact ⟨_, rfl, h⟩
    · wp_walk using wpAny_loadPart' hl, wpAny_pyIter_tuple hL
      exact ⟨_, rfl, h⟩
section
variable {prog : Program} {w : World} {A : Around} {E : Value → Shared → Prop} {s : Shared}
theorem dl_enumerate_tuple {l : Addr} {items : Array Value} {Q : Value → Shared → Prop} (hL : s.heap.IsTuple l items)
    (h : ∀ h', IsEnum h' (s.heap.objs.size + 1) s.heap.objs.size 0 .none → h'.IsTupleIter s.heap.objs.size l 0 → h'.objs.size = s.heap.objs.size + 2 →
      (∀ b o, s.heap.get? b = some o → h'.get? b = some o) → Q (.ref (s.heap.objs.size + 1)) { s with heap := h' }) :
    wpAny (model prog w) A (call (.type "enumerate") [.ref l]) Q E s := by
  obtain ⟨⟨c, dct, dt, sl⟩, hl, hc, n, hd⟩ := hL
  replace hc : c = .type "tuple" := hc
  replace hd : dt = .seq items n := hd
  subst hc hd
  refine callType_new F.called_enumerate (by decide) (F.typeCall_enumerate_1 _) (F.newCall_enumerate_1 _) (fun obj => F.args_object_init_2 obj _) F.entry_enumerate_new
    (dl_enumerate_newT l items n dct sl) ⟨hl, ?_⟩
  have hz : (s.heap.push { cls := .type "tuple_iterator", data := .fields #[.ref l, .int 0 0] }).objs.size = s.heap.objs.size + 1 := Heap.size_push ..
  show _ ∧ _
  rw [hz]
  have he : IsEnum ((s.heap.push { cls := .type "tuple_iterator", data := .fields #[.ref l, .int 0 0] }).push
      { cls := .type "enumerate", data := .fields #[.none, .bool false, .ref s.heap.objs.size, rawInt 0, .none, .none] }) (s.heap.objs.size + 1) s.heap.objs.size 0 .none := by
    have := Heap.get?_push_size (s.heap.push { cls := .type "tuple_iterator", data := .fields #[.ref l, .int 0 0] })
      (o := { cls := .type "enumerate", data := .fields #[.none, .bool false, .ref s.heap.objs.size, rawInt 0, .none, .none] }) rfl
    rw [hz] at this; exact this
  refine ⟨⟨_, he, rfl⟩, h _ he ⟨_, Heap.get?_push_of_some _ (Heap.get?_push_size _ rfl), rfl, rfl⟩ (by rw [Heap.size_push, hz]) fun b o x => Heap.get?_push_of_some _ (Heap.get?_push_of_some _ x)⟩
end
end PySem
namespace DL
open PySem PySem.Spec PyProof.Rows L2
/-- the tuple at a, each item in a new pair -/
def IteT (K : PySem.W.Frag) (a : Addr) : It :=
  ⟨fun i H => ∃ (xs : List V) (x : V), SqT K H a xs ∧ xs[i]? = some x, fun i H v H' => ∃ T x, v = .ref T ∧ H T = none ∧ H' = upd H T (.tup [.int (i : Nat), x]) ∧ ∀ xs, SqT K H a xs → xs[i]? = some x, fun i H => ∃ xs : List V, SqT K H a xs ∧ xs.length ≤ i⟩
theorem isTuple_of {h : Heap} {a : Addr} {items : Array Value} (p : IsTup h a items) : h.IsTuple a items := p
theorem apart_of {h : Heap} {a e it : Addr} {items : Array Value} {i : Nat} {old : Value} (p : IsTup h a items) (he : IsEnum h e it ((i : Nat) : Int) old) (hi : h.IsTupleIter it a i) : a ≠ it ∧ e ≠ a := by
  obtain ⟨o, ho, hc, _⟩ := p
  obtain ⟨o', ho', hc', _⟩ := hi
  refine ⟨fun z => ?_, fun z => ?_⟩
  · subst z; rw [ho] at ho'; cases ho'; rw [hc] at hc'
    exact absurd (Value.type.inj hc') (by decide)
  · subst z
    have he : h.get? e = some _ := he
    rw [ho] at he; cases he
    exact absurd (Value.type.inj hc) (by decide)
theorem turn_enumT {P : Program} {w : World} {K : PySem.W.Frag} {elts : List Expr} {kk : Nat} {tpos : Pos} (a e it : Addr) :
    Turn P w K (.Tuple elts kk tpos) (IteT K a) [e, it] e (fun i h => (∃ old, IsEnum h e it ((i : Nat) : Int) old) ∧ h.IsTupleIter it a i ∧ e ≠ it) where
  mem := by simp
  obj := fun i h st b hb => by
    obtain ⟨⟨old, he⟩, ⟨o, ho, hc, hd⟩, _⟩ := st
    have e' : b = e ∨ b = it := by simpa using hb
    rcases e' with z | z
    · rw [z]; exact ⟨_, he, fun v q => nomatch q⟩
    · rw [z]; exact ⟨o, ho, fun v q => by rw [hd] at q; cases q⟩
  keep := fun i h h' st k => let ⟨⟨old, he⟩, hi, hne⟩ := st; ⟨⟨old, k e (by simp) _ he⟩, hi.at fun o q => k it (by simp) o q, hne⟩
  item := by
    intro X hP hw hK hc i pins s σ H E I hf st hg
    subst hP hw hK
    obtain ⟨⟨old, he⟩, hit, hne⟩ := st
    obtain ⟨xs, x, hq, hx⟩ := hg
    obtain ⟨its, rv, p, hz⟩ := I.tuple hq
    obtain ⟨u, hu, ru⟩ := rv.get hx
    have hel : e < s.heap.objs.size := Heap.lt_size he
    have hil : it < s.heap.objs.size := by obtain ⟨_, q, _⟩ := hit; exact Heap.lt_size q
    obtain ⟨hai, hea⟩ := apart_of p he hit
    have hlt : i < its.toArray.size := by
      rw [List.size_toArray]
      exact (List.getElem?_eq_some_iff.mp hu).1
    refine wpAny_pyNext_enum_itemD (Draws.tuple (A := X.A.in1) (I.ok.hd hc) it a hai its.toArray) he ⟨hit, p⟩ hlt hne (by simp only [List.mem_cons, List.not_mem_nil, or_false, not_or]; exact ⟨hne, hea⟩) fun y h' tk hy ho hst hT hsz hk => ?_
    have ey : y = u := by
      have q : its.toArray[i]? = some u := by simpa using hu
      rw [q] at hy; exact (Option.some.inj hy).symm
    subst ey
    refine ⟨_, rfl, wpAny_letOwnedTupleGo_enum (s := { s with heap := h', toks := tk + 1 }) ho fun h'' he' sb => ?_⟩
    have hT2 : h''.get? s.heap.objs.size = some { cls := .type "tuple", data := .seq #[.int i tk, y] } := (sb.2 _ (Nat.ne_of_gt hel)).trans hT
    have new : ObjOk X.prog X.w (upd H s.heap.objs.size (.tup [.int (i : Nat), x])) h'' s.heap.objs.size (.tup [.int (i : Nat), x]) :=
      ⟨by show 2 ≤ sizeLine; decide, [.int i tk, y], .cons ⟨_, rfl⟩ (.cons ru .nil), ⟨_, hT2, rfl, _, rfl⟩⟩
    have I1 : Inv X pins σ (upd H s.heap.objs.size (.tup [.int (i : Nat), x])) { s with heap := h'', toks := tk + 1 } :=
      I.turnedNew (ch := [e, it]) (fun b ob hb q => (sb.2 b (fun z => hb (by simp [z]))).trans (hk b ob (fun z => hb (by simp [z])) (fun z => hb (by simp [z])) q)) hf (Nat.le_refl _) new
    refine ⟨.ref s.heap.objs.size, _, I1, rfl, ⟨_, x, rfl, I.hok.fresh (Nat.le_refl _), rfl, fun ys hy => by rw [I.tuple_inj hy hq]; exact hx⟩, ⟨⟨y, ?_⟩, hst.1.at fun o q => (sb.2 it (Ne.symm hne)).trans q, hne⟩, fun b hb => ?_⟩
    · have e1 : ((i + 1 : Nat) : Int) = (i : Int) + 1 := by omega
      rw [e1]; exact he'
    · have hb' : b < s.heap.objs.size := by
        have e' : b = e ∨ b = it := by simpa using hb
        rcases e' with z | z
        · rw [z]; exact hel
        · rw [z]; exact hil
      rw [upd_ne (Nat.ne_of_lt hb')]
      exact (hf b hb).1
  done := by
    intro X hP hw hK hc i pins s σ H E I hf st hg
    subst hP hw hK
    obtain ⟨⟨old, he⟩, hit, hne⟩ := st
    obtain ⟨xs, hq, hx⟩ := hg
    obtain ⟨its, rv, p, hz⟩ := I.tuple hq
    obtain ⟨f0, f1, f2, f3, f4, f5⟩ := hf it (by simp)
    have hl := rv.length
    have hT : s.TypeIs (.ref e) "enumerate" := ⟨_, he, rfl⟩
    unfold pyNext
    refine wpAny_bind (wpAny_attempt (wpAny_callSpecial?_slot (name := Str.ofString "__next__") hT F.slot_enumerate_next
      (wpAny_call_entry F.slot_enumerate_next hT F.entry_enumerate_next ?_ (F.args_enumerate_next_1 _))))
    show wpAny _ _ (field (.ref e) 2 >>= _) _ _ _
    refine wpAny_bind (wpAny_field he rfl (x := .ref it) rfl ?_)
    refine wpAny_bind (wpAny_nextOf_tuple_end (I.ok.hd hc) hit p (by simp; omega) fun h' x he' hx' => ?_)
    obtain ⟨o, ho, hc⟩ := hx'
    refine wpAny_bind (wpAny_isInstance (T := "StopIteration") (b := true) ⟨o, ho, hc⟩ isSubtype_stop ?_)
    exact wpAny_pure ⟨rfl, I.turned (t' := s.toks) (fun b o hb q => he' b o hb q) f0 f1 f3 f4 f5⟩
  self := fun A i s Q E st h => let ⟨⟨_, he⟩, _⟩ := st; wpAny_pyIter_enum he h
def iEnumT (K : PySem.W.Frag) (ta : TA) : TI := fun σ H R => ta σ H fun vs H1 => ∃ a xs, vs = [.ref a] ∧ SqT K H1 a xs ∧ R (IteT K a) H1
theorem pi_enumT {X : Cx} {e : Expr} {ta : TA} {p pos tpos : Pos} {elts : List Expr} {kk : Nat} (hg : Gl X "enumerate") (hm : X.mg "enumerate" = none) (ha : PA X [e] ta) (hs : starEach [e] X.env = [(false, eval e X.env)] := by rfl) :
    PI X (.Tuple elts kk tpos) (.Call (.Name "enumerate" p) [e] [] pos) (iEnumT X.K ta) := by
  refine ⟨fun pins s σ H R I h => ?_⟩
  refine Call_ (ld_blt I hg hm boot_enumerate (PyProof.Rows.callWith_type1 (thn (ha.run pos pins s σ H _ I h) fun us s1 ⟨vs, H1, I1, r1, q1⟩ => ?_) hs rfl))
  obtain ⟨a, xs, ex, hq, q⟩ := q1
  subst ex
  cases r1 with
  | cons r rr =>
    cases rr
    cases r
    obtain ⟨its, rv, p', hz⟩ := I1.tuple hq
    refine dl_enumerate_tuple p' fun h' he hit hsz hk => wpAny_pyIter_enum he ?_
    have I2 : Inv X pins σ H1 { s1 with heap := h' } := I1.kept (t' := s1.toks) hk
    refine ⟨s1.heap.objs.size + 1, [s1.heap.objs.size + 1, s1.heap.objs.size], _, _, H1, rfl, I2, turn_enumT a (s1.heap.objs.size + 1) s1.heap.objs.size, ⟨⟨.none, he⟩, hit, Nat.succ_ne_self _⟩, fun b hb => ?_, q⟩
    have e' : b = s1.heap.objs.size + 1 ∨ b = s1.heap.objs.size := by simpa using hb
    have hle : s1.heap.objs.size ≤ b := by
      rcases e' with z | z
      · rw [z]; exact Nat.le_add_right _ _
      · rw [z]; exact Nat.le_refl _
    exact I1.fpOk hle (I1.hok.fresh hle)
theorem walk_enumT {K : PySem.W.Frag} {a : Addr} {xs : List V} : Walk (IteT K a) xs.length (fun H => SqT K H a xs) (YPair (fun i => some (.int (i : Nat))) (fun i => xs[i]?)) := by
  refine ⟨fun i _ hi q => ⟨xs, xs[i], q, by simp [hi]⟩, fun _ q => ⟨xs, q, Nat.le_refl _⟩, fun i H v H' _ q y => ?_⟩
  obtain ⟨T, x, h1, h2, h3, h4⟩ := y
  exact ⟨T, .int (i : Nat), x, h1, h2, h3, rfl, h4 xs q⟩
theorem wk_enumT {X : Cx} {T : Tb} {O : Addr → Prop} {H : Hp} {a : Addr} {ds : List D} (h : Dp (wd X) O H (.ref a) (.tup ds)) : Wk X T (IteT X.K a) O H (enumD ds) := fun Hb O0 m => by
  obtain ⟨xs, t, r⟩ := Dp.tup_at m h
  rw [enumD_len, ← DpA.len r]
  refine (walk_enumT (K := X.K) (a := a) (xs := xs)).mono (fun H1 s => sqT_same s t) fun i H1 x H2 hi s y => ?_
  obtain ⟨p, x, y, rfl, np, rfl, hx, hy⟩ := y
  obtain ⟨e, he, hu⟩ := r.get hy
  cases hx
  exact ⟨Ext.new np, _, zipD_get (range_get (by rw [← DpA.len r]; exact hi)) he, fun O1 ho dm => pair_dp (T := T) s (x := .int (i : Nat)) (d := .int (i : Nat)) rfl hu np ho dm⟩
end DL
namespace DL
open PySem PySem.Spec PyProof.Rows L2

/-! ### what is walked, as a judgement -/
structure DI (J : Jd) (X : Cx) (E : XK) (tg iter : Expr) (t : DTA) : Prop where
  ex : ∃ wi, PI X tg iter wi ∧ ∀ B O H σ ρ (P : List D → Prop) R (Q : It → Hp → Prop), Rel (wd X) J.T B O H σ ρ → EOk J E B R → t ρ P R →
    (∀ I H' ds, Ext J.T H H' → Wk X J.T I O H' ds → ds.length ≤ sizeLine → P ds → Q I H') → wi σ H Q
@[simp] def itemsD (P : List D → Prop) : D → Prop
  | .lst ds => P ds
  | .tup ds => P ds
  | .str z => z.cps.size ≤ sizeLine ∧ P (charsD z)
  | _ => False
@[simp] def dItems (t : DT) : DTA := fun ρ P R => t ρ (itemsD P) R
section
variable {J : Jd} {X : Cx} {E : XK} {e a b c tg : Expr} {es tgs : List Expr} {t ta tb tc : DT} {tA : DTA} {q q' : DTQ} {pos : Pos} {g : GD} {u : GDs} {ix jx : List Nat}
theorem PI.or {tg iter : Expr} {w1 w2 : TI} (h1 : PI X tg iter w1) (h2 : PI X tg iter w2) : PI X tg iter (fun σ H R => w1 σ H R ∨ w2 σ H R) :=
  ⟨fun pins s σ H R I h => h.elim (fun z => h1.run pins s σ H R I z) fun z => h2.run pins s σ H R I z⟩
/-- a reading by cases behind a value: the cases are chosen behind it -/
def iAny (K : PySem.W.Frag) (te : TE) : TI := fun σ H R => te σ H fun x H1 => (∃ a, x = .ref a ∧ (∃ xs, SqL K H1 a xs) ∧ R (Itl K a) H1) ∨ (∃ a, x = .ref a ∧ (∃ xs, SqT K H1 a xs) ∧ R (Itt K a) H1) ∨ ∃ z, x = .str z ∧ R (Its z) H1
theorem pi_any {l : Expr} {tl : TE} (hl : PE X l tl) : PI X tg l (iAny X.K tl) := by
  refine ⟨fun pins s σ H R I h => ?_⟩
  -- run the expression once, then by cases: each case is the old rule at the value
  refine thn (hl.run pins s σ H _ I h) fun v s1 ⟨x, H1, I1, r1, q1⟩ => ?_
  rcases q1 with ⟨a, rfl, ⟨xs, hq⟩, q⟩ | ⟨a, rfl, ⟨xs, hq⟩, q⟩ | ⟨z, rfl, q⟩
  · cases r1
    obtain ⟨its, rv, p, hz⟩ := I1.list hq
    exact wpAny_pyIter_list p.isList (pi_one I1 _ (turn_list a s1.heap.objs.size) ⟨_, Heap.get?_push_size _ rfl, rfl, rfl⟩ q)
  · cases r1
    obtain ⟨its, rv, p, hz⟩ := I1.tuple hq
    exact wpAny_pyIter_tuple p (pi_one I1 _ (turn_tuple a s1.heap.objs.size) ⟨_, Heap.get?_push_size _ rfl, rfl, rfl⟩ q)
  · obtain ⟨k, rfl⟩ := r1
    cases ha : z.cps.all (· < 128)
    · exact wpAny_pyIter_wide ha (pi_one (tk := s1.toks) I1 _ (turn_str _ z k "str_iterator" (.inr rfl)) ⟨_, Heap.get?_push_size _ rfl, rfl, rfl⟩ q)
    · exact wpAny_pyIter_ascii ha (pi_one (tk := s1.toks) I1 _ (turn_str _ z k "str_ascii_iterator" (.inl rfl)) ⟨_, Heap.get?_push_size _ rfl, rfl, rfl⟩ q)
/-- a walk over a value -/
theorem di_any (h : DE J X E e t) : DI J X E tg e (dItems t) := by
  obtain ⟨te, p, s⟩ := h.ex
  refine ⟨_, pi_any p, fun B O H σ ρ P R Q rl x h fin => s B O H σ ρ _ R _ rl x h fun v H1 d x1 hv h1 => ?_⟩
  cases d with
  | lst ds =>
    obtain ⟨a, xs, rfl, o, t, n, r⟩ := hv
    exact .inl ⟨a, rfl, ⟨xs, .inl (.inl t)⟩, fin _ H1 ds x1 (wk_lst ⟨a, xs, rfl, o, t, n, r⟩) n h1⟩
  | tup ds =>
    obtain ⟨a, xs, rfl, t, n, r⟩ := hv
    exact .inr (.inl ⟨a, rfl, ⟨xs, t.sq⟩, fin _ H1 ds x1 (wk_tup ⟨a, xs, rfl, t, n, r⟩) n h1⟩)
  | str z => exact .inr (.inr ⟨z, hv, fin _ H1 (charsD z) x1 wk_str (by unfold charsD; rw [List.length_map, Array.length_toList]; exact h1.1) h1.2⟩)
  | _ => exact h1.elim
@[simp] def rangeP (P : List D → Prop) : D → Prop
  | .int j => (0 ≤ j ∧ j ≤ 16777216) ∧ P (rangeD 0 j.toNat)
  | _ => False
@[simp] def dRange (t : DT) : DTA := fun ρ P R => t ρ (rangeP P) R
theorem rangeD_len (lo : Int) (n : Nat) : (rangeD lo n).length = n := by unfold rangeD; rw [List.length_map, List.length_range]
theorem di_range {p : Pos} (hg : Gl X "range") (hm : X.mg "range" = none) (ha : DE J X E a ta) (hs : starEach [a] X.env = [(false, eval a X.env)] := by rfl) (hs2 : starEach (a :: []) X.env = (false, eval a X.env) :: starEach [] X.env := by rfl) :
    DI J X E tg (.Call (.Name "range" p) [a] [] pos) (dRange ta) := by
  obtain ⟨te, p, s⟩ := ha.ex
  refine ⟨_, pi_range1 hg hm (pa_cons p pa_nil hs2) hs, fun B O H σ ρ P R Q rl x h fin => s B O H σ ρ _ R _ rl x h fun v H1 d x1 hv h1 => ?_⟩
  cases d with
  | int j =>
    -- a negative bound is as nought; its turns are none
    refine ⟨j, by rw [show v = V.int j from hv], ?_, ?_, fin _ H1 _ x1 (wk_range (lo := 0) (n := j.toNat)) (by rw [rangeD_len, sizeLine_eq]; have := h1.1; omega) h1.2⟩
    · have := h1.1; omega
    · have := h1.1; omega
  | _ => exact h1.elim
/-- enumerate of a list or a tuple -/
def iEnumA (K : PySem.W.Frag) (ta : TA) : TI := fun σ H R => ta σ H fun vs H1 => ∃ a xs, vs = [.ref a] ∧ ((SqL K H1 a xs ∧ R (Ite K a) H1) ∨ (SqT K H1 a xs ∧ R (IteT K a) H1))
theorem pi_enumA {ta : TA} {p tpos : Pos} {elts : List Expr} {kk : Nat} (hg : Gl X "enumerate") (hm : X.mg "enumerate" = none) (ha : PA X [e] ta) (hs : starEach [e] X.env = [(false, eval e X.env)] := by rfl) :
    PI X (.Tuple elts kk tpos) (.Call (.Name "enumerate" p) [e] [] pos) (iEnumA X.K ta) := by
  refine ⟨fun pins s σ H R I h => ?_⟩
  refine Call_ (ld_blt I hg hm boot_enumerate (PyProof.Rows.callWith_type1 (thn (ha.run pos pins s σ H _ I h) fun us s1 ⟨vs, H1, I1, r1, q1⟩ => ?_) hs rfl))
  obtain ⟨a, xs, ex, q⟩ := q1
  subst ex
  have fpo : ∀ b ∈ [s1.heap.objs.size + 1, s1.heap.objs.size], FpOk X pins H1 b := fun b hb => by
    have e' : b = s1.heap.objs.size + 1 ∨ b = s1.heap.objs.size := by simpa using hb
    have hle : s1.heap.objs.size ≤ b := by
      rcases e' with z | z
      · rw [z]; exact Nat.le_add_right _ _
      · rw [z]; exact Nat.le_refl _
    exact I1.fpOk hle (I1.hok.fresh hle)
  cases r1 with
  | cons r rr =>
    cases rr
    cases r
    rcases q with ⟨hq, q⟩ | ⟨hq, q⟩
    · obtain ⟨its, rv, p', hz⟩ := I1.list hq
      refine call_enumerate_list p'.isList fun h' he hit hsz hk => wpAny_pyIter_enum he ?_
      exact ⟨s1.heap.objs.size + 1, [s1.heap.objs.size + 1, s1.heap.objs.size], _, _, H1, rfl, I1.kept (t' := s1.toks) hk, turn_enum a (s1.heap.objs.size + 1) s1.heap.objs.size, ⟨⟨.none, he⟩, hit, Nat.succ_ne_self _⟩, fpo, q⟩
    · obtain ⟨its, rv, p', hz⟩ := I1.tuple hq
      refine dl_enumerate_tuple p' fun h' he hit hsz hk => wpAny_pyIter_enum he ?_
      exact ⟨s1.heap.objs.size + 1, [s1.heap.objs.size + 1, s1.heap.objs.size], _, _, H1, rfl, I1.kept (t' := s1.toks) hk, turn_enumT a (s1.heap.objs.size + 1) s1.heap.objs.size, ⟨⟨.none, he⟩, hit, Nat.succ_ne_self _⟩, fpo, q⟩
@[simp] def enumP (P : List D → Prop) : D → Prop
  | .lst ds => P (enumD ds)
  | .tup ds => P (enumD ds)
  | _ => False
@[simp] def dEnum (t : DT) : DTA := fun ρ P R => t ρ (enumP P) R
theorem di_enum {p tpos : Pos} {elts : List Expr} {kk : Nat} (hg : Gl X "enumerate") (hm : X.mg "enumerate" = none) (ha : DE J X E a ta) (hs : starEach [a] X.env = [(false, eval a X.env)] := by rfl) (hs2 : starEach (a :: []) X.env = (false, eval a X.env) :: starEach [] X.env := by rfl) :
    DI J X E (.Tuple elts kk tpos) (.Call (.Name "enumerate" p) [a] [] pos) (dEnum ta) := by
  obtain ⟨te, p, s⟩ := ha.ex
  refine ⟨_, pi_enumA hg hm (pa_cons p pa_nil hs2) hs, fun B O H σ ρ P R Q rl x h fin => s B O H σ ρ _ R _ rl x h fun v H1 d x1 hv h1 => ?_⟩
  cases d with
  | lst ds =>
    obtain ⟨a, xs, rfl, o, t, n, r⟩ := hv
    exact ⟨a, xs, rfl, .inl ⟨.inl (.inl t), fin _ H1 _ x1 (wk_enumL ⟨a, xs, rfl, o, t, n, r⟩) (by rw [enumD_len]; exact n) h1⟩⟩
  | tup ds =>
    obtain ⟨a, xs, rfl, t, n, r⟩ := hv
    exact ⟨a, xs, rfl, .inr ⟨t.sq, fin _ H1 _ x1 (wk_enumT ⟨a, xs, rfl, t, n, r⟩) (by rw [enumD_len]; exact n) h1⟩⟩
  | _ => exact h1.elim
/-- zip of two lists, of two tuples -/
@[simp] def zipP (P : List D → Prop) (x y : D) : Prop := match x, y with
  | .lst ds, .lst es => P (zipD ds es)
  | .tup ds, .tup es => P (zipD ds es)
  | _, _ => False
@[simp] def dZip (ta tb : DT) : DTA := fun ρ P R => ta ρ (fun x => tb ρ (fun y => zipP P x y) R) R
theorem di_zip {p tpos : Pos} {elts : List Expr} {kk : Nat} (hg : Gl X "zip") (hm : X.mg "zip" = none) (ha : DE J X E a ta) (hb : DE J X E b tb)
    (hs : starEach [a, b] X.env = (false, eval a X.env) :: starEach [b] X.env := by rfl) (hs2 : starEach (b :: []) X.env = (false, eval b X.env) :: starEach [] X.env := by rfl) (hpl : (backTo pos (starEach [b] X.env)).any (·.1) = false := by rfl) :
    DI J X E (.Tuple elts kk tpos) (.Call (.Name "zip" p) [a, b] [] pos) (dZip ta tb) := by
  obtain ⟨t1, p1, s1⟩ := ha.ex
  obtain ⟨t2, p2, s2⟩ := hb.ex
  refine ⟨_, RZ.pi_zipA hg hm (pa_cons p1 (pa_cons p2 pa_nil hs2) hs) hs hpl, fun B O H σ ρ P R Q rl x h fin => s1 B O H σ ρ _ R _ rl x h fun v H1 d x1 hv h1 => s2 B O H1 σ ρ _ R _ (rl.ext x1) x h1 fun u H2 d2 x2 hu h2 => ?_⟩
  have hv := Dp.ext x2 (fun _ _ _ _ z => z) d v hv
  cases d with
  | lst ds =>
    cases d2 with
    | lst es =>
      obtain ⟨a, xs, rfl, o, t, n, r⟩ := hv
      obtain ⟨b, ys, rfl, o2, t2, n2, r2⟩ := hu
      exact ⟨a, b, xs, ys, rfl, .inl ⟨.inl (.inl t), .inl (.inl t2), fin _ H2 _ (x1.trans x2) (wk_zipL ⟨a, xs, rfl, o, t, n, r⟩ ⟨b, ys, rfl, o2, t2, n2, r2⟩) (by rw [zipD_len]; omega) h2⟩⟩
    | _ => exact h2.elim
  | tup ds =>
    cases d2 with
    | tup es =>
      obtain ⟨a, xs, rfl, t, n, r⟩ := hv
      obtain ⟨b, ys, rfl, t2, n2, r2⟩ := hu
      exact ⟨a, b, xs, ys, rfl, .inr ⟨t.sq, t2.sq, fin _ H2 _ (x1.trans x2) (wk_zipT ⟨a, xs, rfl, t, n, r⟩ ⟨b, ys, rfl, t2, n2, r2⟩) (by rw [zipD_len]; omega) h2⟩⟩
    | _ => exact h2.elim
  | _ => exact h2.elim
end
end DL
namespace DL
open PySem PySem.Spec PyProof.Rows L2

/-! ### list comprehensions -/
/-- what a comprehension makes, item by item -/
@[simp] def lcGo (g : GD) (q : DTQ) (t : DT) (ρ : Rho) (P : List D → Prop) : List D → List D → Prop
  | [], acc => P acc
  | d :: ds, acc => g d ρ fun ρ2 => q ρ2 (fun b => if b = true then t ρ2 (fun y => lcGo g q t ρ P ds (acc ++ [y])) (fun _ => False) else lcGo g q t ρ P ds acc) (fun _ => False)
@[simp] def qYes : DTQ := fun _ P _ => P true
@[simp] def dLc (ti : DTA) (g : GD) (q : DTQ) (t : DT) (vs : List Nat) : DTA := fun ρ P R => ti ρ (fun ds => lcGo g q t (wipeR ρ vs) P ds []) R
structure DQs (J : Jd) (X : Cx) (E : XK) (ifs : List Expr) (q : DTQ) : Prop where
  up : PTs X ifs (upQ (wd X) J E q)
section
variable {J : Jd} {X : Cx} {E : XK} {e a b c tg : Expr} {es tgs : List Expr} {t ta tb tc : DT} {tA ti : DTA} {q q' : DTQ} {pos : Pos} {g : GD} {u : GDs} {ix jx : List Nat}
theorem dqs_nil : DQs J X E [] qYes := ⟨⟨fun pins s σ H Q I h => by
  obtain ⟨B, O, ρ, P, R, rl, x, ht, f⟩ := h
  exact wpAny_tests_nil ⟨H, I, f true H Ext.refl ht⟩⟩⟩
theorem dqs_one (h : DQ J X E c q) : DQs J X E [c] q := ⟨pts_one h.up⟩
theorem tabs_updL {T : Tb} {H : Hp} {p : Addr} {xs ys : List V} (h : LamX.Tabs T H) (hp : H p = some (.lst xs)) : LamX.Tabs T (upd H p (.lst ys)) := fun r hr => by
  obtain ⟨ps, h1, h2, h3⟩ := h r hr
  refine ⟨ps, by rw [upd_ne (ne_of h1 hp (by intro z; cases z))]; exact h1, h2, fun pos cv hc => ?_⟩
  obtain ⟨c, e1, e2⟩ := h3 pos cv hc
  exact ⟨c, e1, by rw [upd_ne (ne_of e2 hp (by intro z; cases z))]; exact e2⟩
theorem ext_updL {T : Tb} {H H' : Hp} {p : Addr} {xs ys : List V} (e : Ext T H H') (n : H p = none) (hp : H' p = some (.lst xs)) : Ext T H (upd H' p (.lst ys)) :=
  ⟨fun b o hb no => by rw [upd_ne (ne_of_none hb n)]; exact e.n b o hb no, fun h => tabs_updL (e.t h) hp⟩
theorem Ext.freshF {T : Tb} {H H' : Hp} {p : Addr} (e : Ext T H H') (n : Fresh H' p) : Fresh H p := fun o h => by
  by_cases z : ∃ ps, o = .tbl ps
  · exact z
  · exact n o (e.n p o h fun ps e => z ⟨ps, e⟩)
theorem emp_none {J : Jd} {B : Bs} : EOk J E0 B (fun _ => False) := fun _ _ _ h => h.elim
/-- the heap of a new list's maker: the hidden lists and the one that grows -/
theorem lc_body {W : Wd} {T : Tb} {B : Bs} {O : Addr → Prop} {H1 : Hp} {σ : St} {ρ : Rho} {J : Jd} (hT : J.T = T) {I : It} {ds : List D} {g : GD} {ix vs : List Nat} {q : DTQ} {t : DT} {P : List D → Prop} {Q : VK} {X : Cx} (hW : wd X = W)
    (rl : Rel W T B O H1 σ ρ) (wk : Wk X T I O H1 ds) (hn : ds.length ≤ sizeLine) (hix : ∀ i ∈ ix, i ∈ vs) (h : lcGo g q t (wipeR ρ vs) P ds [])
    (fin : ∀ p xs H' ds, Ext T H1 H' → Fresh H1 p → ¬ O p → B.Hb p = none → H' p = some (.lst xs) → ds.length ≤ sizeLine → DpA W (fun a => O a ∨ a = p) H' xs ds → P ds → Q (.ref p) H') :
    ∀ D, H1 D = none → ∃ Wt : Nat → Nat → Hp → Prop, (∃ m, Wt 0 m (upd H1 D (.lst []))) ∧ ∀ i m H, Wt i m H →
      (I.stop i H ∧ Q (.ref D) H) ∨ (I.go i H ∧ ∃ Nx : Hp → Prop, (∀ H', Nx H' → ∃ m', m' < m ∧ Wt (i + 1) m' H') ∧ ∀ x H', I.yld i H x H' → upG W T g ix x (L2.wipe σ vs) H' fun σ2 H2 => L2.wipe σ2 vs = L2.wipe σ vs ∧ upQ W J E0 q σ2 H2 fun b H3 =>
        if b = true then upE W J E0 t σ2 H3 fun y H4 => ∃ acc, H4 D = some (.lst acc) ∧ acc.length < sizeLine ∧ Nx (upd H4 D (.lst (acc ++ [y]))) else Nx H3) := by
  subst hT
  subst hW
  intro D nD
  have hOD : ¬ O D := rl.free nD
  have hBD : B.Hb D = none := rl.base.none nD
  -- the walk over what stood before
  have w := wk (strip H1) O fun v d hv => Dp.keep (O := O) (O' := O) (fun b o hb n => .inr (strip_of hb n)) (fun _ _ _ _ z => z) d v hv
  refine lc_it (n := ds.length) w (fun i H => ∃ acc xs, H D = some (.lst xs) ∧ DpA (wd X) (fun a => O a ∨ a = D) H xs acc ∧ acc.length ≤ i ∧ Ext J.T H1 H ∧ lcGo g q t (wipeR ρ vs) P (ds.drop i) acc) ?_ ?_ ?_ ?_
  · exact ⟨[], [], upd_same, trivial, Nat.le_refl _, Ext.new nD, by rw [List.drop_zero]; exact h⟩
  · rintro i H hi ⟨acc, xs, _, _, _, e, _⟩
    intro b o hb
    exact e.n b o (strip_some hb) fun ps z => strip_ntb b ps (by rw [hb, z])
  · rintro i x H H' hi ⟨acc, xs, hD, ha, hl, e, hgo⟩ ⟨e2, d, hd, hv⟩
    have e02 := e.trans e2
    -- the hidden lists here
    have rl2 : Rel (wd X) J.T B (fun a => O a ∨ a = D) H' (L2.wipe σ vs) (wipeR ρ vs) := by
      have r0 := (rl.ext e02).wipe vs
      refine ⟨r0.base, fun a z => .inl (r0.sub a z), fun a z => ?_, fun a z => ?_, r0.len, fun i s hs => ?_, r0.dist⟩
      · rcases z with z | z
        · exact r0.new a z
        · rw [z]; exact .inr hBD
      · rcases z with z | z
        · exact r0.dom a z
        · rw [z]; exact ⟨xs, e2.lst hD⟩
      · have q0 := (rl.wipe vs).sl i s hs
        have ho : ∀ a o, H1 a = some o → (∀ ps, o ≠ .tbl ps) → (O a ∨ a = D) → O a := fun a o n _ z => z.elim id fun z => by rw [z, nD] at n; cases n
        cases s with
        | non => trivial
        | val d =>
          obtain ⟨x, e1, h1⟩ := q0
          exact ⟨x, e1, Dp.ext e02 ho d x h1⟩
        | own ds =>
          obtain ⟨a, xs, e1, h1, h2, h3, h4, h5, h6⟩ := q0
          exact ⟨a, xs, e1, .inl h1, h2, h3, e02.lst h4, h5, DpA.ext e02 ho ds xs h6⟩
    have hv' : Dp (wd X) (fun a => O a ∨ a = D) H' x d := hv _ (fun a z => z.elim .inl fun z => by rw [z]; exact .inr (strip_none nD)) fun a z => by
      rcases z with z | z
      · exact (rl.ext e).dom a z
      · rw [z]; exact ⟨xs, hD⟩
    have hdrop : ds.drop i = d :: ds.drop (i + 1) := by
      obtain ⟨h1, h2⟩ := List.getElem?_eq_some_iff.mp hd
      rw [← h2]; exact List.drop_eq_getElem_cons h1
    rw [hdrop] at hgo
    refine ⟨B, _, _, d, _, rl2, hv', hgo, fun σ2 ρ2 rl3 ws h3 => ⟨?_, ?_⟩⟩
    · rw [ws vs hix]
      apply List.ext_getElem?
      intro k
      by_cases hk : k ∈ vs
      · rw [wipe_in _ hk, wipe_in _ hk, wipe_length]
      · rw [wipe_notin _ hk]
    · refine ⟨B, _, ρ2, _, _, rl3, emp_none, h3, fun b H3 e3 h4 => ?_⟩
      cases b with
      | false =>
        have h4 := (if_neg (show ¬ (false = true) by decide)).mp h4
        refine iteF ⟨acc, xs, e3.lst (e2.lst hD), DpA.ext (e2.trans e3) (fun _ _ _ _ z => z) _ _ ha, Nat.le_succ_of_le hl, e02.trans e3, h4⟩
      | true =>
        have h4 := (if_pos (show true = true from rfl)).mp h4
        refine iteT ⟨B, _, ρ2, _, _, rl3.ext e3, emp_none, h4, fun y H4 dy e4 hy h5 => ?_⟩
        have hD4 : H4 D = some (.lst xs) := e4.lst (e3.lst (e2.lst hD))
        have e24 := (e2.trans e3).trans e4
        refine ⟨xs, hD4, by rw [DpA.len ha]; omega, acc ++ [dy], xs ++ [y], upd_same, ?_, by rw [List.length_append]; show acc.length + 1 ≤ _; omega, ?_, h5⟩
        · have k : Keep (fun a => O a ∨ a = D) H4 (upd H4 D (.lst (xs ++ [y]))) := fun b o hb n => by
            by_cases z : b = D
            · subst z; rw [hD4] at hb; cases hb; exact .inl ⟨.inr rfl, _, rfl⟩
            · exact .inr (by rw [upd_ne z]; exact hb)
          have ha4 : DpA (wd X) (fun a => O a ∨ a = D) H4 xs acc := DpA.ext e24 (fun _ _ _ _ z => z) _ _ ha
          exact (DpA.keep k (fun _ _ _ _ z => z) _ _ ha4).append ⟨Dp.keep k (fun _ _ _ _ z => z) _ _ hy, trivial⟩
        · exact ext_updL (e02.trans (e3.trans e4)) nD hD4
  · rintro H ⟨acc, xs, hD, ha, hl, e, hgo⟩
    rw [List.drop_length] at hgo
    exact fin D xs H acc e (fun o z => by rw [nD] at z; cases z) hOD hBD hD (Nat.le_trans hl hn) ha hgo
theorem df_lc {elt iter : Expr} {ifs : List Expr} {scope : Scope} {own : List (Str × Nat)} (hc : X.calm = true) (hN : X.N.Nodup) (hi : DI J X E tg iter ti) (ok : BlkOk X.N X.env.scope scope own)
    (hg : ∀ (s : Shared) (H : Hp) (C : Addr) (cl : List (Str × Addr)) (fp : List Addr), DG (X.blk s H scope (compEnvC scope cl C X.env) fp) tg g ix)
    (ht : ∀ (s : Shared) (H : Hp) (C : Addr) (cl : List (Str × Addr)) (fp : List Addr), DQs J (X.blk s H scope (compEnvC scope cl C X.env) fp) E0 ifs q)
    (he : ∀ (s : Shared) (H : Hp) (C : Addr) (cl : List (Str × Addr)) (fp : List Addr), DE J (X.blk s H scope (compEnvC scope cl C X.env) fp) E0 elt t)
    (hix : ∀ i ∈ ix, i ∈ own.map (·.2) := by decide) (hs : ∀ x, foldedSetIterable iter X.env x = pure x := by intro _; rfl) : DF J X E (.ListComp elt [⟨tg, iter, ifs, 0⟩] scope pos) (dLc ti g q t (own.map (·.2))) := by
  obtain ⟨wi, p, sd⟩ := hi.ex
  refine ⟨_, pe_lc (g := upG (wd X) J.T g ix) (tt := upQ (wd X) J E0 q) (te := upE (wd X) J E0 t) hc hN p ok (fun s H C cl fp => (hg s H C cl fp).up) (fun s H C cl fp => (ht s H C cl fp).up) (fun s H C cl fp => (he s H C cl fp).up) hs, fun B O H σ ρ P R Q rl x h fin => ?_⟩
  refine sd B O H σ ρ _ R _ rl x h fun I H1 ds x1 wk hn h1 => ?_
  exact lc_body (J := J) rfl (X := X) rfl (rl.ext x1) wk hn hix h1 fun p xs H' es e fr n b hp hl ha hP => fin p xs H' es (x1.trans e) (x1.freshF fr) n b hp hl ha hP
end
end DL
namespace DL
open PySem PySem.Spec PyProof.Rows L2

/-! ### statements -/
structure DEnds where
  nx : Rho → Prop
  rt : D → Prop
  bk : Rho → Prop
  ct : Rho → Prop
  xc : RX
abbrev DST := Rho → DEnds → Prop
structure Cp (J : Jd) (X : Cx) (E : XK) (B : Bs) (De : DEnds) (Dh : Ends) : Prop where
  nx : ∀ O H σ ρ, Rel (wd X) J.T B O H σ ρ → De.nx ρ → Dh.nx σ H
  bk : ∀ O H σ ρ, Rel (wd X) J.T B O H σ ρ → De.bk ρ → Dh.bk σ H
  ct : ∀ O H σ ρ, Rel (wd X) J.T B O H σ ρ → De.ct ρ → Dh.ct σ H
  rt : ∀ O v H d, BOk J.T B H → (∀ a, B.O0 a → O a) → DpB (wd X) B.O0 O H v d → De.rt d → Dh.rt v H
  xc : EOk J E B De.xc
structure DS (J : Jd) (X : Cx) (E : XK) (st : Stmt) (t : DST) : Prop where
  ex : ∃ ts, PS X st ts ∧ ∀ B O H σ ρ De Dh, Rel (wd X) J.T B O H σ ρ → Cp J X E B De Dh → t ρ De → ts Dh σ H
structure DSs (J : Jd) (X : Cx) (E : XK) (sts : List Stmt) (t : DST) : Prop where
  ex : ∃ ts, PSs X sts ts ∧ ∀ B O H σ ρ De Dh, Rel (wd X) J.T B O H σ ρ → Cp J X E B De Dh → t ρ De → ts Dh σ H
section
variable {J : Jd} {X : Cx} {E : XK} {e a b c tg : Expr} {es tgs : List Expr} {st : Stmt} {sts : List Stmt} {t ta tb tc : DT} {s u v : DST} {tA ti : DTA} {q q' : DTQ} {pos : Pos} {g : GD} {ix jx : List Nat}
@[simp] def sSeq (s u : DST) : DST := fun ρ De => s ρ { De with nx := fun ρ' => u ρ' De }
@[simp] def sNext : DST := fun ρ De => De.nx ρ
theorem Cp.nx' {B : Bs} {De : DEnds} {Dh : Ends} (c : Cp J X E B De Dh) {n : Rho → Prop} {m : St → Hp → Prop} (h : ∀ O H σ ρ, Rel (wd X) J.T B O H σ ρ → n ρ → m σ H) : Cp J X E B { De with nx := n } { Dh with nx := m } :=
  ⟨h, c.bk, c.ct, c.rt, c.xc⟩
theorem dss_nil : DSs J X E [] sNext := ⟨_, pss_nil, fun B O H σ ρ De Dh rl c h => c.nx O H σ ρ rl h⟩
theorem dss_one (h : DS J X E st s) : DSs J X E [st] s := by
  obtain ⟨ts, p, k⟩ := h.ex
  exact ⟨_, pss_one p, k⟩
theorem dss_cons (h1 : DS J X E st s) (h2 : DSs J X E sts u) : DSs J X E (st :: sts) (sSeq s u) := by
  obtain ⟨t1, p1, k1⟩ := h1.ex
  obtain ⟨t2, p2, k2⟩ := h2.ex
  exact ⟨_, pss_cons p1 p2, fun B O H σ ρ De Dh rl c h => k1 B O H σ ρ _ _ rl (c.nx' fun O' H' σ' ρ' rl' h' => k2 B O' H' σ' ρ' De Dh rl' c h') h⟩
theorem ds_pass : DS J X E (.Pass pos) sNext := ⟨_, ps_pass, fun B O H σ ρ De Dh rl c h => c.nx O H σ ρ rl h⟩
@[simp] def sBrk : DST := fun ρ De => De.bk ρ
@[simp] def sCnt : DST := fun ρ De => De.ct ρ
theorem ds_break : DS J X E (.Break pos) sBrk := ⟨_, ps_break, fun B O H σ ρ De Dh rl c h => c.bk O H σ ρ rl h⟩
theorem ds_cont : DS J X E (.Continue pos) sCnt := ⟨_, ps_continue, fun B O H σ ρ De Dh rl c h => c.ct O H σ ρ rl h⟩
@[simp] def sRet (t : DT) : DST := fun ρ De => t ρ De.rt De.xc
theorem ds_ret (h : DB J X E e t) : DS J X E (.Return (some e) pos) (sRet t) := by
  obtain ⟨te, p, k⟩ := h.ex
  exact ⟨_, ps_ret p, fun B O H σ ρ De Dh rl c h => k B O H σ ρ _ _ _ rl c.xc h fun v H' d x hv hd => c.rt O v H' d (rl.base.ext x) rl.sub hv hd⟩
@[simp] def sRetN : DST := fun _ De => De.rt .non
theorem ds_retN : DS J X E (.Return none pos) sRetN := ⟨_, ps_retN, fun B O H σ ρ De Dh rl c h => c.rt O .non H .non rl.base rl.sub (.inl rfl) h⟩
/-- an expression for its own sake -/
@[simp] def sDrop (t : DT) : DST := fun ρ De => t ρ (fun _ => De.nx ρ) De.xc
theorem ds_drop (h : DE J X E e t) (hs : swapsWith e none pos.line X.env = pure false := by rfl) : DS J X E (.Expr e pos) (sDrop t) := by
  obtain ⟨te, p, k⟩ := h.ex
  exact ⟨_, ps_expr p hs, fun B O H σ ρ De Dh rl c h => k B O H σ ρ _ _ _ rl c.xc h fun v H' d x hv hd => c.nx O H' σ ρ (rl.ext x) hd⟩
@[simp] def sIf (q : DTQ) (s u : DST) : DST := fun ρ De => q ρ (fun b => if b = true then s ρ De else u ρ De) De.xc
theorem ds_if {sts' : List Stmt} (hq : DQ J X E c q) (h1 : DSs J X E sts s) (h2 : DSs J X E sts' u) : DS J X E (.If c sts sts' pos) (sIf q s u) := by
  obtain ⟨te, p, k⟩ := hq.ex
  obtain ⟨t1, p1, k1⟩ := h1.ex
  obtain ⟨t2, p2, k2⟩ := h2.ex
  refine ⟨_, ps_if p p1 p2, fun B O H σ ρ De Dh rl c h => k B O H σ ρ _ _ _ rl c.xc h fun b H' x hb => ?_⟩
  cases b with
  | true => exact k1 B O H' σ ρ De Dh (rl.ext x) c hb
  | false => exact k2 B O H' σ ρ De Dh (rl.ext x) c hb
@[simp] def sAsg (t : DT) (g : GD) : DST := fun ρ De => t ρ (fun d => g d ρ De.nx) De.xc
theorem ds_asg (h : DE J X E e t) (hg : DG X tg g ix) (hs : swapsWithSole [tg] e pos.line X.env = pure false := by rfl) (hw : swappedStores [tg] e X.env = pure none := by rfl)
    (h1 : (assignEach [tg] X.env).map (·.2) = [assign tg X.env] := by rfl) : DS J X E (.Assign [tg] e pos) (sAsg t g) := by
  obtain ⟨te, p, k⟩ := h.ex
  obtain ⟨gt, pg, kg⟩ := hg.ex
  exact ⟨_, ps_asg p pg hs hw h1, fun B O H σ ρ De Dh rl c h => k B O H σ ρ _ _ _ rl c.xc h fun v H' d x hv hd => kg J.T B O H' σ ρ v d _ _ (rl.ext x) hv hd fun σ' ρ' rl' _ h' => c.nx O H' σ' ρ' rl' h'⟩
/-- a, b = e1, e2 -/
@[simp] def sPar (i j : Nat) (tA : DTA) : DST := fun ρ De => tA ρ (fun ds => match ds with
  | [d, d'] => De.nx ((ρ.set i (.val d)).set j (.val d'))
  | _ => False) De.xc
theorem ds_par {i j : Nat} {x y : Str} {px py pt : Pos} {kt k2 pt2} (hc : X.calm = true) (hN : X.N.Nodup) (hi : X.N[i]? = some x) (hj : X.N[j]? = some y) (hij : i ≠ j)
    (hx : X.env.scope.names.lookup x = some .local) (hy : X.env.scope.names.lookup y = some .local) (ha : DA J X E [a, b] tA)
    (hw : swappedStores [.Tuple [.Name x px, .Name y py] kt pt] (.Tuple [a, b] k2 pt2) X.env = pure (some [x, y]))
    (hs : swapsWithSole [.Tuple [.Name x px, .Name y py] kt pt] (.Tuple [a, b] k2 pt2) pos.line X.env = pure false := by rfl) :
    DS J X E (.Assign [.Tuple [.Name x px, .Name y py] kt pt] (.Tuple [a, b] k2 pt2) pos) (sPar i j tA) := by
  obtain ⟨te, p, k⟩ := ha.ex
  refine ⟨_, ps_par hc hN hi hj hij hx hy p hw hs, fun B O H σ ρ De Dh rl c h => k B O H σ ρ _ _ _ rl c.xc h fun vs H' ds x hvs hd => ?_⟩
  match ds, vs, hvs, hd with
  | [d, d'], [v, v'], hvs, hd => exact ⟨v, v', rfl, c.nx O H' _ _ (((rl.ext x).val hvs.1).val hvs.2.1) hd⟩
/-- x += e -/
def sAug (i : Nat) (f : D2) (t : DT) : DST := fun ρ De => slP ρ[i]? fun d => t ρ (fun d' => f d d' fun r => De.nx (ρ.set i (.val r))) De.xc
/-! ### own lists -/
/-- a slot gets a new list of its own -/
theorem Rel.newOwn {W : Wd} {T : Tb} {B : Bs} {O : Addr → Prop} {H0 H : Hp} {σ : St} {ρ : Rho} {i : Nat} {p : Addr} {xs : List V} {ds : List D} (rl0 : Rel W T B O H0 σ ρ) (e : Ext T H0 H) (np : Fresh H0 p) (n : ¬ O p) (nb : B.Hb p = none) (hp : H p = some (.lst xs)) (hl : ds.length ≤ sizeLine) (ha : DpA W (fun a => O a ∨ a = p) H xs ds) :
    Rel W T B (fun a => O a ∨ a = p) H (σ.set i (some (.ref p))) (ρ.set i (.own ds)) := by
  have ho : ∀ a o, H0 a = some o → (∀ ps, o ≠ .tbl ps) → (O a ∨ a = p) → O a := fun a o h no z => z.elim id fun z => by
    obtain ⟨ps, q⟩ := np o (by rw [← z]; exact h)
    exact absurd q (no ps)
  have n0 : ¬ B.O0 p := fun z => n (rl0.sub p z)
  refine ⟨rl0.base.ext e, fun a z => .inl (rl0.sub a z), fun a z => ?_, fun a z => ?_, by rw [List.length_set, List.length_set]; exact rl0.len, fun j s hs => ?_, fun j k a h1 h2 => ?_⟩
  · rcases z with z | z
    · exact rl0.new a z
    · rw [z]; exact .inr nb
  · rcases z with z | z
    · exact (rl0.ext e).dom a z
    · rw [z]; exact ⟨xs, hp⟩
  · by_cases q : i = j
    · subst q
      by_cases l : i < ρ.length
      · rw [List.getElem?_set_self l] at hs
        cases hs
        rw [List.getElem?_set_self (by rw [← rl0.len]; exact l)]
        exact ⟨p, xs, rfl, .inr rfl, n0, nb, hp, hl, ha⟩
      · rw [List.getElem?_eq_none (by rw [List.length_set]; omega)] at hs; cases hs
    · rw [List.getElem?_set_ne q] at hs ⊢
      have z := rl0.sl j s hs
      cases s with
      | non => trivial
      | val d =>
        obtain ⟨x, e1, h1⟩ := z
        exact ⟨x, e1, Dp.ext e ho d x h1⟩
      | own es =>
        obtain ⟨a, ys, e1, h1, h2, h3, h4, h5, h6⟩ := z
        exact ⟨a, ys, e1, .inl h1, h2, h3, e.lst h4, h5, DpA.ext e ho es ys h6⟩
  · -- an own slot at a: either i at p, or an old one
    have old : ∀ {j : Nat}, OwnAt (σ.set i (some (.ref p))) (ρ.set i (.own ds)) j a → (j = i ∧ a = p) ∨ (j ≠ i ∧ OwnAt σ ρ j a) := fun {j} ⟨⟨es, h1⟩, h2⟩ => by
      by_cases q : i = j
      · subst q
        by_cases l : i < σ.length
        · rw [List.getElem?_set_self l] at h2
          cases h2; exact .inl ⟨rfl, rfl⟩
        · rw [List.getElem?_eq_none (by rw [List.length_set]; omega)] at h2; cases h2
      · rw [List.getElem?_set_ne q] at h1 h2
        exact .inr ⟨fun z => q z.symm, ⟨es, h1⟩, h2⟩
    have notp : ∀ {j : Nat}, OwnAt σ ρ j p → False := fun {j} ⟨⟨es, h1⟩, h2⟩ => by
      obtain ⟨b, ys, e1, h3, _⟩ := rl0.sl j _ h1
      rw [h2] at e1
      have e1 : some (V.ref p) = some (V.ref b) := e1
      cases e1
      exact n h3
    rcases old h1 with ⟨e1, e2⟩ | ⟨e1, o1⟩
    · rcases old h2 with ⟨e3, _⟩ | ⟨_, o2⟩
      · rw [e1, e3]
      · rw [e2] at o2; exact (notp o2).elim
    · rcases old h2 with ⟨e3, e4⟩ | ⟨_, o2⟩
      · rw [e4] at o1; exact (notp o1).elim
      · exact rl0.dist j k a o1 o2
@[simp] def sNew (i : Nat) (t : DTA) : DST := fun ρ De => t ρ (fun ds => De.nx (ρ.set i (.own ds))) De.xc
theorem ds_new {i : Nat} {x : Str} {p2 : Pos} (h : DF J X E e tA) (hg : PG X (.Name x p2) (gName i)) (hs : swapsWithSole [.Name x p2] e pos.line X.env = pure false := by rfl) (hw : swappedStores [.Name x p2] e X.env = pure none := by rfl)
    (h1 : (assignEach [.Name x p2] X.env).map (·.2) = [assign (.Name x p2) X.env] := by rfl) : DS J X E (.Assign [.Name x p2] e pos) (sNew i tA) := by
  obtain ⟨te, p, k⟩ := h.ex
  refine ⟨_, ps_asg p hg hs hw h1, fun B O H σ ρ De Dh rl c h => k B O H σ ρ _ _ _ rl c.xc h fun p xs H' ds e1 np n nb hp hl ha hd => ?_⟩
  exact c.nx _ H' _ _ (rl.newOwn e1 np n nb hp hl ha) hd
/-- y = [.. for ..], y kept or of its own -/
@[simp] def sAsgL (i : Nat) (t : DTA) : DST := fun ρ De => t ρ (fun ds => De.nx (ρ.set i (.val (.lst ds)))) De.xc
section
variable {y : Str} {py spos : Pos} {i : Nat} {elt iter : Expr} {ifs : List Expr} {scope : Scope} {own : List (Str × Nat)}
theorem lc_setup (hc : X.calm = true) (hN : X.N.Nodup) (hy : X.N[i]? = some y) (hyl : X.env.scope.names.lookup y = some .local) (hsw : swapsWith (.ListComp elt [⟨tg, iter, ifs, 0⟩] scope pos) (some (.Name y py)) spos.line X.env = pure true)
    (hi : DI J X E tg iter ti) (ok : BlkOk X.N X.env.scope scope own)
    (hg : ∀ (s : Shared) (H : Hp) (C : Addr) (cl : List (Str × Addr)) (fp : List Addr), DG (X.blk s H scope (compEnvC scope cl C X.env) fp) tg g ix)
    (ht : ∀ (s : Shared) (H : Hp) (C : Addr) (cl : List (Str × Addr)) (fp : List Addr), DQs J (X.blk s H scope (compEnvC scope cl C X.env) fp) E0 ifs q)
    (he : ∀ (s : Shared) (H : Hp) (C : Addr) (cl : List (Str × Addr)) (fp : List Addr), DE J (X.blk s H scope (compEnvC scope cl C X.env) fp) E0 elt t)
    (hix : ∀ i ∈ ix, i ∈ own.map (·.2)) (hs : ∀ x, foldedSetIterable iter X.env x = pure x) :
    ∃ ts, PS X (.Assign [.Name y py] (.ListComp elt [⟨tg, iter, ifs, 0⟩] scope pos) spos) ts ∧ ∀ B O H σ ρ (De : DEnds) (P : List D → Prop) (m : St → Hp → Prop) (Dh : Ends), Rel (wd X) J.T B O H σ ρ → EOk J E B De.xc → dLc ti g q t (own.map (·.2)) ρ P De.xc →
      (∀ p xs H' ds, Ext J.T H H' → Fresh H p → ¬ O p → B.Hb p = none → H' p = some (.lst xs) → ds.length ≤ sizeLine → DpA (wd X) (fun a => O a ∨ a = p) H' xs ds → P ds → Dh.nx (σ.set i (some (.ref p))) H') → ts Dh σ H := by
  obtain ⟨wi, p, sd⟩ := hi.ex
  refine ⟨_, ps_setLc (g := upG (wd X) J.T g ix) (tt := upQ (wd X) J E0 q) (te := upE (wd X) J E0 t) hc hN hy hyl hsw p ok (fun s H C cl fp => (hg s H C cl fp).up) (fun s H C cl fp => (ht s H C cl fp).up) (fun s H C cl fp => (he s H C cl fp).up) hs, fun B O H σ ρ De P m Dh rl x h fin => ?_⟩
  refine sd B O H σ ρ _ De.xc _ rl x h fun I H1 ds x1 wk hn h1 => ?_
  exact lc_body (Q := fun v H' => Dh.nx (σ.set i (some v)) H') (J := J) rfl (X := X) rfl (rl.ext x1) wk hn hix h1 fun p xs H' es e fr n b hp hl ha hP => fin p xs H' es (x1.trans e) (x1.freshF fr) n b hp hl ha hP
theorem ds_lc (hc : X.calm = true) (hN : X.N.Nodup) (hy : X.N[i]? = some y) (hyl : X.env.scope.names.lookup y = some .local) (hsw : swapsWith (.ListComp elt [⟨tg, iter, ifs, 0⟩] scope pos) (some (.Name y py)) spos.line X.env = pure true)
    (hi : DI J X E tg iter ti) (ok : BlkOk X.N X.env.scope scope own)
    (hg : ∀ (s : Shared) (H : Hp) (C : Addr) (cl : List (Str × Addr)) (fp : List Addr), DG (X.blk s H scope (compEnvC scope cl C X.env) fp) tg g ix)
    (ht : ∀ (s : Shared) (H : Hp) (C : Addr) (cl : List (Str × Addr)) (fp : List Addr), DQs J (X.blk s H scope (compEnvC scope cl C X.env) fp) E0 ifs q)
    (he : ∀ (s : Shared) (H : Hp) (C : Addr) (cl : List (Str × Addr)) (fp : List Addr), DE J (X.blk s H scope (compEnvC scope cl C X.env) fp) E0 elt t)
    (hix : ∀ i ∈ ix, i ∈ own.map (·.2) := by decide) (hs : ∀ x, foldedSetIterable iter X.env x = pure x := by intro _; rfl) :
    DS J X E (.Assign [.Name y py] (.ListComp elt [⟨tg, iter, ifs, 0⟩] scope pos) spos) (sAsgL i (dLc ti g q t (own.map (·.2)))) := by
  obtain ⟨ts, p, k⟩ := lc_setup (J := J) (E := E) hc hN hy hyl hsw hi ok hg ht he hix hs
  refine ⟨ts, p, fun B O H σ ρ De Dh rl c h => k B O H σ ρ De _ (fun _ _ => True) Dh rl c.xc h fun p xs H' ds e1 fr n nb hp hl ha hd => ?_⟩
  exact c.nx O H' _ _ ((rl.ext e1).val (d := .lst ds) ⟨p, xs, rfl, n, hp, hl, DpA.ext (Ext.refl (T := J.T)) (fun _ _ _ _ z => .inl z) ds xs ha⟩) hd
theorem ds_lcNew (hc : X.calm = true) (hN : X.N.Nodup) (hy : X.N[i]? = some y) (hyl : X.env.scope.names.lookup y = some .local) (hsw : swapsWith (.ListComp elt [⟨tg, iter, ifs, 0⟩] scope pos) (some (.Name y py)) spos.line X.env = pure true)
    (hi : DI J X E tg iter ti) (ok : BlkOk X.N X.env.scope scope own)
    (hg : ∀ (s : Shared) (H : Hp) (C : Addr) (cl : List (Str × Addr)) (fp : List Addr), DG (X.blk s H scope (compEnvC scope cl C X.env) fp) tg g ix)
    (ht : ∀ (s : Shared) (H : Hp) (C : Addr) (cl : List (Str × Addr)) (fp : List Addr), DQs J (X.blk s H scope (compEnvC scope cl C X.env) fp) E0 ifs q)
    (he : ∀ (s : Shared) (H : Hp) (C : Addr) (cl : List (Str × Addr)) (fp : List Addr), DE J (X.blk s H scope (compEnvC scope cl C X.env) fp) E0 elt t)
    (hix : ∀ i ∈ ix, i ∈ own.map (·.2) := by decide) (hs : ∀ x, foldedSetIterable iter X.env x = pure x := by intro _; rfl) :
    DS J X E (.Assign [.Name y py] (.ListComp elt [⟨tg, iter, ifs, 0⟩] scope pos) spos) (sNew i (dLc ti g q t (own.map (·.2)))) := by
  obtain ⟨ts, p, k⟩ := lc_setup (J := J) (E := E) hc hN hy hyl hsw hi ok hg ht he hix hs
  refine ⟨ts, p, fun B O H σ ρ De Dh rl c h => k B O H σ ρ De _ (fun _ _ => True) Dh rl c.xc h fun p xs H' ds e1 fr n nb hp hl ha hd => ?_⟩
  exact c.nx _ H' _ _ (rl.newOwn e1 fr n nb hp hl ha) hd
end
/-! ### own lists grow; they are given away -/
theorem Rel.grow {W : Wd} {T : Tb} {B : Bs} {O : Addr → Prop} {H : Hp} {σ : St} {ρ : Rho} {i : Nat} {ds es : List D} {a : Addr} {xs ys : List V} (rl : Rel W T B O H σ ρ) (hi : ρ[i]? = some (.own ds)) (hs : σ[i]? = some (some (.ref a))) (hx : H a = some (.lst xs)) (hl : es.length ≤ sizeLine) (ha : DpA W O (upd H a (.lst ys)) ys es) :
    Rel W T B O (upd H a (.lst ys)) σ (ρ.set i (.own es)) := by
  obtain ⟨a', xs', e1, o1, o2, o3, h4, h5, h6⟩ := rl.sl i _ hi
  rw [hs] at e1
  have e1 : some (V.ref a) = some (V.ref a') := e1
  cases e1
  rw [hx] at h4; cases h4
  have k : Keep O H (upd H a (.lst ys)) := fun b o hb _ => by
    by_cases z : b = a
    · subst z; rw [hx] at hb; cases hb; exact .inl ⟨o1, _, rfl⟩
    · exact .inr (by rw [upd_ne z]; exact hb)
  have oi : i < ρ.length := (List.getElem?_eq_some_iff.mp hi).1
  have old : ∀ {j : Nat} {b : Addr}, OwnAt σ (ρ.set i (.own es)) j b → OwnAt σ ρ j b := fun {j b} ⟨⟨fs, h1⟩, h2⟩ => by
    by_cases q : i = j
    · subst q; exact ⟨⟨ds, hi⟩, h2⟩
    · rw [List.getElem?_set_ne q] at h1; exact ⟨⟨fs, h1⟩, h2⟩
  refine ⟨⟨fun b o hb => ?_, tabs_updL rl.base.t hx⟩, rl.sub, rl.new, fun b z => ?_, by rw [List.length_set]; exact rl.len, fun j s hj => ?_, fun j l b h1 h2 => rl.dist j l b (old h1) (old h2)⟩
  · rw [upd_ne (ne_of_none hb o3)]; exact rl.base.n b o hb
  · by_cases q : b = a
    · rw [q]; exact ⟨ys, upd_same⟩
    · obtain ⟨zs, hz⟩ := rl.dom b z
      exact ⟨zs, by rw [upd_ne q]; exact hz⟩
  · by_cases q : i = j
    · subst q
      rw [List.getElem?_set_self oi] at hj
      cases hj
      exact ⟨a, ys, by rw [hs]; rfl, o1, o2, o3, upd_same, hl, ha⟩
    · rw [List.getElem?_set_ne q] at hj
      have z := rl.sl j s hj
      cases s with
      | non => trivial
      | val d =>
        obtain ⟨x, e1, h1⟩ := z
        exact ⟨x, e1, Dp.keep k (fun _ _ _ _ z => z) d x h1⟩
      | own fs =>
        obtain ⟨b, zs, e1, h1, h2, h3, h4, h5, h6⟩ := z
        have hb : σ[j]? = some (some (.ref b)) := by
          cases y : σ[j]? with
          | none => rw [y] at e1; cases e1
          | some o => rw [y] at e1; exact congrArg some e1
        have nb : b ≠ a := fun z => q (rl.dist i j a ⟨⟨ds, hi⟩, hs⟩ ⟨⟨fs, hj⟩, by rw [← z]; exact hb⟩)
        exact ⟨b, zs, e1, h1, h2, h3, by rw [upd_ne nb]; exact h4, h5, DpA.keep k (fun _ _ _ _ z => z) fs zs h6⟩
@[simp] def ownP (s : Option Sl) (P : List D → Prop) : Prop := match s with
  | some (.own ds) => P ds
  | _ => False
@[simp] def sApp (i : Nat) (t : DT) : DST := fun ρ De => ownP ρ[i]? fun ds => t ρ (fun d => ds.length < sizeLine ∧ De.nx (ρ.set i (.own (ds ++ [d])))) De.xc
theorem own_at {W : Wd} {T : Tb} {B : Bs} {O : Addr → Prop} {H : Hp} {σ : St} {ρ : Rho} {i : Nat} {P : List D → Prop} (rl : Rel W T B O H σ ρ) (h : ownP ρ[i]? P) :
    ∃ ds a xs, ρ[i]? = some (.own ds) ∧ σ[i]? = some (some (.ref a)) ∧ H a = some (.lst xs) ∧ DpA W O H xs ds ∧ O a ∧ P ds := by
  cases e : ρ[i]? with
  | none => rw [e] at h; exact h.elim
  | some s =>
    rw [e] at h
    cases s with
    | non => exact h.elim
    | val _ => exact h.elim
    | own ds =>
      obtain ⟨a, xs, e1, h1, h2, h3, h4, h5, h6⟩ := rl.sl i _ e
      refine ⟨ds, a, xs, rfl, ?_, h4, h6, h1, h⟩
      cases y : σ[i]? with
      | none => rw [y] at e1; cases e1
      | some o => rw [y] at e1; exact congrArg some e1
theorem ds_app {i : Nat} {x : Str} {p1 apos cpos : Pos} (hv : PE X (.Name x p1) (tVar i)) (h : DE J X E e t)
    (hbase : attributeBase (.Name x p1) "append" X.env (eval (.Name x p1) X.env) = eval (.Name x p1) X.env := by rfl)
    (hfew : ((backTo cpos (starEach (e :: []) X.env)).all (fun x => !x.1) && (backToKw cpos (keywordEach [] X.env)).all (fun x => x.1.isSome)
      && decide ((e :: ([] : List Expr)).length + ([] : List Keyword).length + (if ([] : List Keyword).isEmpty then 0 else 1) < 30)) = true := by rfl)
    (hline : (apos.endLine == cpos.line) = true := by rfl) (hs : starEach (e :: []) X.env = (false, eval e X.env) :: starEach [] X.env := by rfl)
    (hsw : swapsWith (.Call (.Attribute (.Name x p1) "append" apos) [e] [] cpos) none pos.line X.env = pure false := by rfl) :
    DS J X E (.Expr (.Call (.Attribute (.Name x p1) "append" apos) [e] [] cpos) pos) (sApp i t) := by
  obtain ⟨te, p, k⟩ := h.ex
  refine ⟨_, ps_expr (pe_bm PySem.F.plainAttrs_list PySem.F.slot_list_append PySem.F.type_list_append mt_append hv (pa_cons p pa_nil hs) hbase hfew hline hs rfl) hsw, fun B O H σ ρ De Dh rl c h => ?_⟩
  obtain ⟨ds, a, xs, hi, hs, hx, ha, ho, h⟩ := own_at rl h
  refine ⟨.ref a, hs, .inl ⟨rfl, xs, .inl (.inl hx)⟩, k B O H σ ρ _ _ _ rl c.xc h fun v H' d x1 hv hd => ?_⟩
  refine ⟨a, xs, v, rfl, rfl, x1.lst hx, by rw [DpA.len ha]; exact hd.1, ?_⟩
  have rl1 := rl.ext x1
  have k1 : Keep O H' (upd H' a (.lst (xs ++ [v]))) := fun b o hb _ => by
    by_cases z : b = a
    · subst z; rw [x1.lst hx] at hb; cases hb; exact .inl ⟨ho, _, rfl⟩
    · exact .inr (by rw [upd_ne z]; exact hb)
  refine c.nx O _ σ _ (rl1.grow hi hs (x1.lst hx) (by rw [List.length_append]; exact hd.1) ?_) hd.2
  exact (DpA.keep k1 (fun _ _ _ _ z => z) _ _ (DpA.ext x1 (fun _ _ _ _ z => z) _ _ ha)).append ⟨Dp.keep k1 (fun _ _ _ _ z => z) _ _ hv, trivial⟩
@[simp] def sExt (i : Nat) (t : DT) : DST := fun ρ De => ownP ρ[i]? fun ds => t ρ (fun d => match d with
  | .lst es => ds.length + es.length ≤ sizeLine ∧ De.nx (ρ.set i (.own (ds ++ es)))
  | _ => False) De.xc
theorem ds_ext {i : Nat} {x : Str} {p1 apos cpos : Pos} (hv : PE X (.Name x p1) (tVar i)) (h : DE J X E e t)
    (hbase : attributeBase (.Name x p1) "extend" X.env (eval (.Name x p1) X.env) = eval (.Name x p1) X.env := by rfl)
    (hfew : ((backTo cpos (starEach (e :: []) X.env)).all (fun x => !x.1) && (backToKw cpos (keywordEach [] X.env)).all (fun x => x.1.isSome)
      && decide ((e :: ([] : List Expr)).length + ([] : List Keyword).length + (if ([] : List Keyword).isEmpty then 0 else 1) < 30)) = true := by rfl)
    (hline : (apos.endLine == cpos.line) = true := by rfl) (hs : starEach (e :: []) X.env = (false, eval e X.env) :: starEach [] X.env := by rfl)
    (hsw : swapsWith (.Call (.Attribute (.Name x p1) "extend" apos) [e] [] cpos) none pos.line X.env = pure false := by rfl) :
    DS J X E (.Expr (.Call (.Attribute (.Name x p1) "extend" apos) [e] [] cpos) pos) (sExt i t) := by
  obtain ⟨te, p, k⟩ := h.ex
  refine ⟨_, ps_expr (pe_bm PySem.F.plainAttrs_list PySem.F.slot_list_extend PySem.F.type_list_extend mt_extend hv (pa_cons p pa_nil hs) hbase hfew hline hs rfl) hsw, fun B O H σ ρ De Dh rl c h => ?_⟩
  obtain ⟨ds, a, xs, hi, hs, hx, ha, ho, h⟩ := own_at rl h
  refine ⟨.ref a, hs, .inl ⟨rfl, xs, .inl (.inl hx)⟩, k B O H σ ρ _ _ _ rl c.xc h fun v H' d x1 hv hd => ?_⟩
  cases d with
  | lst es =>
    obtain ⟨b, zs, rfl, ob, hb, nb, rb⟩ := hv
    refine ⟨a, b, xs, zs, rfl, rfl, x1.lst hx, hb, by rw [DpA.len ha, DpA.len rb]; exact hd.1, ?_⟩
    have rl1 := rl.ext x1
    have k1 : Keep O H' (upd H' a (.lst (xs ++ zs))) := fun b o hb _ => by
      by_cases z : b = a
      · subst z; rw [x1.lst hx] at hb; cases hb; exact .inl ⟨ho, _, rfl⟩
      · exact .inr (by rw [upd_ne z]; exact hb)
    refine c.nx O _ σ _ (rl1.grow hi hs (x1.lst hx) (by rw [List.length_append]; exact hd.1) ?_) hd.2
    exact (DpA.keep k1 (fun _ _ _ _ z => z) _ _ (DpA.ext x1 (fun _ _ _ _ z => z) _ _ ha)).append (DpA.keep k1 (fun _ _ _ _ z => z) _ _ rb)
  | _ => exact hd.elim
/-- an own list is given away: from now on it is read only -/
@[simp] def sGive (i : Nat) (s : DST) : DST := fun ρ De => ownP ρ[i]? fun ds => s (ρ.set i (.val (.lst ds))) De
theorem Rel.give {W : Wd} {T : Tb} {B : Bs} {O : Addr → Prop} {H : Hp} {σ : St} {ρ : Rho} {i : Nat} {ds : List D} {a : Addr} (rl : Rel W T B O H σ ρ) (hi : ρ[i]? = some (.own ds)) (hs : σ[i]? = some (some (.ref a))) :
    Rel W T B (fun b => O b ∧ b ≠ a) H σ (ρ.set i (.val (.lst ds))) := by
  obtain ⟨a', xs, e1, o1, o2, o3, h4, h5, h6⟩ := rl.sl i _ hi
  rw [hs] at e1
  have e1 : some (V.ref a) = some (V.ref a') := e1
  cases e1
  have oi : i < ρ.length := (List.getElem?_eq_some_iff.mp hi).1
  have old : ∀ {j : Nat} {b : Addr}, OwnAt σ (ρ.set i (.val (.lst ds))) j b → OwnAt σ ρ j b ∧ j ≠ i := fun {j b} ⟨⟨fs, h1⟩, h2⟩ => by
    by_cases q : i = j
    · subst q; rw [List.getElem?_set_self oi] at h1; cases h1
    · rw [List.getElem?_set_ne q] at h1; exact ⟨⟨⟨fs, h1⟩, h2⟩, fun z => q z.symm⟩
  refine ⟨rl.base, fun b z => ⟨rl.sub b z, fun q => o2 (q ▸ z)⟩, fun b z => rl.new b z.1, fun b z => rl.dom b z.1, by rw [List.length_set]; exact rl.len, fun j s hj => ?_, fun j l b h1 h2 => rl.dist j l b (old h1).1 (old h2).1⟩
  by_cases q : i = j
  · subst q
    rw [List.getElem?_set_self oi] at hj
    cases hj
    exact ⟨.ref a, by rw [hs]; rfl, a, xs, rfl, fun z => z.2 rfl, h4, h5, DpA.ext (Ext.refl (T := T)) (fun _ _ _ _ z => z.1) ds xs h6⟩
  · rw [List.getElem?_set_ne q] at hj
    have z := rl.sl j s hj
    cases s with
    | non => trivial
    | val d =>
      obtain ⟨x, e1, h1⟩ := z
      exact ⟨x, e1, Dp.ext (Ext.refl (T := T)) (fun _ _ _ _ z => z.1) d x h1⟩
    | own fs =>
      obtain ⟨b, zs, e1, h1, h2, h3, h4, h5, h6⟩ := z
      have hb : σ[j]? = some (some (.ref b)) := by
        cases y : σ[j]? with
        | none => rw [y] at e1; cases e1
        | some o => rw [y] at e1; exact congrArg some e1
      have nb : b ≠ a := fun z => q (rl.dist i j a ⟨⟨ds, hi⟩, hs⟩ ⟨⟨fs, hj⟩, by rw [← z]; exact hb⟩)
      exact ⟨b, zs, e1, ⟨h1, nb⟩, h2, h3, h4, h5, DpA.ext (Ext.refl (T := T)) (fun _ _ _ _ z => z.1) fs zs h6⟩
theorem dss_give {i : Nat} (h : DSs J X E sts s) : DSs J X E sts (sGive i s) := by
  obtain ⟨ts, p, k⟩ := h.ex
  refine ⟨ts, p, fun B O H σ ρ De Dh rl c h => ?_⟩
  obtain ⟨ds, a, xs, hi, hs, hx, ha, ho, h⟩ := own_at rl h
  exact k B _ H σ _ De Dh (rl.give hi hs) c h
end
end DL
namespace DL
open PySem PySem.Spec PyProof.Rows L2

section
variable {J : Jd} {X : Cx} {E : XK} {e a b c tg : Expr} {es tgs : List Expr} {st : Stmt} {sts : List Stmt} {t ta tb tc : DT} {s u v : DST} {tA ti : DTA} {q q' : DTQ} {pos : Pos} {g : GD} {ix jx : List Nat}
/-! ### loops -/
@[simp] def forGo (g : GD) (s : DST) (De : DEnds) : List D → Rho → Prop
  | [], ρ => De.nx ρ
  | d :: ds, ρ => g d ρ fun ρ1 => s ρ1 { De with nx := forGo g s De ds, ct := forGo g s De ds, bk := De.nx }
@[simp] def sFor (ti : DTA) (g : GD) (s : DST) : DST := fun ρ De => ti ρ (fun ds => forGo g s De ds ρ) De.xc
/-- where a loop began: the hidden lists that were made since the def's begin are masked -/
noncomputable def bsLoop (T : Tb) (B : Bs) (O : Addr → Prop) (H : Hp) : Bs :=
  ⟨fun b => open Classical in if O b ∧ B.Hb b = none then none else strip H b, B.O0, fun b ps z => by
    by_cases q : O b ∧ B.Hb b = none
    · simp only [q, and_self, if_true] at z; cases z
    · simp only [q, if_false] at z; exact strip_ntb b ps z⟩
theorem bsLoop_of {T : Tb} {B : Bs} {O : Addr → Prop} {H : Hp} {b : Addr} {o : HO} (h : H b = some o) (n : ∀ ps, o ≠ .tbl ps) (q : ¬ (O b ∧ B.Hb b = none)) : (bsLoop T B O H).Hb b = some o := by
  show (open Classical in if O b ∧ B.Hb b = none then none else strip H b) = _
  simp only [q, if_false]; exact strip_of h n
theorem bsLoop_some {T : Tb} {B : Bs} {O : Addr → Prop} {H : Hp} {b : Addr} {o : HO} (h : (bsLoop T B O H).Hb b = some o) : H b = some o := by
  have h : (open Classical in if O b ∧ B.Hb b = none then none else strip H b) = some o := h
  by_cases q : O b ∧ B.Hb b = none
  · simp only [q, and_self, if_true] at h; cases h
  · simp only [q, if_false] at h; exact strip_some h
theorem bsLoop_mask {T : Tb} {B : Bs} {O : Addr → Prop} {H : Hp} {b : Addr} (q : O b ∧ B.Hb b = none) : (bsLoop T B O H).Hb b = none := by
  show (open Classical in if O b ∧ B.Hb b = none then none else strip H b) = _
  simp only [q, and_self, if_true]
theorem Rel.toLoop {W : Wd} {T : Tb} {B : Bs} {O : Addr → Prop} {H : Hp} {σ : St} {ρ : Rho} (rl : Rel W T B O H σ ρ) : Rel W T (bsLoop T B O H) O H σ ρ := by
  refine ⟨⟨fun b o h => bsLoop_some h, rl.base.t⟩, rl.sub, fun a z => ?_, rl.dom, rl.len, fun i s hs => ?_, rl.dist⟩
  · rcases rl.new a z with h | h
    · exact .inl h
    · exact .inr (bsLoop_mask ⟨z, h⟩)
  · have z := rl.sl i s hs
    cases s with
    | non => trivial
    | val d => exact z
    | own fs =>
      obtain ⟨b, zs, e1, h1, h2, h3, h4, h5, h6⟩ := z
      exact ⟨b, zs, e1, h1, h2, bsLoop_mask ⟨h1, h3⟩, h4, h5, h6⟩
theorem loop_same {W : Wd} {T : Tb} {B : Bs} {O : Addr → Prop} {H : Hp} {σ : St} {ρ : Rho} (rl : Rel W T B O H σ ρ) : Same B.Hb (bsLoop T B O H).Hb := fun b o h =>
  bsLoop_of (rl.base.n b o h) (fun ps z => B.ntb b ps (by rw [h, z])) fun q => by rw [h] at q; cases q.2
theorem BOk.ofLoop {W : Wd} {T : Tb} {B : Bs} {O : Addr → Prop} {H H' : Hp} {σ : St} {ρ : Rho} (rl : Rel W T B O H σ ρ) (b : BOk T (bsLoop T B O H) H') : BOk T B H' :=
  ⟨fun c o h => b.n c o (loop_same rl c o h), b.t⟩
theorem Rel.ofLoop {W : Wd} {T : Tb} {B : Bs} {O O' : Addr → Prop} {H H' : Hp} {σ σ' : St} {ρ ρ' : Rho} (rl : Rel W T B O H σ ρ) (r : Rel W T (bsLoop T B O H) O' H' σ' ρ') : Rel W T B O' H' σ' ρ' := by
  have nn : ∀ {a : Addr}, (bsLoop T B O H).Hb a = none → B.Hb a = none := fun {a} h => by
    cases z : B.Hb a with
    | none => rfl
    | some o => rw [loop_same rl a o z] at h; cases h
  refine ⟨r.base.ofLoop rl, r.sub, fun a z => ?_, r.dom, r.len, fun i s hs => ?_, r.dist⟩
  · rcases r.new a z with h | h
    · exact .inl h
    · exact .inr (nn h)
  · have z := r.sl i s hs
    cases s with
    | non => trivial
    | val d => exact z
    | own fs =>
      obtain ⟨b, zs, e1, h1, h2, h3, h4, h5, h6⟩ := z
      exact ⟨b, zs, e1, h1, h2, nn h3, h4, h5, h6⟩
theorem Cp.toLoop {B : Bs} {O : Addr → Prop} {H : Hp} {σ : St} {ρ : Rho} {De : DEnds} {Dh : Ends} (rl : Rel (wd X) J.T B O H σ ρ) (c : Cp J X E B De Dh) : Cp J X E (bsLoop J.T B O H) De Dh :=
  ⟨fun O' H' σ' ρ' r h => c.nx O' H' σ' ρ' (rl.ofLoop r) h, fun O' H' σ' ρ' r h => c.bk O' H' σ' ρ' (rl.ofLoop r) h, fun O' H' σ' ρ' r h => c.ct O' H' σ' ρ' (rl.ofLoop r) h,
    fun O' v H' d b s hv h => c.rt O' v H' d (b.ofLoop rl) s hv h, fun nm H' b h => c.xc nm H' (b.ofLoop rl) h⟩
theorem dp_loop {W : Wd} {T : Tb} {B : Bs} {O : Addr → Prop} {H : Hp} {σ : St} {ρ : Rho} (rl : Rel W T B O H σ ρ) (v : V) (d : D) (h : Dp W O H v d) : Dp W B.O0 (bsLoop T B O H).Hb v d := by
  refine Dp.keep (O := O) (O' := B.O0) (fun b o hb n => ?_) (fun a _ _ _ z => rl.sub a z) d v h
  by_cases q : O b ∧ B.Hb b = none
  · obtain ⟨xs, z⟩ := rl.dom b q.1
    rw [z] at hb; cases hb
    exact .inl ⟨q.1, xs, rfl⟩
  · exact .inr (bsLoop_of hb n q)
theorem ds_for {iter : Expr} (hp : PassesOwn (model X.prog X.w) X.A X.env X.xe) (hc : X.calm = true) (hi : DI J X E tg iter ti) (hg : DG X tg g ix) (hb : DSs J X E sts s) (hs : ∀ x, foldedSetIterable iter X.env x = pure x := by intro _; rfl) :
    DS J X E (.For tg iter sts [] pos) (sFor ti g s) := by
  obtain ⟨wi, p, k⟩ := hi.ex
  obtain ⟨ts, pb, kb⟩ := hb.ex
  refine ⟨_, ps_for hp hc p (hg.up (T := J.T)) pb hs, fun B O H σ ρ De Dh rl c h => k B O H σ ρ _ _ _ rl c.xc h fun I H1 ds x1 wk hn h1 => ?_⟩
  have rl1 := rl.ext x1
  have w := wk (bsLoop J.T B O H1).Hb B.O0 (dp_loop rl1)
  have c' := c.toLoop rl1
  refine for_it (n := ds.length) w (fun i σ' H' => ∃ O' ρ', Rel (wd X) J.T (bsLoop J.T B O H1) O' H' σ' ρ' ∧ forGo g s De (ds.drop i) ρ') ⟨O, ρ, rl1.toLoop, by rw [List.drop_zero]; exact h1⟩ ?_ ?_ ?_
  · rintro i σ' H' hi ⟨O', ρ', r, _⟩
    exact r.base.n
  · rintro i x σ' H' H2 hi ⟨O', ρ', r, hgo⟩ ⟨x2, d, hd, hv⟩
    have hdrop : ds.drop i = d :: ds.drop (i + 1) := by
      obtain ⟨h1, h2⟩ := List.getElem?_eq_some_iff.mp hd
      rw [← h2]; exact List.drop_eq_getElem_cons h1
    rw [hdrop] at hgo
    refine ⟨bsLoop J.T B O H1, O', ρ', d, _, r.ext x2, hv O' r.new r.dom, hgo, fun σ3 ρ3 r3 _ h3 => ?_⟩
    refine kb (bsLoop J.T B O H1) O' H2 σ3 ρ3 { De with nx := forGo g s De (ds.drop (i + 1)), ct := forGo g s De (ds.drop (i + 1)), bk := De.nx } _ r3 ⟨?_, ?_, ?_, c'.rt, c'.xc⟩ h3
    · exact fun O4 H4 σ4 ρ4 r4 h4 => ⟨O4, ρ4, r4, h4⟩
    · exact fun O4 H4 σ4 ρ4 r4 h4 => c'.nx O4 H4 σ4 ρ4 r4 h4
    · exact fun O4 H4 σ4 ρ4 r4 h4 => ⟨O4, ρ4, r4, h4⟩
  · rintro σ' H' ⟨O', ρ', r, hgo⟩
    rw [List.drop_length] at hgo
    exact c'.nx O' H' σ' ρ' r hgo
def sWhile (q : DTQ) (s : DST) : DST := fun ρ De => ∃ I : Nat → Rho → Prop, (∃ m, I m ρ) ∧ ∀ m ρ, I m ρ →
  q ρ (fun b => if b = true then s ρ { De with nx := fun ρ' => ∃ m', m' < m ∧ I m' ρ', ct := fun ρ' => ∃ m', m' < m ∧ I m' ρ', bk := De.nx } else De.nx ρ) De.xc
theorem ds_while (hp : PassesOwn (model X.prog X.w) X.A X.env X.xe) (hq : DQ J X E c q) (hb : DSs J X E sts s) : DS J X E (.While c sts [] pos) (sWhile q s) := by
  obtain ⟨te, p, k⟩ := hq.ex
  obtain ⟨ts, pb, kb⟩ := hb.ex
  refine ⟨_, ps_while hp p pb, fun B O H σ ρ De Dh rl c h => ?_⟩
  obtain ⟨I, ⟨m0, i0⟩, turn⟩ := h
  refine ⟨fun m σ' H' => ∃ O' ρ', Rel (wd X) J.T B O' H' σ' ρ' ∧ I m ρ', ⟨m0, O, ρ, rl, i0⟩, ?_⟩
  rintro m σ' H' ⟨O', ρ', r, hi⟩
  refine k B O' H' σ' ρ' _ _ _ r c.xc (turn m ρ' hi) fun b H2 x2 hb => ?_
  cases b with
  | false => exact iteF (c.nx O' H2 σ' ρ' (r.ext x2) hb)
  | true =>
    have hb := (if_pos (show true = true from rfl)).mp hb
    refine iteT ⟨fun σ3 H3 => ∃ O3 ρ3, Rel (wd X) J.T B O3 H3 σ3 ρ3 ∧ ∃ m', m' < m ∧ I m' ρ3, ?_, ?_⟩
    · rintro σ3 H3 ⟨O3, ρ3, r3, m', hm, hi'⟩
      exact ⟨m', hm, O3, ρ3, r3, hi'⟩
    · refine kb B O' H2 σ' ρ' { De with nx := fun ρ' => ∃ m', m' < m ∧ I m' ρ', ct := fun ρ' => ∃ m', m' < m ∧ I m' ρ', bk := De.nx } _ (r.ext x2) ⟨?_, ?_, ?_, c.rt, c.xc⟩ hb
      · exact fun O4 H4 σ4 ρ4 r4 h4 => ⟨O4, ρ4, r4, h4⟩
      · exact fun O4 H4 σ4 ρ4 r4 h4 => c.nx O4 H4 σ4 ρ4 r4 h4
      · exact fun O4 H4 σ4 ρ4 r4 h4 => ⟨O4, ρ4, r4, h4⟩
/-! ### x += e of ints -/
@[simp] def sAugI (i : Nat) (t : DT) : DST := fun ρ De => slP ρ[i]? fun d => t ρ (fun d' => match d, d' with
  | .int x, .int y => De.nx (ρ.set i (.val (.int (x + y))))
  | _, _ => False) De.xc
/-! ### raise -/
/-- an own error's class -/
structure Exn (K : PySem.W.Frag) (mg : Str → Option Value) (C : Addr) (nm : Str) : Prop where
  g : mg nm = some (.ref C)
  x : PySem.W.excIn K C He.veBase "ValueError.__new__" = true
  k : PySem.W.keepIn K (.ref C) = true
  b : PySem.W.subIn K (.ref C) (.type "BaseException") = some true
  t : PySem.W.typeIn K (.ref C) = some (.type "type")
@[simp] def sRaise (nm : Str) : DST := fun _ De => De.xc nm
theorem ds_raise {nm m : Str} {j : Nat} {p p2 p3 : Pos} (hc : X.calm = true) (tk : Takes X (fun cls d _ H => E cls d H)) (x : Exn X.K X.mg (J.ca nm) nm) (hg : Gl X nm) (hdb : (nm == ("__debug__" : Str)) = false := by decide) :
    DS J X E (.Raise (some (.Call (.Name nm p) [.Constant (.str m) j p2] [] p3)) none pos) (sRaise nm) :=
  ⟨_, ps_raise hc tk (pmk_own PySem.F.excBase_ValueError x.x x.g x.k (raises_own x.b x.t) hg hdb), fun B O H σ ρ De Dh rl c h => c.xc nm H rl.base h⟩
end

/-! ### a def -/
@[simp] def startR (N : List Str) (ds : List D) : Rho := ds.map .val ++ List.replicate (N.length - ds.length) .non
theorem start_rel {W : Wd} {T : Tb} {O : Addr → Prop} {H : Hp} {N : List Str} {vs : List V} {ds : List D} (dm : Dom O H) (ht : LamX.Tabs T H) (h : DpA W O H vs ds) : Rel W T (bsOf T O H) O H (start N vs) (startR N ds) := by
  have l := DpA.len h
  refine ⟨bsOf_ok ht, fun _ z => z, fun _ z => .inl z, dm, ?_, fun i s hs => ?_, fun i j a h1 h2 => ?_⟩
  · unfold L2.start startR
    rw [List.length_append, List.length_append, List.length_map, List.length_map, List.length_replicate, List.length_replicate, l]
  · unfold startR at hs
    unfold L2.start
    by_cases hi : i < ds.length
    · rw [List.getElem?_append_left (by rw [List.length_map]; exact hi), List.getElem?_map] at hs
      rw [List.getElem?_append_left (by rw [List.length_map, l]; exact hi), List.getElem?_map]
      cases e : ds[i]? with
      | none => rw [e] at hs; cases hs
      | some d =>
        rw [e] at hs
        cases hs
        obtain ⟨v, hv, hd⟩ := h.getD e
        rw [hv]
        exact ⟨v, rfl, hd⟩
    · rw [List.getElem?_append_right (by rw [List.length_map]; omega), List.getElem?_replicate] at hs
      split at hs
      · cases hs; trivial
      · cases hs
  · obtain ⟨⟨es, h1⟩, _⟩ := h1
    unfold startR at h1
    by_cases hi : i < ds.length
    · rw [List.getElem?_append_left (by rw [List.length_map]; exact hi), List.getElem?_map] at h1
      cases e : ds[i]? with
      | none => rw [e] at h1; cases h1
      | some d => rw [e] at h1; cases h1
    · rw [List.getElem?_append_right (by rw [List.length_map]; omega), List.getElem?_replicate] at h1
      split at h1 <;> cases h1
theorem dl_fn {P : Program} {w : World} {K : PySem.W.Frag} {mg : Str → Option Value} {base : Heap} {J : Jd} {x qual : Str} {params : Arguments} {body : List Stmt} {scope : Scope} {f : Addr} {fd : FuncData} {N ps : List Str} {k : Nat} {sd : SpD} {t : DST}
    (F : FunD K x qual params body scope [] [] f fd) (S : FnScope N ps scope) (hlen : ∀ ds P R, sd ds P R → ds.length = ps.length)
    (hb : ∀ (cdv : Value) (A : Around) (outer : List Env) (s : Shared) (H : Hp) (E : XK), Room k (A.deeper (envOfC qual scope s.heap.objs.size f cdv)) →
      DSs J (cxOf (L2.CX P w) P w K mg base N qual scope f cdv A outer s H E) E body t)
    (vc : ∀ ds P R, sd ds P R → t (startR N ds) ⟨fun _ => P .non, P, fun _ => False, fun _ => False, R⟩) : FnOk P w K mg base (L2.CX P w) (k + 1) f fd ps (Lift ⟨P, w, K⟩ J sd) := by
  refine F.ok S (fun vs H Q E h => ?_) fun cdv A outer s H vs Q E hr h => ?_
  · obtain ⟨O, ds, P, R, dm, _, hv, h, _⟩ := h
    rw [DpA.len hv]; exact hlen ds P R h
  · obtain ⟨O, ds, P, R, dm, tb, hv, h, fin, xx⟩ := h
    obtain ⟨ts, p, kk⟩ := (hb cdv A outer s H E hr).ex
    refine ⟨ts, p, kk (bsOf J.T O H) O H _ (startR N ds) _ _ (start_rel dm tb hv) ⟨?_, ?_, ?_, ?_, xx⟩ (vc ds P R h)⟩
    · exact fun O' H' σ' ρ' r h' => fin .non H' .non (bsOf_ext r.base) rfl h'
    · exact fun O' H' σ' ρ' r h' => h'.elim
    · exact fun O' H' σ' ρ' r h' => h'.elim
    · exact fun O' v H' d b s hv h' => fin v H' d (bsOf_ext b) (hv.out s) h'
/-- in a def's body: what a callee lets out, this def lets out; its statements let it pass -/
theorem px_def {P : Program} {w : World} {K : PySem.W.Frag} {mg : Str → Option Value} {base : Heap} {N : List Str} {qual : Str} {scope : Scope} {f : Addr} {cdv : Value} {A : Around} {outer : List Env} {s : Shared} {H : Hp} {E : XK} :
    Passes (L2.CX P w) (cxOf (L2.CX P w) P w K mg base N qual scope f cdv A outer s H E) E :=
  passes_call (takes_of rfl rfl rfl rfl) fun _ _ _ _ h => h
theorem tk_def {P : Program} {w : World} {K : PySem.W.Frag} {mg : Str → Option Value} {base : Heap} {N : List Str} {qual : Str} {scope : Scope} {f : Addr} {cdv : Value} {A : Around} {outer : List Env} {s : Shared} {H : Hp} {E : XK} :
    Takes (cxOf (L2.CX P w) P w K mg base N qual scope f cdv A outer s H E) (fun cls d _ H => E cls d H) := takes_of rfl rfl rfl rfl
theorem po_def {P : Program} {w : World} {K : PySem.W.Frag} {mg : Str → Option Value} {base : Heap} {N : List Str} {qual : Str} {scope : Scope} {f : Addr} {cdv : Value} {A : Around} {outer : List Env} {s : Shared} {H : Hp} {E : XK} :
    PassesOwn (model P w) (A.deeper (envOfC qual scope s.heap.objs.size f cdv)) (envOfC qual scope s.heap.objs.size f cdv) (cxOf (L2.CX P w) P w K mg base N qual scope f cdv A outer s H E).xe :=
  passes_of (X := cxOf (L2.CX P w) P w K mg base N qual scope f cdv A outer s H E) rfl
end DL
namespace DL
open PySem PySem.Spec PyProof.Rows L2

section
variable {J : Jd} {X : Cx} {E : XK} {e a b c tg : Expr} {es tgs : List Expr} {st : Stmt} {sts : List Stmt} {t ta tb tc : DT} {s u v : DST} {tA ti tk : DTA} {q q' : DTQ} {pos : Pos} {g : GD} {ix jx : List Nat}
/-! ### in, not in: texts, lists, tuples -/
theorem units65 {k : Nat} {A : Around} (r : Room k A) : A.units + 65 < cLine := by have := r.un; omega
def inL (x : D) (ds : List D) : Bool := ds.any fun z => eqD z x
@[simp] def fIn (neg : Bool) : D2 := fun x y P => match y with
  | .str j => (match x with | .str i => P (.bl (if neg then !inStr i j else inStr i j)) | _ => False)
  | .lst ds => shp x = true ∧ shp (.lst ds) = true ∧ P (.bl (if neg then !inL x ds else inL x ds))
  | .tup ds => shp x = true ∧ shp (.tup ds) = true ∧ P (.bl (if neg then !inL x ds else inL x ds))
  | _ => False
def rInA (K : PySem.W.Frag) (neg : Bool) : R2 := fun x y H Q =>
  (∃ (c : Nat) (z : Str), x = .str ⟨#[c]⟩ ∧ y = .str z ∧ Q (.bl (if neg then !decide (c ∈ z.cps.toList) else decide (c ∈ z.cps.toList))) H) ∨
  (∃ i j, x = V.str i ∧ y = V.str j ∧ Q (.bl (if neg then !(!(Builtin.Str.occurrences j i 0 j.length 1).isEmpty) else !(Builtin.Str.occurrences j i 0 j.length 1).isEmpty)) H) ∨
  (∃ d ds, L2.Dp K H x d ∧ (L2.Dp K H y (.list ds) ∨ L2.Dp K H y (.tuple ds)) ∧ SeqAt.shaped d = true ∧ PyData.canLayAll0 ds = true ∧ Q (.bl (if neg then !(ds.any fun z => PyData.eqv z d) else ds.any fun z => PyData.eqv z d)) H)
theorem op_inA (hu : X.A.units + 65 < cLine) : OpR X (compareOp .In) (rInA X.K false) := by
  intro pins s σ H x y v u Q I rx ry h
  rcases h with h | h | ⟨d, ds, hd, he | he, sd, se, q⟩
  · exact op_in_sign pins s σ H x y v u Q I rx ry h
  · exact op_in_str pins s σ H x y v u Q I rx ry h
  · obtain ⟨as, r1⟩ := L2.Dp.reads I d x v hd rx
    obtain ⟨bs, r2⟩ := L2.Dp.reads I (.list ds) y u he ry
    exact SeqAt.in_list_reads r2 r1 (by simpa [PyData.canLay0] using se) (SeqAt.canLay_of_shaped sd) (room_in_shaped sd hu) ⟨.bl _, H, I, rfl, q⟩
  · obtain ⟨as, r1⟩ := L2.Dp.reads I d x v hd rx
    obtain ⟨bs, r2⟩ := L2.Dp.reads I (.tuple ds) y u he ry
    exact SeqAt.in_tuple_reads r2 r1 (by simpa [PyData.canLay0] using se) (SeqAt.canLay_of_shaped sd) (room_in_shaped sd hu) ⟨.bl _, H, I, rfl, q⟩
theorem op_notInA (hu : X.A.units + 65 < cLine) : OpR X (compareOp .NotIn) (rInA X.K true) := by
  intro pins s σ H x y v u Q I rx ry h
  rcases h with h | h | ⟨d, ds, hd, he | he, sd, se, q⟩
  · exact op_notIn_sign pins s σ H x y v u Q I rx ry h
  · exact op_notIn_str pins s σ H x y v u Q I rx ry h
  · obtain ⟨as, r1⟩ := L2.Dp.reads I d x v hd rx
    obtain ⟨bs, r2⟩ := L2.Dp.reads I (.list ds) y u he ry
    exact SeqAt.notIn_list_reads r2 r1 (by simpa [PyData.canLay0] using se) (SeqAt.canLay_of_shaped sd) (room_in_shaped sd hu) ⟨.bl _, H, I, rfl, q⟩
  · obtain ⟨as, r1⟩ := L2.Dp.reads I d x v hd rx
    obtain ⟨bs, r2⟩ := L2.Dp.reads I (.tuple ds) y u he ry
    exact SeqAt.notIn_tuple_reads r2 r1 (by simpa [PyData.canLay0] using se) (SeqAt.canLay_of_shaped sd) (room_in_shaped sd hu) ⟨.bl _, H, I, rfl, q⟩
theorem inStr_cases (i j : Str) : (∃ c, i = ⟨#[c]⟩ ∧ inStr i j = decide (c ∈ j.cps.toList)) ∨ inStr i j = !(Builtin.Str.occurrences j i 0 j.length 1).isEmpty := by
  unfold inStr
  split
  · rename_i c e
    exact .inl ⟨c, str_of e, rfl⟩
  · exact .inr rfl
theorem so_in {neg : Bool} : SO J X (rInA X.K neg) (fIn neg) := fun O0 O H x y dx dy P Q _ hx hy h fin => by
  cases dy with
  | str j =>
    cases dx with
    | str i =>
      have h : P (.bl (if neg then !inStr i j else inStr i j)) := h
      have hx := hx.str
      have hy := hy.str
      rcases inStr_cases i j with ⟨c, e, z⟩ | z
      · rw [z] at h
        exact .inl ⟨c, j, by rw [hx, e], hy, fin _ H (.bl _) Ext.refl rfl h⟩
      · rw [z] at h
        exact .inr (.inl ⟨i, j, hx, hy, fin _ H (.bl _) Ext.refl rfl h⟩)
    | _ => exact h.elim
  | lst ds =>
    refine .inr (.inr ⟨dx.py, D.pyA ds, hx.py h.1, .inl (hy.py h.2.1), h.1, by have := SeqAt.canLay_of_shaped h.2.1; simpa [D.py, PyData.canLay0] using this, ?_⟩)
    rw [any_py]
    exact fin _ H (.bl _) Ext.refl rfl h.2.2
  | tup ds =>
    refine .inr (.inr ⟨dx.py, D.pyA ds, hx.py h.1, .inr (hy.py h.2.1), h.1, by have := SeqAt.canLay_of_shaped h.2.1; simpa [D.py, PyData.canLay0] using this, ?_⟩)
    rw [any_py]
    exact fin _ H (.bl _) Ext.refl rfl h.2.2
  | _ => exact h.elim
/-! ### -e -/
@[simp] def dNeg (t : DT) : DT := fun ρ P R => t ρ (fun d => match d with | .int i => P (.int (-i)) | _ => False) R
theorem de_neg (h : DE J X E a t) : DE J X E (.UnaryOp .USub a pos) (dNeg t) := by
  obtain ⟨te, p, s⟩ := h.ex
  refine ⟨_, pe_un un_neg p, fun B O H σ ρ P R Q rl x h fin => s B O H σ ρ _ R _ rl x h fun v H1 d x1 hv h1 => ?_⟩
  cases d with
  | int i => exact ⟨i, hv, fin _ H1 (.int (-i)) x1 rfl h1⟩
  | _ => exact h1.elim
/-! ### stores -/
theorem pgn (i : Nat) {x : Str} (hN : X.N.Nodup) (hi : X.N[i]? = some x := by rfl) (hx : Loc X.env.scope x := by first | exact Or.inl rfl | exact Or.inr rfl) (hf : X.fn x = true ∨ X.env.scope.names.lookup x = some .local := by first | exact Or.inl rfl | exact Or.inr rfl | assumption) : PG X (.Name x pos) (gName i) :=
  pg_name hN hi hx hf
theorem boot_int' : bootBuiltins "int" = some (.type "int") := by decide +kernel
theorem boot_bool' : bootBuiltins "bool" = some (.type "bool") := by decide +kernel
/-! ### a def's promise as a fact -/
def OkF (P : Program) (w : World) (K : PySem.W.Frag) (mg : Str → Option Value) (base : Heap) (J : Jd) (x : Str) (k : Nat) (ps : List Str) (sd : SpD) (st : Stmt) : Prop :=
  ∃ fd, FnOk P w K mg base (L2.CX P w) k (He.ga K x) fd ps (Lift ⟨P, w, K⟩ J sd) ∧ mg x = some (.ref (He.ga K x)) ∧ PySem.W.keepIn K (.ref (He.ga K x)) = true ∧ Binds K fd ps [] ∧ FunD K x x (defArgs st) (defBody st) (defScope st) [] [] (He.ga K x) fd
def Ok (P : Program) (w : World) (K : PySem.W.Frag) (mg : Str → Option Value) (base : Heap) (J : Jd) (x : Str) (k : Nat) (ps : List Str) (sd : SpD) : Prop :=
  ∃ fd, FnOk P w K mg base (L2.CX P w) k (He.ga K x) fd ps (Lift ⟨P, w, K⟩ J sd) ∧ mg x = some (.ref (He.ga K x)) ∧ PySem.W.keepIn K (.ref (He.ga K x)) = true ∧ Binds K fd ps []
theorem OkF.ok {P : Program} {w : World} {K : PySem.W.Frag} {mg : Str → Option Value} {base : Heap} {x : Str} {k : Nat} {ps : List Str} {sd : SpD} (o : OkF P w K mg base J x k ps sd st) : Ok P w K mg base J x k ps sd :=
  let ⟨fd, a, b, c, d, _⟩ := o; ⟨fd, a, b, c, d⟩
theorem de_callO {x : Str} {k : Nat} {ps : List Str} {sd : SpD} {p : Pos} (o : Ok X.prog X.w X.K X.mg X.base J x k ps sd) (hr : Room k X.A) (hg : Gl X x) (hx : Passes (L2.CX X.prog X.w) X E) (ha : DA J X E (e :: es) tA)
    (hdb : (x == ("__debug__" : Str)) = false := by decide) (he : starEach (e :: es) X.env = (false, eval e X.env) :: starEach es X.env := by rfl) (hpl : (backTo pos (starEach es X.env)).any (·.1) = false := by rfl) :
    DE J X E (.Call (.Name x p) (e :: es) [] pos) (dCall sd tA) := by
  obtain ⟨fd, F, hm, hk, hb⟩ := o
  exact de_call F hr hg hm hk hb hx ha hdb he hpl
theorem de_callO0 {x : Str} {k : Nat} {ps : List Str} {sd : SpD} {p : Pos} (o : Ok X.prog X.w X.K X.mg X.base J x k ps sd) (hr : Room k X.A) (hg : Gl X x) (hx : Passes (L2.CX X.prog X.w) X E)
    (hdb : (x == ("__debug__" : Str)) = false := by decide) : DE J X E (.Call (.Name x p) [] [] pos) (dCall sd dNil) := by
  obtain ⟨fd, F, hm, hk, hb⟩ := o
  exact de_call0 F hr hg hm hk hb hx hdb
/-! ### calls with keywords, in the parameters' order -/
structure DK (J : Jd) (X : Cx) (E : XK) (kws : List Keyword) (t : DTA) : Prop where
  ex : ∃ te, PK X kws te ∧ ∀ B O H σ ρ (P : List D → Prop) R Q, Rel (wd X) J.T B O H σ ρ → EOk J E B R → t ρ P R →
    (∀ vs H' ds, Ext J.T H H' → DpA (wd X) O H' vs ds → P ds → Q vs H') → te σ H Q
theorem dk_nil : DK J X E [] dNil := ⟨_, pk_nil, fun _ _ H _ _ _ _ _ _ _ h f => f [] H [] Ext.refl trivial h⟩
theorem dk_cons {kws : List Keyword} {nm : Option Str} {kpos : Pos} (h1 : DE J X E e t) (h2 : DK J X E kws tA) : DK J X E (⟨nm, e, kpos⟩ :: kws) (dCons t tA) := by
  obtain ⟨te, p1, s1⟩ := h1.ex
  obtain ⟨tr, p2, s2⟩ := h2.ex
  refine ⟨_, pk_cons p1 p2, fun B O H σ ρ P R Q r x ht f => s1 B O H σ ρ _ R _ r x ht fun v H1 d x1 hv h1 => ?_⟩
  exact s2 B O H1 σ ρ _ R _ (r.ext x1) x h1 fun vs H2 ds x2 hvs h2 => f (v :: vs) H2 (d :: ds) (x1.trans x2) ⟨Dp.ext x2 (fun _ _ _ _ z => z) d v hv, hvs⟩ h2
@[simp] def dCallK (sd : SpD) (n m : Nat) (tA tk : DTA) : DT := fun ρ P R => tA ρ (fun ds => tk ρ (fun es => ds.length = n ∧ es.length = m ∧ sd (ds ++ es) P R) R) R
theorem Vals.cat {xs ys : List V} {us ws : List Value} (h : Vals xs us) (k : Vals ys ws) : Vals (xs ++ ys) (us ++ ws) := h.append k
theorem kbn_of {x : Str} {k n : Nat} {ps ks : List Str} {sd : SpD} {P : Program} {w : World} {K : PySem.W.Frag} {mg : Str → Option Value} {base : Heap} {fd : FuncData} (F : FunD K x x (defArgs st) (defBody st) (defScope st) [] [] (He.ga K x) fd)
    (hb : ∀ (kV doc pm : Value) (an : Option Addr) (cdv ct : Value) (us ws : List Value), us.length = n → ws.length = ks.length → bindArgs (PySem.W.fnOf x x (defArgs st) (defBody st) (defScope st) .none kV doc pm an cdv ct) ⟨us, ks.zip ws⟩ = pure (ps.zip (us ++ ws))) :
    KBn K fd ps n ks (fun us ws => us ++ ws) (fun vs zs => vs ++ zs) := by
  obtain ⟨oc, od, dV, kV, doc, pm, an, cdv, ct, osl, rfl, lk, hcd, hd, _⟩ := F.ex
  rcases hd with ⟨_, rfl⟩ | ⟨h, _⟩
  · exact ⟨fun s us ws _ h1 h2 => .of_eq (hb kV doc pm an cdv ct us ws h1 h2), fun h k => h.append k⟩
  · exact absurd rfl h
theorem de_callK {x : Str} {k n : Nat} {ps ks : List Str} {sd : SpD} {p : Pos} {kws : List Keyword} (o : OkF X.prog X.w X.K X.mg X.base J x k ps sd st) (hr : Room k X.A) (hg : Gl X x) (hx : Passes (L2.CX X.prog X.w) X E)
    (hb : ∀ (kV doc pm : Value) (an : Option Addr) (cdv ct : Value) (us ws : List Value), us.length = n → ws.length = ks.length → bindArgs (PySem.W.fnOf x x (defArgs st) (defBody st) (defScope st) .none kV doc pm an cdv ct) ⟨us, ks.zip ws⟩ = pure (ps.zip (us ++ ws)))
    (ha : DA J X E (e :: es) tA) (hkw : DK J X E kws tk) (hall : (backToKw pos (keywordEach kws X.env)).all (·.1.isSome) = true := by rfl) (hks : (backToKw pos (keywordEach kws X.env)).filterMap (·.1) = ks := by rfl)
    (hdb : (x == ("__debug__" : Str)) = false := by decide) (he : starEach (e :: es) X.env = (false, eval e X.env) :: starEach es X.env := by rfl)
    (hpl : ((backTo pos (starEach (e :: es) X.env)).any (·.1) || (backToKw pos (keywordEach kws X.env)).any (·.1.isNone)) = false := by rfl) :
    DE J X E (.Call (.Name x p) (e :: es) kws pos) (dCallK sd n ks.length tA tk) := by
  obtain ⟨fd, F, hm, hk, _, FD⟩ := o
  obtain ⟨t1, p1, s1⟩ := ha.ex
  obtain ⟨t2, p2, s2⟩ := hkw.ex
  refine ⟨_, pe_callN F hr hg hm hk (kbn_of (k := k) (sd := sd) (P := X.prog) (w := X.w) (mg := X.mg) (base := X.base) FD hb) hx p1 p2 hall hks hdb he hpl, fun B O H σ ρ P R Q rl xx h fin => s1 B O H σ ρ _ R _ rl xx h fun vs H1 ds x1 hvs h1 => s2 B O H1 σ ρ _ R _ (rl.ext x1) xx h1 fun us H2 es x2 hus h2 => ?_⟩
  exact ⟨(DpA.len hvs).trans h2.1, (DpA.len hus).trans h2.2.1, lift_of ((rl.ext x1).ext x2) xx ((DpA.ext x2 (fun _ _ _ _ z => z) _ _ hvs).append hus) h2.2.2 (fin_ext fin (x1.trans x2))⟩
theorem pe_callN0 {CX : CXT} {k : Nat} {f : Addr} {fd : FuncData} {ps ks : List Str} {sp : Sp} {x : Str} {p : Pos} {kws : List Keyword} {tk : TA} {g : List Value → List Value → List Value} {gV : List V → List V → List V}
    (F : FnOk X.prog X.w X.K X.mg X.base CX k f fd ps sp) (hr : Room k X.A) (hg : Gl X x) (hm : X.mg x = some (.ref f)) (hk : PySem.W.keepIn X.K (.ref f) = true) (hb : KBn X.K fd ps 0 ks g gV) (hx : Passes CX X E)
    (hkw : PK X kws tk) (hall : (backToKw pos (keywordEach kws X.env)).all (·.1.isSome) = true := by rfl) (hks : (backToKw pos (keywordEach kws X.env)).filterMap (·.1) = ks := by rfl)
    (hdb : (x == ("__debug__" : Str)) = false := by decide) (hpl : ((backTo pos (starEach [] X.env)).any (·.1) || (backToKw pos (keywordEach kws X.env)).any (·.1.isNone)) = false := by rfl) :
    PE X (.Call (.Name x p) [] kws pos) (tCallN 0 ks.length sp gV E tNil tk) := by
  refine ⟨fun pins s σ H Q I h => ?_⟩
  refine wpAny_Call_Name_kw (ld_glob I hg hm ?_ hdb)
  refine PySem.W.callWith_KW0 (h₀ := X.base) I.ok.mod.kin hk hall ?_ hpl
  refine thn (hkw.run pos pins s σ H _ I h) fun ws s2 ⟨zs, H2, I2, rz, l1, l2, q2⟩ => ⟨I2.kIn, ?_⟩
  rw [hks]
  exact run_fnN (us := []) (vs := []) F hr hb hx I2 .nil rz l1 l2 q2
theorem de_callK0 {x : Str} {k : Nat} {ps ks : List Str} {sd : SpD} {p : Pos} {kws : List Keyword} (o : OkF X.prog X.w X.K X.mg X.base J x k ps sd st) (hr : Room k X.A) (hg : Gl X x) (hx : Passes (L2.CX X.prog X.w) X E)
    (hb : ∀ (kV doc pm : Value) (an : Option Addr) (cdv ct : Value) (us ws : List Value), us.length = 0 → ws.length = ks.length → bindArgs (PySem.W.fnOf x x (defArgs st) (defBody st) (defScope st) .none kV doc pm an cdv ct) ⟨us, ks.zip ws⟩ = pure (ps.zip (us ++ ws)))
    (hkw : DK J X E kws tk) (hall : (backToKw pos (keywordEach kws X.env)).all (·.1.isSome) = true := by rfl) (hks : (backToKw pos (keywordEach kws X.env)).filterMap (·.1) = ks := by rfl)
    (hdb : (x == ("__debug__" : Str)) = false := by decide) (hpl : ((backTo pos (starEach [] X.env)).any (·.1) || (backToKw pos (keywordEach kws X.env)).any (·.1.isNone)) = false := by rfl) :
    DE J X E (.Call (.Name x p) [] kws pos) (dCallK sd 0 ks.length dNil tk) := by
  obtain ⟨fd, F, hm, hk, _, FD⟩ := o
  obtain ⟨t2, p2, s2⟩ := hkw.ex
  refine ⟨_, pe_callN0 F hr hg hm hk (kbn_of (k := k) (sd := sd) (P := X.prog) (w := X.w) (mg := X.mg) (base := X.base) FD hb) hx p2 hall hks hdb hpl, fun B O H σ ρ P R Q rl xx h fin => s2 B O H σ ρ _ R _ rl xx h fun us H2 es x2 hus h2 => ?_⟩
  exact ⟨rfl, (DpA.len hus).trans h2.2.1, lift_of (rl.ext x2) xx hus h2.2.2 (fin_ext fin x2)⟩
end
/-! ### the facts of a law's head -/
structure CnG (fa : List He.Fa) (fns : List He.DefD) (K : PySem.W.Frag) (h : Heap) (mg : Str → Option Value) : Prop where
  X : K.In h
  G : h.Ns mainGlobals mg
  s : He.SaysD fa fns K
section
variable {fa : List He.Fa} {fns : List He.DefD} {K : PySem.W.Frag} {h : Heap} {mg : Str → Option Value}
theorem CnG.fn (C : CnG fa fns K h mg) (i : Nat) {x : Str} {st : Stmt} (e : fns[i]? = some ⟨(x, none), x, x, defArgs st, defBody st, defScope st, [], []⟩) : ∃ fd, FunD K x x (defArgs st) (defBody st) (defScope st) [] [] (He.ga K x) fd := C.s.def_ i e
theorem CnG.gl (C : CnG fa fns K h mg) (i : Nat) {x : Str} (e : fa[i]? = some (.glo x)) : mg x = some (.ref (He.ga K x)) := He.glo_ok C.X C.G (C.s.fact i e)
theorem CnG.fr (C : CnG fa fns K h mg) (i : Nat) {x : Str} (e : fa[i]? = some (.free x)) : mg x = none := He.free_ok C.X C.G (C.s.fact i e)
theorem CnG.st (C : CnG fa fns K h mg) (i : Nat) {x z : Str} (e : fa[i]? = some (.str x z)) : ∃ t, mg x = some (.str z t) := He.str_ok C.X C.G (C.s.fact i e)
theorem CnG.it (C : CnG fa fns K h mg) (i : Nat) {x : Str} {n : Int} (e : fa[i]? = some (.int x n)) : ∃ t, mg x = some (.int n t) := He.int_ok C.X C.G (C.s.fact i e)
theorem CnG.ex (C : CnG fa fns K h mg) (i j : Nat) {x : Str} (e : fa[i]? = some (.glo x)) (e2 : fa[j]? = some (.exc x)) : Exn K mg (He.ga K x) x :=
  let ⟨h1, h2, h3, h4⟩ := He.exc_ok (C.s.fact j e2)
  ⟨C.gl i e, h1, h2, h3, h4⟩
end
def jd (K : PySem.W.Frag) : Jd := ⟨[], fun nm => He.ga K nm⟩
end DL
namespace DL
open PySem PySem.Spec PyProof.Rows L2

section
variable {J : Jd} {X : Cx} {E : XK} {e a b c tg : Expr} {es tgs : List Expr} {t ta tb tc : DT} {tA ti : DTA} {q q' : DTQ} {pos : Pos}
/-! ### a value's truth -/
@[simp] def truD (P : Bool → Prop) : D → Prop
  | .bl b => P b
  | .non => P false
  | .int i => P (i != 0)
  | .str z => z.length ≤ sizeLine ∧ P ((z.length : Int) != 0)
  | .lst ds => P (!ds.isEmpty)
  | .tup ds => P (!ds.isEmpty)
  | .scr => P true ∧ P false
  | _ => False
@[simp] def qTru (t : DT) : DTQ := fun ρ P R => t ρ (truD P) R
theorem DpA.isEmpty {W : Wd} {O : Addr → Prop} {H : Hp} {ds : List D} {vs : List V} (h : DpA W O H vs ds) : vs.isEmpty = ds.isEmpty := by
  cases ds <;> cases vs <;> first | rfl | exact h.elim
theorem dq_tru (h : DB J X E e t) (he : ∀ whole, isTrue e X.env whole = (do let v ← whole; standAt e.pos; holding [v] (truthy v)) := by intro _; rfl) : DQ J X E e (qTru t) := by
  obtain ⟨te, p, s⟩ := h.ex
  refine ⟨_, pt_truth p he, fun B O H σ ρ P R Q rl x h fin => s B O H σ ρ _ R _ rl x h fun v H1 d x1 hv h1 => ?_⟩
  cases d with
  | non => exact ⟨false, by rw [hv.non]; rfl, fin _ H1 x1 h1⟩
  | bl k => exact ⟨k, by rw [hv.bl]; rfl, fin _ H1 x1 h1⟩
  | int i => exact ⟨_, by rw [hv.int]; rfl, fin _ H1 x1 h1⟩
  | str z => exact ⟨_, by rw [hv.str]; exact ⟨h1.1, rfl⟩, fin _ H1 x1 h1.2⟩
  | lst ds =>
    obtain ⟨a, xs, rfl, t, n, r⟩ := hv.lst
    exact ⟨_, .inl ⟨xs, .inl (.inl t), rfl⟩, fin _ H1 x1 (by rw [r.isEmpty]; exact h1)⟩
  | tup ds =>
    obtain ⟨a, xs, rfl, t, n, r⟩ := hv.tup
    exact ⟨_, .inr (.inl ⟨xs, t.sq, rfl⟩), fin _ H1 x1 (by rw [r.isEmpty]; exact h1)⟩
  | scr =>
    rcases hv with ⟨a, ns, rfl, hs, n⟩ | ⟨_, _, _, _, e, _⟩
    · have sq : SqL X.K H1 a (ns.map V.int) := by
        rcases hs with ⟨_, hs⟩ | hs
        · exact .inl hs
        · rcases hs with (hs | ⟨o, hs⟩) | hs
          · cases hs
          · cases hs
          · exact .inr hs
      refine ⟨_, .inl ⟨_, sq, rfl⟩, fin _ H1 x1 ?_⟩
      cases (!(ns.map V.int).isEmpty)
      · exact h1.2
      · exact h1.1
    · cases e
  | _ => exact h1.elim
/-! ### {k: v, l: w}.get(e, f) of texts -/
@[simp] def dGet2 (k1 v1 k2 v2 : Str) (ta tb : DT) : DT := fun ρ P R => ta ρ (fun x => tb ρ (fun y => match x with
  | .str z => P (if k1 = z then .str v1 else if k2 = z then .str v2 else y)
  | _ => False) R) R
theorem de_get2 {k1 v1 k2 v2 : Str} {i1 i2 i3 i4} {p1 p2 p3 p4 dp apos cpos : Pos} (hu : X.A.units + 65 < cLine) (hk : k1 ≠ k2) (ha : DE J X E a ta) (hb : DE J X E b tb)
    (m : M2 X (.Dict [some (.Constant (.str k1) i1 p1), some (.Constant (.str k2) i2 p2)] [.Constant (.str v1) i3 p3, .Constant (.str v2) i4 p4] dp) "get" apos a b cpos) :
    DE J X E (.Call (.Attribute (.Dict [some (.Constant (.str k1) i1 p1), some (.Constant (.str k2) i2 p2)] [.Constant (.str v1) i3 p3, .Constant (.str v2) i4 p4] dp) "get" apos) [a, b] [] cpos) (dGet2 k1 v1 k2 v2 ta tb) := by
  obtain ⟨t1, q1, s1⟩ := ha.ex
  obtain ⟨t2, q2, s2⟩ := hb.ex
  refine ⟨_, pe_dget2 (by omega) (pe_disp (pps_cons pe_str pe_str (pps_cons pe_str pe_str pps_nil)) rfl rfl (by simp) (by show 2 ≤ 15; decide)) q1 q2 m, fun B O H σ ρ P R Q rl x h fin => ?_⟩
  intro p np
  refine ⟨upd_same, [(.inr k1, .str v1), (.inr k2, .str v2)], rfl, by show 2 ≤ 15; decide, p, rfl, .inl ⟨_, .inl upd_same⟩, ?_⟩
  rw [upd_upd]
  have e : mergeK [] [((.inr k1 : Key), V.str v1), (.inr k2, .str v2)] = [(.inr k1, .str v1), (.inr k2, .str v2)] := by
    unfold mergeK
    simp only [List.foldl]
    rw [putK_new (kvs := []) _ rfl, List.nil_append]
    rw [putK_new]
    · rfl
    · exact valV_neg (fun z => hk (by injection z))
  rw [e]
  have x0 : Ext J.T H (upd H p (.dK [(.inr k1, V.str v1), (.inr k2, .str v2)])) := Ext.new np
  refine s1 B O _ σ ρ _ R _ (rl.ext x0) x h fun v H1 d x1 hv h1 => s2 B O H1 σ ρ _ R _ ((rl.ext x0).ext x1) x h1 fun u H2 d2 x2 hu h2 => ?_
  cases d with
  | str z =>
    have hp : H2 p = some (.dK [(.inr k1, V.str v1), (.inr k2, .str v2)]) := (x1.trans x2).at upd_same (fun _ z => by cases z)
    have hv : v = V.str z := hv
    subst hv
    refine ⟨_, DGet.k (k := .inr z) hp, ?_⟩
    have h2 : P (if k1 = z then .str v1 else if k2 = z then .str v2 else d2) := h2
    have xx := (x0.trans x1).trans x2
    have hz : valV [((.inr k1 : Key), V.str v1), (.inr k2, .str v2)] (.inr z) = if k1 = z then some (.str v1) else if k2 = z then some (.str v2) else none := by
      unfold valV
      by_cases z1 : k1 = z
      · simp [z1]
      · by_cases z2 : k2 = z <;> simp [z1, z2]
    rw [hz]
    by_cases z1 : k1 = z
    · rw [if_pos z1] at h2 ⊢
      exact fin _ H2 (.str v1) xx rfl h2
    · rw [if_neg z1] at h2 ⊢
      by_cases z2 : k2 = z
      · rw [if_pos z2] at h2 ⊢
        exact fin _ H2 (.str v2) xx rfl h2
      · rw [if_neg z2] at h2 ⊢
        exact fin _ H2 d2 xx hu h2
  | _ => exact h2.elim
end

/-! ### the town: a dict and a dict in it -/
section
variable {P : Program} {w : World} {H H' : Hp} {h h' : Heap}
theorem dk_any {a : Addr} {kvs : List (Key × V)} (x : ObjOk P w H h a (.dK kvs)) : ObjOk P w H' h a (.dK kvs) := x
theorem ext_of {a : Addr} {α : Type} {S : α → Prop} {f : α → List (Key × V)} {k : α} (hS : S k) (x : ObjOk P w H h a (.dK (f k))) : ObjOk P w H' h a (.ext fun h => ∃ k, S k ∧ ObjOk P w (fun _ => none) h a (.dK (f k))) := by
  refine ⟨⟨k, hS, dk_any x⟩, ?_, ?_⟩
  · obtain ⟨_, _, vs, r, ob, es, ep, e, c⟩ := x
    exact ⟨ob, e⟩
  · rintro h1 h2 ⟨k', s', x'⟩ hk
    refine ⟨k', s', x'.stay (fun b u z q => ?_) (fun _ z => by cases z) fun _ _ z => by cases z⟩
    rcases z with rfl | z
    · exact hk u q
    · cases z
end
theorem hok_swap {P : Program} {w : World} {H : Hp} {h : Heap} {a : Addr} {o : HO} (ok : HOk P w H h) (mu : Mut (H a)) (hn : ∃ u, h.get? a = some u) (x : ObjOk P w (upd H a o) h a o) : HOk P w (upd H a o) h :=
  ok.write mu (.inl rfl) (fun b u _ q => q) hn x
theorem un_swap {fs ex : List Addr} {H : Hp} {h : Heap} {a : Addr} {o : HO} (mu : Mut (H a)) (hn : ∃ u, h.get? a = some u) : Un fs ex H (upd H a o) h h := Un.write mu (.inl rfl) (fun b u _ q => q) hn
theorem dk_there {P : Program} {w : World} {H : Hp} {h : Heap} {a : Addr} {kvs : List (Key × V)} (x : ObjOk P w H h a (.dK kvs)) : ∃ u, h.get? a = some u := by
  obtain ⟨_, _, vs, r, ob, es, ep, e, c⟩ := x
  exact ⟨ob, e⟩
def townKv (r : Addr) (c : Int) : List (Key × V) := [(.inr "count", .int c), (.inr "rests", .ref r)]
/-- both dicts known -/
def knownH (H : Hp) (t r : Addr) (c : Int) (kvs : List (Key × V)) : Hp := upd (upd H t (.dK (townKv r c))) r (.dK kvs)
def hiddenH (W : Wd) (H : Hp) (t r : Addr) : Hp := upd (upd H t (townH W t r)) r (restH W r)
theorem known_r {H : Hp} {t r : Addr} {c : Int} {kvs : List (Key × V)} : knownH H t r c kvs r = some (.dK kvs) := upd_same
theorem known_t {H : Hp} {t r : Addr} {c : Int} {kvs : List (Key × V)} (n : t ≠ r) : knownH H t r c kvs t = some (.dK (townKv r c)) := by
  unfold knownH; rw [upd_ne n, upd_same]
theorem known_ne {H : Hp} {t r b : Addr} {c : Int} {kvs : List (Key × V)} (n : b ≠ t) (m : b ≠ r) : knownH H t r c kvs b = H b := by
  unfold knownH; rw [upd_ne m, upd_ne n]
theorem hidden_r {W : Wd} {H : Hp} {t r : Addr} : hiddenH W H t r r = some (restH W r) := upd_same
theorem hidden_t {W : Wd} {H : Hp} {t r : Addr} (n : t ≠ r) : hiddenH W H t r t = some (townH W t r) := by
  unfold hiddenH; rw [upd_ne n, upd_same]
theorem hidden_ne {W : Wd} {H : Hp} {t r b : Addr} (n : b ≠ t) (m : b ≠ r) : hiddenH W H t r b = H b := by
  unfold hiddenH; rw [upd_ne m, upd_ne n]
theorem hidden_known {W : Wd} {H : Hp} {t r : Addr} {c c' : Int} {kvs kvs' : List (Key × V)} (ht : H t = some (townH W t r)) (hr : H r = some (restH W r)) (n : t ≠ r) : hiddenH W (knownH (knownH H t r c kvs) t r c' kvs') t r = H := by
  funext b
  by_cases e1 : b = r
  · rw [e1, hidden_r, hr]
  · by_cases e2 : b = t
    · rw [e2, hidden_t n, ht]
    · rw [hidden_ne e2 e1, known_ne e2 e1, known_ne e2 e1]
theorem known_ok {W : Wd} {H : Hp} {h : Heap} {t r : Addr} (n : t ≠ r) (ok : HOk W.P W.w H h) (ht : H t = some (townH W t r)) (hr : H r = some (restH W r)) : ∃ c kvs, RestKv kvs ∧ HOk W.P W.w (knownH H t r c kvs) h ∧ ∀ fs ex, Un fs ex H (knownH H t r c kvs) h h := by
  obtain ⟨⟨c, xc⟩, gt, _⟩ := ok t _ ht
  obtain ⟨⟨kvs, hk, xk⟩, gr, _⟩ := ok r _ hr
  have m1 : Mut (H t) := by rw [ht]; trivial
  have m2 : Mut (upd H t (.dK (townKv r c)) r) := by rw [upd_ne (Ne.symm n), hr]; trivial
  exact ⟨c, kvs, hk, hok_swap (hok_swap ok m1 gt (dk_any xc)) m2 gr (dk_any xk), fun fs ex => (un_swap m1 gt).trans (un_swap m2 gr)⟩
theorem hidden_ok {W : Wd} {H : Hp} {h : Heap} {t r : Addr} {c : Int} {kvs : List (Key × V)} (n : t ≠ r) (ok : HOk W.P W.w H h) (ht : H t = some (.dK (townKv r c))) (hr : H r = some (.dK kvs)) (hk : RestKv kvs) : HOk W.P W.w (hiddenH W H t r) h ∧ ∀ fs ex, Un fs ex H (hiddenH W H t r) h h := by
  have xt := ok t _ ht
  have xr := ok r _ hr
  have m1 : Mut (H t) := by rw [ht]; trivial
  have m2 : Mut (upd H t (townH W t r) r) := by rw [upd_ne (Ne.symm n), hr]; trivial
  have x1 : ObjOk W.P W.w (upd H t (townH W t r)) h t (townH W t r) := by
    obtain ⟨a, b, d⟩ := ext_of (H' := upd H t (townH W t r)) (S := fun _ : Int => True) (f := townKv r) trivial xt
    refine ⟨?_, b, ?_⟩
    · obtain ⟨k, _, z⟩ := a; exact ⟨k, z⟩
    · rintro h1 h2 ⟨k, z⟩ hh
      obtain ⟨k', _, z'⟩ := d h1 h2 ⟨k, trivial, z⟩ hh
      exact ⟨k', z'⟩
  have x2 : ObjOk W.P W.w (upd (upd H t (townH W t r)) r (restH W r)) h r (restH W r) := ext_of (S := RestKv) (f := fun k => k) hk xr
  exact ⟨hok_swap (hok_swap ok m1 (dk_there xt) x1) m2 (dk_there xr) x2, fun fs ex => (un_swap m1 (dk_there xt)).trans (un_swap m2 (dk_there xr))⟩
/-! ### a draw -/
@[simp] def sd_law_draw : SpD := fun ds P _ => ∃ n : Int, ds = [.scr, .town, .int n] ∧ (0 < n ∧ n ≤ 1000000) ∧ ∀ i, 0 ≤ i → i < n → P (.int i)
theorem len_law_draw : ∀ ds P R, sd_law_draw ds P R → ds.length = 3 := fun ds P R h => by obtain ⟨_, rfl, _⟩ := h; rfl
def spDraw (K : PySem.W.Frag) : Sp := fun vs H Q _ => ∃ (sa t r : Addr) (ns : List Int) (c : Int) (kvs : List (Key × V)) (n : Int), vs = [.ref sa, .ref t, .int n] ∧ (0 < n ∧ n ≤ 1000000) ∧ SqL K H sa (ns.map V.int) ∧ ns.length ≤ 63 ∧ t ≠ r ∧ H t = some (.dK (townKv r c)) ∧ H r = some (.dK kvs) ∧ RestKv kvs ∧
  ∀ i c' kvs', 0 ≤ i → i < n → RestKv kvs' → Q (.int i) (knownH H t r c' kvs')
theorem draw_ok {P : Program} {w : World} {K : PySem.W.Frag} {mg : Str → Option Value} {base : Heap} {J : Jd} {k : Nat} {f : Addr} {fd : FuncData} {ps : List Str}
    (F : FnOk P w K mg base (L2.CX P w) k f fd ps (spDraw K)) (hl : ps.length = 3) : FnOk P w K mg base (L2.CX P w) k f fd ps (Lift ⟨P, w, K⟩ J sd_law_draw) := by
  refine ⟨fun vs H Q E h => ?_, fun A outer s H args us vs Q E hr env hb hv h => ?_⟩
  · obtain ⟨O, ds, P, R, dm, _, hv, h, _⟩ := h
    rw [DpA.len hv, hl]; exact len_law_draw ds P R h
  obtain ⟨O, ds, P', R, dm, htb, hd, ⟨n, rfl, hn, h⟩, fin, _⟩ := h
  obtain ⟨v0, v1, v2, rfl⟩ : ∃ v0 v1 v2, vs = [v0, v1, v2] := by
    match vs, DpA.len hd with
    | [a, b, c], _ => exact ⟨a, b, c, rfl⟩
  obtain ⟨⟨sa, ns, rfl, hs, hns⟩, ⟨t, r, rfl, ne, ht, hrr⟩, h2, _⟩ := hd
  have h2 : v2 = V.int n := h2
  subst h2
  obtain ⟨c, kvs, hk, ok1, un1⟩ := known_ok (W := ⟨P, w, K⟩) ne env.hok ht hrr
  have hH : ∀ b, H b = none → knownH H t r c kvs b = none := fun b z => by
    rw [known_ne (fun q => by rw [q, ht] at z; cases z) (fun q => by rw [q, hrr] at z; cases z)]; exact z
  have env1 : Env0 P w K mg base A outer s (knownH H t r c kvs) := ⟨env.frames, env.mod, fun b o e => ⟨(env.bs b o e).1, hH b (env.bs b o e).2⟩, env.bsz, env.funs, fun b z => hH b (env.frf b z), ok1, env.bare⟩
  have sq0 : SqL K H sa (ns.map V.int) := by
    rcases hs with ⟨_, hs⟩ | hs
    · exact .inl hs
    · rcases hs with (hs | ⟨o, hs⟩) | hs
      · cases hs
      · cases hs
      · exact .inr hs
  have sq : SqL K (knownH H t r c kvs) sa (ns.map V.int) := by
    have ne' : ∀ o, H sa = some o → (∀ φ, o ≠ .ext φ) → knownH H t r c kvs sa = some o := fun o z q => by
      rw [known_ne (fun y => by rw [y, ht] at z; cases z; exact q _ rfl) (fun y => by rw [y, hrr] at z; cases z; exact q _ rfl)]; exact z
    rcases sq0 with (z | ⟨o, z⟩) | z
    · exact .inl (.inl (ne' _ z fun _ q => by cases q))
    · exact .inl (.inr ⟨o, ne' _ z fun _ q => by cases q⟩)
    · exact .inr z
  refine codeAny_mono (F.run A outer s (knownH H t r c kvs) args us _ (fun v H' => ∃ i c' kvs', v = V.int i ∧ (0 ≤ i ∧ i < n) ∧ RestKv kvs' ∧ H' = knownH (knownH H t r c kvs) t r c' kvs') (fun _ _ _ => False) hr env1 hb hv
    ⟨sa, t, r, ns, c, kvs, n, rfl, hn, sq, hns, ne, known_t ne, known_r, hk, fun i c' kvs' h1 h2 h3 => ⟨i, c', kvs', rfl, ⟨h1, h2⟩, h3, rfl⟩⟩) fun rr s' hq => ?_
  cases rr with
  | error e =>
    obtain ⟨_, _, _, _, _, _, _, _, _, _, _, _, z⟩ := hq
    exact z.elim
  | ok fl =>
    cases fl with
    | ret u =>
      obtain ⟨v, H', os, bare, un, hok, rv, i, c', kvs', rfl, hi, hk', rfl⟩ := hq
      obtain ⟨ok2, un2⟩ := hidden_ok (W := ⟨P, w, K⟩) ne hok (known_t ne) known_r hk'
      rw [hidden_known ht hrr ne] at ok2 un2
      exact ⟨.int i, H, os, bare, ((un1 _ _).trans un).trans (un2 _ _), ok2, rv, fin _ H (.int i) Ext.refl rfl (h i hi.1 hi.2)⟩
    | next => exact hq.elim
    | brk => exact hq.elim
    | cont => exact hq.elim
@[simp] def sd_law_begun : SpD := fun ds P _ => ds = [] ∧ P .town
theorem len_law_begun : ∀ ds P R, sd_law_begun ds P R → ds.length = 0 := fun ds P R h => by obtain ⟨rfl, _⟩ := h; rfl
def spBegun : Sp := fun vs H Q _ => vs = [] ∧ ∀ t r, t ≠ r → H t = none → H r = none → Q (.ref t) (knownH H t r 0 [])
theorem begun_ok {P : Program} {w : World} {K : PySem.W.Frag} {mg : Str → Option Value} {base : Heap} {J : Jd} {k : Nat} {f : Addr} {fd : FuncData}
    (F : FnOk P w K mg base (L2.CX P w) k f fd [] spBegun) : FnOk P w K mg base (L2.CX P w) k f fd [] (Lift ⟨P, w, K⟩ J sd_law_begun) := by
  refine ⟨fun vs H Q E h => ?_, fun A outer s H args us vs Q E hr env hb hv h => ?_⟩
  · obtain ⟨O, ds, P, R, dm, _, hv, h, _⟩ := h
    rw [DpA.len hv]; exact len_law_begun ds P R h
  obtain ⟨O, ds, P', R, dm, htb, hd, ⟨rfl, h⟩, fin, _⟩ := h
  obtain rfl : vs = [] := List.eq_nil_of_length_eq_zero (DpA.len hd)
  refine codeAny_mono (F.run A outer s H args us _ (fun v H' => ∃ t r, v = V.ref t ∧ t ≠ r ∧ H t = none ∧ H r = none ∧ H' = knownH H t r 0 []) (fun _ _ _ => False) hr env hb hv
    ⟨rfl, fun t r h1 h2 h3 => ⟨t, r, rfl, h1, h2, h3, rfl⟩⟩) fun rr s' hq => ?_
  cases rr with
  | error e =>
    obtain ⟨_, _, _, _, _, _, _, _, _, _, _, _, z⟩ := hq
    exact z.elim
  | ok fl =>
    cases fl with
    | ret u =>
      obtain ⟨v, H', os, bare, un, hok, rv, t, r, rfl, ne, ht, hr, rfl⟩ := hq
      obtain ⟨ok2, un2⟩ := hidden_ok (W := ⟨P, w, K⟩) ne hok (known_t ne) known_r ⟨List.nodup_nil, fun p z => by cases z⟩
      refine ⟨.ref t, _, os, bare, un.trans (un2 _ _), ok2, rv, fin _ _ .town (.of fun b o e => ?_) ⟨t, r, rfl, ne, hidden_t ne, hidden_r⟩ h⟩
      have n1 : b ≠ t := ne_of_none e ht
      have n2 : b ≠ r := ne_of_none e hr
      rw [hidden_ne n1 n2, known_ne n1 n2]; exact e
    | next => exact hq.elim
    | brk => exact hq.elim
    | cont => exact hq.elim
/-! ### the dict of rests stays small -/
theorem nodup_below : ∀ (n : Nat) (l : List Nat), l.Nodup → (∀ x ∈ l, x < n) → l.length ≤ n
  | 0, l, _, h => by
    cases l with
    | nil => exact Nat.le_refl _
    | cons x _ => exact absurd (h x (by simp)) (by omega)
  | n + 1, l, d, h => by
    have := nodup_below n (l.erase n) (d.erase n) fun x hx => by
      have h1 := (d.mem_erase_iff.mp hx)
      have := h x h1.2
      omega
    rw [List.length_erase] at this
    split at this <;> omega
theorem RestKv.len {kvs : List (Key × V)} (h : RestKv kvs) : kvs.length ≤ 64 := by
  obtain ⟨d, k⟩ := h
  have e : kvs.map (·.1) = (kvs.map fun p => match p.1 with | .inl i => i.toNat | .inr _ => 0).map fun n : Nat => (.inl (n : Int) : Key) := by
    rw [List.map_map]
    refine List.map_congr_left fun p hp => ?_
    obtain ⟨i, j, hi, rfl⟩ := k p hp
    simp
  rw [e] at d
  have d2 : (kvs.map fun p => match p.1 with | .inl i => i.toNat | .inr _ => 0).Nodup := by
    have h : ∀ l : List Nat, (l.map fun n : Nat => (.inl (n : Int) : Key)).Nodup → l.Nodup := fun l => by
      induction l with
      | nil => intro _; exact List.nodup_nil
      | cons x l ih =>
        intro z
        rw [List.map_cons, List.nodup_cons] at z
        rw [List.nodup_cons]
        exact ⟨fun q => z.1 (List.mem_map.mpr ⟨x, q, rfl⟩), ih z.2⟩
    exact h _ d
  have := nodup_below 64 _ d2 fun x hx => by
    obtain ⟨p, hp, rfl⟩ := List.mem_map.mp hx
    obtain ⟨i, j, hi, rfl⟩ := k p hp
    simpa using hi
  simpa using this
theorem RestKv.put {kvs : List (Key × V)} (h : RestKv kvs) {i : Nat} (hi : i < 64) (j : Int) : RestKv (putK kvs (.inl (i : Int)) (.int j)) := by
  unfold putK
  split
  · rename_i z
    refine ⟨?_, fun p hp => ?_⟩
    · have : (kvs.map fun kv => if kv.1 = (.inl (i : Int) : Key) then (kv.1, V.int j) else kv).map (·.1) = kvs.map (·.1) := by
        rw [List.map_map]
        refine List.map_congr_left fun p hp => ?_
        show (if p.1 = _ then (p.1, V.int j) else p).1 = p.1
        split <;> rfl
      rw [this]; exact h.1
    · obtain ⟨q, hq, rfl⟩ := List.mem_map.mp hp
      split
      · rename_i e
        exact ⟨i, j, hi, by rw [e]⟩
      · exact h.2 q hq
  · rename_i z
    refine ⟨?_, fun p hp => ?_⟩
    · rw [List.map_append, List.nodup_append]
      refine ⟨h.1, List.nodup_cons.mpr ⟨by simp, List.nodup_nil⟩, fun a ha b hb => ?_⟩
      have hb : b = (.inl (i : Int) : Key) := by simpa using hb
      rintro rfl
      rw [hb] at ha
      obtain ⟨p, hp, e⟩ := List.mem_map.mp ha
      exact z (List.any_eq_true.mpr ⟨p, hp, decide_eq_true e⟩)
    · rcases List.mem_append.mp hp with hp | hp
      · exact h.2 p hp
      · have hp : p = (.inl (i : Int), .int j) := by simpa using hp
        exact ⟨i, j, hi, hp⟩
theorem RestKv.val {kvs : List (Key × V)} (h : RestKv kvs) {k : Key} {v : V} (e : valV kvs k = some v) : ∃ j : Int, v = .int j := by
  unfold valV at e
  cases z : kvs.find? fun kv => decide (kv.1 = k) with
  | none => rw [z] at e; cases e
  | some p =>
    rw [z] at e
    obtain ⟨i, j, hi, rfl⟩ := h.2 p (List.mem_of_find?_eq_some z)
    exact ⟨j, by injection e with e; exact e.symm⟩
/-! ### the draw's reading -/
theorem isd {H : Hp} {a : Addr} {kvs : List (Key × V)} (h : H a = some (.dK kvs)) : IsD H a := .inl ⟨kvs, .inl h⟩
theorem townKv_count (r : Addr) (c : Int) : valV (townKv r c) (.inr "count") = some (.int c) := by simp [townKv, valV]
theorem cr_ne : ¬ ("count" : Str) = "rests" := by decide +kernel
theorem townKv_rests (r : Addr) (c : Int) : valV (townKv r c) (.inr "rests") = some (.ref r) := by simp [townKv, valV, cr_ne]
theorem townKv_put (r : Addr) (c d : Int) : putK (townKv r c) (.inr "count") (.int d) = townKv r d := by simp [townKv, putK, Ne.symm cr_ne]
theorem known_putT {H : Hp} {t r : Addr} {c d : Int} {kvs : List (Key × V)} (n : t ≠ r) : upd (knownH H t r c kvs) t (.dK (townKv r d)) = knownH H t r d kvs := by
  funext b
  by_cases e1 : b = t
  · rw [e1, upd_same, known_t n]
  · rw [upd_ne e1]
    by_cases e2 : b = r
    · rw [e2, known_r, known_r]
    · rw [known_ne e1 e2, known_ne e1 e2]
theorem known_putR {H : Hp} {t r : Addr} {c : Int} {kvs kvs' : List (Key × V)} : upd (knownH H t r c kvs) r (.dK kvs') = knownH H t r c kvs' := by unfold knownH; rw [upd_upd]
theorem known_self {H : Hp} {t r : Addr} {c : Int} {kvs : List (Key × V)} (ht : H t = some (.dK (townKv r c))) (hr : H r = some (.dK kvs)) : H = knownH H t r c kvs := by
  funext b
  by_cases e2 : b = r
  · rw [e2, known_r, hr]
  · by_cases e1 : b = t
    · unfold knownH; rw [upd_ne e2, e1, upd_same, ht]
    · rw [known_ne e1 e2]
theorem sq_known {K : PySem.W.Frag} {H : Hp} {t r sa : Addr} {c c' : Int} {kvs kvs' : List (Key × V)} {xs : List V} (n : t ≠ r) (h : SqL K (knownH H t r c kvs) sa xs) : SqL K (knownH H t r c' kvs') sa xs := by
  have ne' : ∀ o, knownH H t r c kvs sa = some o → (∀ φ, o ≠ .dK φ) → knownH H t r c' kvs' sa = some o := fun o z q => by
    have e1 : sa ≠ t := fun y => by rw [y, known_t n] at z; cases z; exact q _ rfl
    have e2 : sa ≠ r := fun y => by rw [y, known_r] at z; cases z; exact q _ rfl
    rw [known_ne e1 e2] at z ⊢; exact z
  rcases h with (z | ⟨o, z⟩) | z
  · exact .inl (.inl (ne' _ z fun _ q => by cases q))
  · exact .inl (.inr ⟨o, ne' _ z fun _ q => by cases q⟩)
  · exact .inr z
/-- _law_town['count'] % len(_law_script) if _law_script else 0 -/
def tAt (K : PySem.W.Frag) : TE := tIf (fun σ H Q => tVar 0 σ H fun x H' => ∃ k, TruV K x H' k ∧ Q k H')
  (tOp (rI (fun _ j => 0 < j) fun i j => .int (i % j)) (tDGet (tVar 1) (fun _ H Q => Q (.str "count") H)) (fun σ H Q => tVar 0 σ H fun x H1 => ∃ p ys, [x] = [V.ref p] ∧ (SqL K H1 p ys ∨ SqT K H1 p ys) ∧ Q (.int ys.length) H1))
  (fun _ H Q => Q (.int 0) H)
/-- _law_script[_law_at] if _law_script else 0 -/
def tDe (K : PySem.W.Frag) : TE := tIf (fun σ H Q => tVar 0 σ H fun x H' => ∃ k, TruV K x H' k ∧ Q k H') (tOp (rIxL K) (tVar 0) (tVar 3)) (fun _ H Q => Q (.int 0) H)
theorem begun_end {H : Hp} {t r : Addr} (ne : t ≠ r) : upd (upd (upd H t (.dK [])) r (.dK [])) t (.dK (mergeK [] [((.inr "count" : Key), V.int 0), (.inr "rests", .ref r)])) = knownH H t r 0 [] := by
  have e : mergeK [] [((.inr "count" : Key), V.int 0), (.inr "rests", .ref r)] = townKv r 0 := by simp [mergeK, putK, townKv, cr_ne]
  rw [e]
  funext b
  by_cases e1 : b = t
  · rw [e1, upd_same, known_t ne]
  · rw [upd_ne e1]
    by_cases e2 : b = r
    · rw [e2, known_r, upd_same]
    · rw [known_ne e1 e2, upd_ne e2, upd_ne e1]
/-! ### comprehensions, their slots written out -/
section
variable {J : Jd} {X : Cx} {E : XK} {e tg : Expr} {t : DT} {ti : DTA} {q : DTQ} {pos : Pos} {g : GD} {ix vs : List Nat}
theorem df_lcV {elt iter : Expr} {ifs : List Expr} {scope : Scope} {own : List (Str × Nat)} (hc : X.calm = true) (hN : X.N.Nodup) (hi : DI J X E tg iter ti) (ok : BlkOk X.N X.env.scope scope own)
    (hg : ∀ (s : Shared) (H : Hp) (C : Addr) (cl : List (Str × Addr)) (fp : List Addr), DG (X.blk s H scope (compEnvC scope cl C X.env) fp) tg g ix)
    (ht : ∀ (s : Shared) (H : Hp) (C : Addr) (cl : List (Str × Addr)) (fp : List Addr), DQs J (X.blk s H scope (compEnvC scope cl C X.env) fp) E0 ifs q)
    (he : ∀ (s : Shared) (H : Hp) (C : Addr) (cl : List (Str × Addr)) (fp : List Addr), DE J (X.blk s H scope (compEnvC scope cl C X.env) fp) E0 elt t)
    (hvs : own.map (·.2) = vs := by rfl) (hix : ∀ i ∈ ix, i ∈ vs := by decide) (hs : ∀ x, foldedSetIterable iter X.env x = pure x := by intro _; rfl) : DF J X E (.ListComp elt [⟨tg, iter, ifs, 0⟩] scope pos) (dLc ti g q t vs) := by
  subst hvs; exact df_lc hc hN hi ok hg ht he hix hs
variable {y : Str} {py spos : Pos} {i : Nat} {elt iter : Expr} {ifs : List Expr} {scope : Scope} {own : List (Str × Nat)}
theorem ds_lcV (hc : X.calm = true) (hN : X.N.Nodup) (hy : X.N[i]? = some y) (hyl : X.env.scope.names.lookup y = some .local) (hsw : swapsWith (.ListComp elt [⟨tg, iter, ifs, 0⟩] scope pos) (some (.Name y py)) spos.line X.env = pure true)
    (hi : DI J X E tg iter ti) (ok : BlkOk X.N X.env.scope scope own)
    (hg : ∀ (s : Shared) (H : Hp) (C : Addr) (cl : List (Str × Addr)) (fp : List Addr), DG (X.blk s H scope (compEnvC scope cl C X.env) fp) tg g ix)
    (ht : ∀ (s : Shared) (H : Hp) (C : Addr) (cl : List (Str × Addr)) (fp : List Addr), DQs J (X.blk s H scope (compEnvC scope cl C X.env) fp) E0 ifs q)
    (he : ∀ (s : Shared) (H : Hp) (C : Addr) (cl : List (Str × Addr)) (fp : List Addr), DE J (X.blk s H scope (compEnvC scope cl C X.env) fp) E0 elt t)
    (hvs : own.map (·.2) = vs := by rfl) (hix : ∀ i ∈ ix, i ∈ vs := by decide) (hs : ∀ x, foldedSetIterable iter X.env x = pure x := by intro _; rfl) :
    DS J X E (.Assign [.Name y py] (.ListComp elt [⟨tg, iter, ifs, 0⟩] scope pos) spos) (sAsgL i (dLc ti g q t vs)) := by
  subst hvs; exact ds_lc hc hN hy hyl hsw hi ok hg ht he hix hs
theorem ds_lcNewV (hc : X.calm = true) (hN : X.N.Nodup) (hy : X.N[i]? = some y) (hyl : X.env.scope.names.lookup y = some .local) (hsw : swapsWith (.ListComp elt [⟨tg, iter, ifs, 0⟩] scope pos) (some (.Name y py)) spos.line X.env = pure true)
    (hi : DI J X E tg iter ti) (ok : BlkOk X.N X.env.scope scope own)
    (hg : ∀ (s : Shared) (H : Hp) (C : Addr) (cl : List (Str × Addr)) (fp : List Addr), DG (X.blk s H scope (compEnvC scope cl C X.env) fp) tg g ix)
    (ht : ∀ (s : Shared) (H : Hp) (C : Addr) (cl : List (Str × Addr)) (fp : List Addr), DQs J (X.blk s H scope (compEnvC scope cl C X.env) fp) E0 ifs q)
    (he : ∀ (s : Shared) (H : Hp) (C : Addr) (cl : List (Str × Addr)) (fp : List Addr), DE J (X.blk s H scope (compEnvC scope cl C X.env) fp) E0 elt t)
    (hvs : own.map (·.2) = vs := by rfl) (hix : ∀ i ∈ ix, i ∈ vs := by decide) (hs : ∀ x, foldedSetIterable iter X.env x = pure x := by intro _; rfl) :
    DS J X E (.Assign [.Name y py] (.ListComp elt [⟨tg, iter, ifs, 0⟩] scope pos) spos) (sNew i (dLc ti g q t vs)) := by
  subst hvs; exact ds_lcNew hc hN hy hyl hsw hi ok hg ht he hix hs
end
end DL
namespace DL
open PySem PySem.Spec PyProof.Rows L2
section
variable {J : Jd} {X : Cx} {E : XK} {e a b c tg : Expr} {es tgs : List Expr} {t ta tb tc : DT} {tA ti : DTA} {q q' : DTQ} {pos : Pos}
theorem tabs_updD {T : Tb} {H : Hp} {p : Addr} {kvs kvs' : List (Key × V)} (h : LamX.Tabs T H) (hp : H p = some (.dK kvs)) : LamX.Tabs T (upd H p (.dK kvs')) := fun r hr => by
  obtain ⟨ps, h1, h2, h3⟩ := h r hr
  refine ⟨ps, by rw [upd_ne (ne_of h1 hp (by intro z; cases z))]; exact h1, h2, fun pos cv hc => ?_⟩
  obtain ⟨c, e1, e2⟩ := h3 pos cv hc
  exact ⟨c, e1, by rw [upd_ne (ne_of e2 hp (by intro z; cases z))]; exact e2⟩
/-! ### dict displays: written keys, flat values -/
@[simp] def flat : D → Bool
  | .non => true
  | .bl _ => true
  | .int _ => true
  | .str _ => true
  | _ => false
theorem flat_dp {W : Wd} {O O' : Addr → Prop} {H H' : Hp} : ∀ {d : D} {v : V}, flat d = true → Dp W O H v d → Dp W O' H' v d
  | .non, _, _, h => h
  | .bl _, _, _, h => h
  | .int _, _, _, h => h
  | .str _, _, _, h => h
theorem flat_dpA {W : Wd} {O O' : Addr → Prop} {H H' : Hp} : ∀ {ds : List D} {vs : List V}, ds.all flat = true → DpA W O H vs ds → DpA W O' H' vs ds
  | [], [], _, _ => trivial
  | [], _ :: _, _, h => h.elim
  | _ :: _, [], _, h => h.elim
  | d :: ds, v :: vs, f, h => by
    rw [List.all_cons, Bool.and_eq_true] at f
    exact ⟨flat_dp f.1 h.1, flat_dpA f.2 h.2⟩
structure DPs (J : Jd) (X : Cx) (E : XK) (pos : Pos) (keys : List (Option Expr)) (values : List Expr) (ks : List Str) (t : DTA) : Prop where
  ex : ∃ trs, PPs X pos keys values trs ∧ ∀ B O H σ ρ (P : List D → Prop) R (Q : List (V × V) → Hp → Prop), Rel (wd X) J.T B O H σ ρ → EOk J E B R → t ρ P R →
    (∀ vs H' ds, Ext J.T H H' → DpA (wd X) O H' vs ds → ds.length = ks.length → P ds → Q ((ks.map V.str).zip vs) H') → tPairs trs σ H Q
theorem dps_nil : DPs J X E pos [] [] [] dNil := ⟨[], pps_nil, fun B O H σ ρ P R Q rl x h fin => fin [] H [] Ext.refl trivial rfl h⟩
theorem dps_cons {k : Str} {i} {p : Pos} {keys : List (Option Expr)} {values : List Expr} {ks : List Str} (h1 : DE J X E e t) (h2 : DPs J X E pos keys values ks tA) : DPs J X E pos (some (.Constant (.str k) i p) :: keys) (e :: values) (k :: ks) (dCons t tA) := by
  obtain ⟨t1, p1, s1⟩ := h1.ex
  obtain ⟨t2, p2, s2⟩ := h2.ex
  refine ⟨_, pps_cons pe_str p1 p2, fun B O H σ ρ P R Q rl x h fin => ?_⟩
  refine s1 B O H σ ρ _ R _ rl x h fun v H1 d x1 hv h1 => s2 B O H1 σ ρ _ R _ (rl.ext x1) x h1 fun vs H2 ds x2 hvs hl h2 => ?_
  exact fin (v :: vs) H2 (d :: ds) (x1.trans x2) ⟨Dp.ext x2 (fun _ _ _ _ z => z) d v hv, hvs⟩ (congrArg (· + 1) hl) h2
theorem merge_acc : ∀ (more acc : List (Key × V)), ((acc ++ more).map (·.1)).Nodup → mergeK acc more = acc ++ more
  | [], acc, _ => by simp [mergeK]
  | p :: r, acc, h => by
    have hn : valV acc p.1 = none := by
      cases z : valV acc p.1 with
      | none => rfl
      | some v =>
        unfold valV at z
        cases y : acc.find? fun kv => decide (kv.1 = p.1) with
        | none => rw [y] at z; cases z
        | some q =>
          have h1 := List.mem_of_find?_eq_some y
          have h2 : q.1 = p.1 := by simpa using List.find?_some y
          rw [List.map_append, List.nodup_append] at h
          exact absurd h2 (h.2.2 q.1 (List.mem_map.mpr ⟨q, h1, rfl⟩) p.1 (by simp))
    show mergeK (putK acc p.1 p.2) r = _
    rw [putK_new _ hn, merge_acc r _ (by simpa using h)]
    simp
theorem zip_kv (ks : List Str) (vs : List V) : (((ks.map (Sum.inr : Str → Key)).zip vs).map fun kv => (kV kv.1, kv.2)) = (ks.map V.str).zip vs := by
  induction ks generalizing vs with
  | nil => rfl
  | cons k ks ih =>
    cases vs with
    | nil => rfl
    | cons v vs => simp only [List.map_cons, List.zip_cons_cons, ih]; rfl
@[simp] def dDct (ks : List Str) (t : DTA) : DT := fun ρ P R => t ρ (fun ds => ds.all flat = true ∧ P (.dct ks ds)) R
theorem de_dct {keys : List (Option Expr)} {values : List Expr} {ks : List Str} (h : DPs J X E pos keys values ks tA) (hall : keys.all (·.isSome) = true := by rfl) (hl : keys.length = values.length := by rfl) (h0 : keys ≠ [] := by simp)
    (h15 : keys.length ≤ 15 := by decide) (hk : ks.Nodup := by decide +kernel) (hkl : ks.length ≤ 15 := by decide) : DE J X E (.Dict keys values pos) (dDct ks tA) := by
  obtain ⟨trs, p, s⟩ := h.ex
  refine ⟨_, pe_disp p hall hl h0 h15, fun B O H σ ρ P R Q rl x h fin => ?_⟩
  intro a na
  have x0 : Ext J.T H (upd H a (.dK [])) := Ext.new na
  refine s B O _ σ ρ _ R _ (rl.ext x0) x h fun vs H2 ds x2 hvs hlen h2 => ?_
  have ha : H2 a = some (.dK []) := x2.at upd_same (fun _ z => by cases z)
  refine ⟨ha, (ks.map (Sum.inr : Str → Key)).zip vs, (zip_kv ks vs).symm, ?_, ?_⟩
  · rw [List.length_zip, List.length_map]; omega
  · have hv := DpA.len hvs
    have e : mergeK [] ((ks.map (Sum.inr : Str → Key)).zip vs) = (ks.map (Sum.inr : Str → Key)).zip vs := by
      rw [merge_acc]
      · rfl
      · rw [List.nil_append, List.map_fst_zip (by rw [List.length_map]; omega)]
        have : ∀ l : List Str, l.Nodup → (l.map (Sum.inr : Str → Key)).Nodup := fun l => by
          induction l with
          | nil => intro _; exact List.nodup_nil
          | cons x l ih =>
            intro z
            rw [List.nodup_cons] at z
            rw [List.map_cons, List.nodup_cons]
            exact ⟨fun q => z.1 (by obtain ⟨y, hy, e⟩ := List.mem_map.mp q; cases e; exact hy), ih z.2⟩
        exact this ks hk
    rw [e]
    have xx : Ext J.T H (upd H2 a (.dK ((ks.map (Sum.inr : Str → Key)).zip vs))) := by
      refine ⟨fun b o hb n => ?_, fun ht => ?_⟩
      · have : b ≠ a := ne_of_none hb na
        rw [upd_ne this]
        exact (x0.trans x2).n b o hb n
      · exact tabs_updD ((x0.trans x2).t ht) ha
    exact fin _ _ (.dct ks ds) xx ⟨a, vs, rfl, (rl.free na), upd_same, hlen.symm, by rw [sizeLine_eq]; omega, flat_dpA h2.1 hvs⟩ h2.2
/-! ### d[k] -/
def lookD : List Str → List D → Str → Option D
  | k :: ks, d :: ds, x => if k = x then some d else lookD ks ds x
  | _, _, _ => none
theorem look_val {W : Wd} {O : Addr → Prop} {H : Hp} {x : Str} {d : D} : ∀ {ks : List Str} {ds : List D} {vs : List V}, DpA W O H vs ds → lookD ks ds x = some d → ∃ v, valV ((ks.map (Sum.inr : Str → Key)).zip vs) (.inr x) = some v ∧ Dp W O H v d
  | [], _, _, _, e => by unfold lookD at e; cases e
  | k :: ks, [], _, _, e => by unfold lookD at e; cases e
  | k :: ks, d' :: ds, [], h, _ => h.elim
  | k :: ks, d' :: ds, v :: vs, h, e => by
    unfold lookD at e
    by_cases z : k = x
    · rw [if_pos z] at e; cases e
      refine ⟨v, ?_, h.1⟩
      simp [valV, z]
    · rw [if_neg z] at e
      obtain ⟨u, h1, h2⟩ := look_val (ks := ks) h.2 e
      refine ⟨u, ?_, h2⟩
      rw [← h1]
      simp [valV, z]
@[simp] def fDget : D2 := fun x y P => match x, y with
  | .dct ks ds, .str k => (match lookD ks ds k with | some d => P d | none => False)
  | _, _ => False
theorem de_dget {i : Expr} (hu : X.A.units + 65 < cLine) (ha : DB J X E a ta) (hb : DB J X E i tb) (hs : NoSl i := by intro _ _; rfl) : DE J X E (.Subscript a i pos) (dOp fDget ta tb) := by
  obtain ⟨t1, p1, s1⟩ := ha.ex
  obtain ⟨t2, p2, s2⟩ := hb.ex
  refine ⟨_, pe_dget (by omega) p1 p2 hs, fun B O H σ ρ P R Q rl x h fin => s1 B O H σ ρ _ R _ rl x h fun v H1 d x1 hv h1 => s2 B O H1 σ ρ _ R _ (rl.ext x1) x h1 fun u H2 d2 x2 hu h2 => ?_⟩
  cases d with
  | dct ks ds =>
    cases d2 with
    | str k =>
      have h2 : (match lookD ks ds k with | some d => P d | none => False) := h2
      cases z : lookD ks ds k with
      | none => rw [z] at h2; exact h2.elim
      | some d =>
        rw [z] at h2
        rcases hv.ext x2 with ⟨a, xs, rfl, o, t, n, m, r⟩ | ⟨_, _, _, _, e, _⟩
        · obtain ⟨v, e1, e2⟩ := look_val (ks := ks) r z
          rw [hu.str]
          refine ⟨a, v, rfl, ?_, fin v H2 d (x1.trans x2) e2 h2⟩
          rw [← e1]
          exact DGet.k (k := .inr k) t
        · cases e
    | _ => exact h2.elim
  | _ => exact h2.elim
end
end DL
namespace DL
open PySem PySem.Spec PyProof.Rows L2
section
variable {J : Jd} {X : Cx} {E : XK} {e a b c tg : Expr} {es tgs : List Expr} {t ta tb tc : DT} {tA ti : DTA} {q q' : DTQ} {pos : Pos}
/-! ### lists: + -/
@[simp] def catP (P : List D → Prop) (x y : D) : Prop := match x, y with
  | .lst ds, .lst es => ds.length + es.length ≤ sizeLine ∧ P (ds ++ es)
  | _, _ => False
@[simp] def dCat (ta tb : DT) : DTA := fun ρ P R => ta ρ (fun x => tb ρ (fun y => catP P x y) R) R
theorem df_cat (ha : DB J X E a ta) (hb : DB J X E b tb) : DF J X E (.BinOp a .Add b pos) (dCat ta tb) := by
  obtain ⟨t1, p1, s1⟩ := ha.ex
  obtain ⟨t2, p2, s2⟩ := hb.ex
  refine ⟨_, pe_op op_cat p1 p2, fun B O H σ ρ P R Q rl x h fin => s1 B O H σ ρ _ R _ rl x h fun v H1 d x1 hv h1 => s2 B O H1 σ ρ _ R _ (rl.ext x1) x h1 fun u H2 d2 x2 hu h2 => ?_⟩
  cases d with
  | lst ds =>
    cases d2 with
    | lst es =>
      obtain ⟨a, xs, rfl, t1, n1, r1⟩ := (hv.ext x2).lst
      obtain ⟨b, ys, rfl, t2, n2, r2⟩ := hu.lst
      refine ⟨a, b, xs, ys, rfl, rfl, t1, t2, by rw [DpA.len r1, DpA.len r2]; exact h2.1, fun p np => ?_⟩
      have x12 := x1.trans x2
      exact fin p _ _ (ds ++ es) (x12.trans (Ext.new np)) (x12.fresh np) ((rl.ext x12).free np) ((rl.ext x12).base.none np) upd_same (by rw [List.length_append]; exact h2.1) (new_mask np (r1.append r2)) h2.2
    | _ => exact h2.elim
  | _ => exact h2.elim
/-! ### list(range(n)) -/
@[simp] def dListRg (t : DT) : DTA := fun ρ P R => t ρ (rangeP P) R
theorem df_listRg {p p2 pos2 : Pos} (hc : X.calm = true) (hg : Gl X "list") (hm : X.mg "list" = none) (hg2 : Gl X "range") (hm2 : X.mg "range" = none) (ha : DE J X E a t) (na : starEach [a] X.env = (false, eval a X.env) :: starEach [] X.env := by rfl)
    (na2 : starEach [.Call (.Name "range" p2) [a] [] pos2] X.env = (false, eval (.Call (.Name "range" p2) [a] [] pos2) X.env) :: starEach [] X.env := by rfl) : DF J X E (.Call (.Name "list" p) [.Call (.Name "range" p2) [a] [] pos2] [] pos) (dListRg t) := by
  obtain ⟨t1, p1, s1⟩ := ha.ex
  refine ⟨_, pe_listRg hc hg hm (prg_1 hg2 hm2 p1 na) na2, fun B O H σ ρ P R Q rl x h fin => s1 B O H σ ρ _ R _ rl x h fun v H1 d x1 hv h1 => ?_⟩
  cases d with
  | int j =>
    refine ⟨j, hv, RgOk.of_le (by omega) h1.1.2 (by omega) h1.1.1, fun p np => ?_⟩
    have e : rgV 0 j = (List.range j.toNat).map fun i => V.int (0 + (i : Nat)) := by unfold rgV; simp
    have r : DpA (wd X) (fun a => O a ∨ a = p) (upd H1 p (.lst (rgV 0 j))) (rgV 0 j) (rangeD 0 j.toNat) := by
      have g : ∀ (W : Wd) (O' : Addr → Prop) (H' : Hp) (l : List Nat), DpA W O' H' (l.map fun i => V.int (0 + (i : Nat))) (l.map fun i => D.int (0 + (i : Nat))) := fun W O' H' l => by
        induction l with
        | nil => trivial
        | cons i l ih => exact ⟨rfl, ih⟩
      rw [e]
      exact g _ _ _ _
    exact fin p _ _ _ (x1.trans (Ext.new np)) (x1.fresh np) ((rl.ext x1).free np) ((rl.ext x1).base.none np) upd_same (by rw [rangeD_len, sizeLine_eq]; have := h1.1; omega) r h1.2
  | _ => exact h1.elim
/-! ### dict([(text, x), ..]) -/
def putG {α : Type} (kvs : List (Str × α)) (k : Str) (v : α) : List (Str × α) :=
  if (kvs.any fun kv => decide (kv.1 = k)) = true then kvs.map (fun kv => if kv.1 = k then (kv.1, v) else kv) else kvs ++ [(k, v)]
def mergeG {α : Type} (kvs more : List (Str × α)) : List (Str × α) := more.foldl (fun acc kv => putG acc kv.1 kv.2) kvs
abbrev KD (W : Wd) (O : Addr → Prop) (H : Hp) : List (Key × V) → List (Str × D) → Prop := Paired fun p q => p.1 = .inr q.1 ∧ Dp W O H p.2 q.2
theorem KD.any {W : Wd} {O : Addr → Prop} {H : Hp} {kvs : List (Key × V)} {kds : List (Str × D)} (r : KD W O H kvs kds) (k : Str) : (kvs.any fun kv => decide (kv.1 = .inr k)) = kds.any fun kv => decide (kv.1 = k) := by
  induction r with
  | nil => rfl
  | @cons p q ps qs h t ih => simp only [List.any_cons, ih, h.1, Sum.inr.injEq]
theorem KD.put {W : Wd} {O : Addr → Prop} {H : Hp} {kvs : List (Key × V)} {kds : List (Str × D)} (r : KD W O H kvs kds) {k : Str} {v : V} {d : D} (h : Dp W O H v d) : KD W O H (putK kvs (.inr k) v) (putG kds k d) := by
  unfold putK putG
  rw [r.any]
  split
  · rename_i z
    clear z
    induction r with
    | nil => exact .nil
    | @cons p q ps qs h1 t ih =>
      refine .cons ?_ ih
      dsimp only
      rw [h1.1]
      by_cases y : q.1 = k
      · rw [if_pos (by rw [y]), if_pos y]; exact ⟨rfl, h⟩
      · rw [if_neg (by simpa using y), if_neg y]; exact h1
  · have app : ∀ {a : List (Key × V)} {b : List (Str × D)}, KD W O H a b → KD W O H (a ++ [(.inr k, v)]) (b ++ [(k, d)]) := fun r => by
      induction r with
      | nil => exact .cons ⟨rfl, h⟩ .nil
      | cons h1 t ih => exact .cons h1 ih
    exact app r
theorem KD.merge {W : Wd} {O : Addr → Prop} {H : Hp} {more : List (Key × V)} {mds : List (Str × D)} (m : KD W O H more mds) : ∀ {kvs : List (Key × V)} {kds : List (Str × D)}, KD W O H kvs kds → KD W O H (mergeK kvs more) (mergeG kds mds) := by
  induction m with
  | nil => intro kvs kds r; exact r
  | @cons p q ps qs h1 t ih =>
    intro kvs kds r
    show KD W O H (mergeK (putK kvs p.1 p.2) ps) (mergeG (putG kds q.1 q.2) qs)
    rw [h1.1]
    exact ih (r.put h1.2)
theorem KD.dct {W : Wd} {O : Addr → Prop} {H : Hp} {kvs : List (Key × V)} {kds : List (Str × D)} (r : KD W O H kvs kds) : kvs = ((kds.map (·.1)).map (Sum.inr : Str → Key)).zip (kvs.map (·.2)) ∧ DpA W O H (kvs.map (·.2)) (kds.map (·.2)) := by
  induction r with
  | nil => exact ⟨rfl, trivial⟩
  | @cons p q ps qs h1 t ih =>
    refine ⟨?_, h1.2, ih.2⟩
    simp only [List.map_cons, List.zip_cons_cons]
    rw [← ih.1, ← h1.1]
@[simp] def pairsD : List D → Option (List (Str × D))
  | [] => some []
  | .tup [.str k, d] :: r => (pairsD r).map ((k, d) :: ·)
  | _ => none
theorem pairs_at {W : Wd} {O : Addr → Prop} {H : Hp} : ∀ {ds : List D} {xs : List V} {ps : List (Str × D)}, pairsD ds = some ps → DpA W O H xs ds →
    ∃ (as : List Addr) (kvs : List (Key × V)), xs = as.map V.ref ∧ Paired (fun p kv => SqT W.K H p [kV kv.1, kv.2]) as kvs ∧ KD W O H kvs ps ∧ ps.length = ds.length
  | [], [], ps, e, _ => by cases e; exact ⟨[], [], rfl, .nil, .nil, rfl⟩
  | [], _ :: _, _, _, h => h.elim
  | _ :: _, [], _, _, h => h.elim
  | d :: ds, v :: vs, ps, e, h => by
    unfold pairsD at e
    split at e
    · rename_i h0; cases h0
    · rename_i k d2 r h0
      cases h0
      cases z : pairsD ds with
      | none => rw [z] at e; cases e
      | some qs =>
        rw [z] at e; cases e
        obtain ⟨as, kvs, e1, e2, e3, e4⟩ := pairs_at z h.2
        obtain ⟨a, xs, rfl, ta, n, r2⟩ := h.1
        obtain ⟨x0, x1, rfl⟩ : ∃ x0 x1, xs = [x0, x1] := by
          match xs, DpA.len r2 with
          | [a, b], _ => exact ⟨a, b, rfl⟩
        have hx : x0 = V.str k := r2.1
        subst hx
        exact ⟨a :: as, (.inr k, x1) :: kvs, by rw [e1]; rfl, .cons ta.sq e2, .cons ⟨rfl, r2.2.1⟩ e3, by simp [e4]⟩
    · cases e
@[simp] def dctP (P : D → Prop) : D → Prop
  | .lst ds => (match pairsD ds with
    | some ps => P (.dct ((mergeG [] ps).map (·.1)) ((mergeG [] ps).map (·.2)))
    | none => False)
  | _ => False
@[simp] def dDctP (t : DT) : DT := fun ρ P R => t ρ (dctP P) R
theorem boot_dict' : bootBuiltins "dict" = some (.type "dict") := by decide +kernel
theorem len_putG {α : Type} (kvs : List (Str × α)) (k : Str) (v : α) : (putG kvs k v).length ≤ kvs.length + 1 := by
  unfold putG; split <;> simp
theorem len_mergeG {α : Type} : ∀ (more kvs : List (Str × α)), (mergeG kvs more).length ≤ kvs.length + more.length
  | [], kvs => Nat.le_refl _
  | p :: r, kvs => by
    have h1 := len_mergeG r (putG kvs p.1 p.2)
    have h2 := len_putG kvs p.1 p.2
    show (mergeG (putG kvs p.1 p.2) r).length ≤ _
    rw [List.length_cons]; omega
theorem de_dctP {p : Pos} (hc : X.calm = true) (hg : Gl X "dict") (hm : X.mg "dict" = none) (ha : DB J X E a ta) (he : starEach (a :: []) X.env = (false, eval a X.env) :: starEach [] X.env := by rfl) : DE J X E (.Call (.Name "dict" p) [a] [] pos) (dDctP ta) := by
  obtain ⟨te, p1, s1⟩ := ha.ex
  refine ⟨_, pe_callTy (call_dictP hc) hg hm boot_dict' (pa_cons p1 pa_nil he) (by decide) (by decide) he rfl, fun B O H σ ρ P R Q rl x h fin => s1 B O H σ ρ _ R _ rl x h fun v H1 d x1 hv h1 => ?_⟩
  cases d with
  | lst ds =>
    have h1 : (match pairsD ds with | some ps => P (.dct ((mergeG [] ps).map (·.1)) ((mergeG [] ps).map (·.2))) | none => False) := h1
    cases z : pairsD ds with
    | none => rw [z] at h1; exact h1.elim
    | some ps =>
      rw [z] at h1
      obtain ⟨a, xs, rfl, t, n, r⟩ := hv.lst
      obtain ⟨as, kvs, rfl, e2, e3, e4⟩ := pairs_at z r
      refine ⟨a, as, kvs, rfl, .inl (.inl t), e2, fun p np => ?_⟩
      have km := e3.merge (kvs := []) (kds := []) .nil
      obtain ⟨k1, k2⟩ := km.dct
      have hl := len_mergeG ps []
      rw [List.length_nil, Nat.zero_add] at hl
      refine fin _ _ (.dct ((mergeG [] ps).map (·.1)) ((mergeG [] ps).map (·.2))) (x1.trans (Ext.new np)) ⟨p, (mergeK [] kvs).map (·.2), rfl, (rl.ext x1).free np, ?_, by simp, by rw [List.length_map]; omega, DpA.ext (Ext.new (T := J.T) np) (fun _ _ _ _ z => z) _ _ k2⟩ h1
      rw [← k1]; exact upd_same
  | _ => exact h1.elim
/-! ### sorted(a dict of texts) -/
@[simp] def srtP (P : List D → Prop) : D → Prop
  | .dct ks _ => ks.length < 64 ∧ ∀ ys : List Str, ys.Perm ks → sortedS ys = true → P (ys.map .str)
  | _ => False
@[simp] def dSrtD (t : DT) : DTA := fun ρ P R => t ρ (srtP P) R
theorem boot_sorted' : bootBuiltins "sorted" = some (.builtin "sorted") := by decide +kernel
theorem map_fst_zip (ks : List Str) (xs : List V) (h : ks.length = xs.length) : (((ks.map (Sum.inr : Str → Key)).zip xs).map (·.1)) = ks.map Sum.inr := by
  rw [List.map_fst_zip (by rw [List.length_map]; omega)]
theorem df_srtD {p : Pos} (hc : X.calm = true) (hg : Gl X "sorted") (hm : X.mg "sorted" = none) (ha : DB J X E a ta) (he : starEach (a :: []) X.env = (false, eval a X.env) :: starEach [] X.env := by rfl) : DF J X E (.Call (.Name "sorted" p) [a] [] pos) (dSrtD ta) := by
  obtain ⟨te, p1, s1⟩ := ha.ex
  refine ⟨_, pe_callB (call_sortedD hc) hg hm boot_sorted' (pa_cons p1 pa_nil he) (by decide) (by decide) he rfl, fun B O H σ ρ P R Q rl x h fin => s1 B O H σ ρ _ R _ rl x h fun v H1 d x1 hv h1 => ?_⟩
  cases d with
  | dct ks ds =>
    rcases hv with ⟨a, xs, rfl, o, t, n, m, r⟩ | ⟨_, _, _, _, e, _⟩
    · refine ⟨a, _, ks, rfl, .inl t, map_fst_zip ks xs (by rw [DpA.len r]; exact n), h1.1, fun ys p hp hs np => ?_⟩
      have hl : ys.length ≤ sizeLine := by rw [hp.length_eq]; exact m
      exact fin p _ _ (ys.map .str) (x1.trans (Ext.new np)) (x1.fresh np) ((rl.ext x1).free np) ((rl.ext x1).base.none np) upd_same (by rw [List.length_map]; exact hl) (DpA.strs ys) (h1.2 ys hp hs)
    · cases e
  | _ => exact h1.elim
end
end DL
namespace PySem
open Sem (wp)
open Builtin Builtin.Str Builtin.Int
theorem dl_join_tree (sep : Str) (t : Tok) (z : Str) (k : Tok) : «str.join» ⟨[.str sep t, .str z k], []⟩ = (do
    let ty ← typeOf (.str z k)
    if (ty == .type "list" || ty == .type "tuple") = true then (do
      match ← seqItems? (.str z k) with
      | some xs => joinTail sep xs.toList
      | none => unsupported "internal:str.join")
    else (do
      let it ← (pyIter (.str z k)).tryCatch fun e => do
        if ← isInstance e (.type "TypeError") then rule "str.join.not-iterable"; raiseError "TypeError" "can only join an iterable" else throw e
      let items ← collect it
      joinTail sep items)) := rfl
section
variable {prog : Program} {w : World} {A : Around} {E : Value → Shared → Prop} {s : Shared} {x : Str} {t : Tok} {Q : Value → Shared → Prop}
theorem dl_one {c : Nat} {acc : Array Value} (h : ItemsOf (SignAt ⟨#[c]⟩) acc (⟨#[c]⟩ : Str).cps.size) : ∃ u, acc = #[.str ⟨#[c]⟩ u] := by
  obtain ⟨h1, h2⟩ := h
  have h1 : acc.size = 1 := h1
  obtain ⟨v, rfl⟩ : ∃ v, acc = #[v] := by
    obtain ⟨l⟩ := acc
    match l, h1 with
    | [v], _ => exact ⟨v, rfl⟩
  obtain ⟨c', u, e1, rfl⟩ := h2 0 v rfl
  have e1 : some c = some c' := e1
  cases e1
  exact ⟨u, rfl⟩
/-- sep.join of a text of one character -/
theorem dl_join_char (hh : A.handled = none) (c : Nat) (k : Tok) (hq : ∀ s' k', (∀ b o, s.heap.get? b = some o → s'.heap.get? b = some o) → s'.gens = s.gens → s'.drawn = s.drawn → s'.os = s.os → Q (.str ⟨#[c]⟩ k') s') :
    wpAny (model prog w) A (call (.builtin "str.join") [.str x t, .str ⟨#[c]⟩ k]) Q E s := by
  refine wpAny_call (codeAny_call_builtin F.slot_str_join.plain F.entry_str_join (F.slot_str_join.check _ _ _ _ _ _ _ _ (typeIs_str _ _ _) (F.args_str_join_2 _ _) ?_))
  rw [dl_join_tree]
  refine wpAny_bind (wpAny_typeOf (T := "str") (v := .str ⟨#[c]⟩ k) rfl ?_)
  show wpAny _ A.in1 ((pyIter (.str ⟨#[c]⟩ k)).tryCatch _ >>= fun it => collect it >>= fun items => joinTail x items) _ _ s
  refine wpAny_bind (wpAny_tryCatch ?_)
  cases ha : (⟨#[c]⟩ : Str).cps.all (· < 128)
  · refine wpAny_pyIter_wide ha ?_
    refine wpAny_bind (wpAny_collect_strIter (A := A.in1) hh (.inr rfl) ⟨_, Heap.get?_push_size _ rfl, rfl, rfl⟩ (fun s' acc hk hg hd ho hacc => ?_) (by show 1 ≤ sizeLine; decide))
    obtain ⟨u, rfl⟩ := dl_one hacc
    show wpAny _ A.in1 (rule "str.join.same-object" >>= fun _ => ret (.str ⟨#[c]⟩ u)) _ _ s'
    refine wpAny_bind (wpAny_rule ?_)
    refine wpAny_pure ?_
    exact hq s' u (fun b o' e => hk b o' (Nat.ne_of_lt (Heap.lt_size e)) (Heap.get?_push_of_some _ e)) hg hd ho
  · refine wpAny_pyIter_ascii ha ?_
    refine wpAny_bind (wpAny_collect_strIter (A := A.in1) hh (.inl rfl) ⟨_, Heap.get?_push_size _ rfl, rfl, rfl⟩ (fun s' acc hk hg hd ho hacc => ?_) (by show 1 ≤ sizeLine; decide))
    obtain ⟨u, rfl⟩ := dl_one hacc
    show wpAny _ A.in1 (rule "str.join.same-object" >>= fun _ => ret (.str ⟨#[c]⟩ u)) _ _ s'
    refine wpAny_bind (wpAny_rule ?_)
    refine wpAny_pure ?_
    exact hq s' u (fun b o' e => hk b o' (Nat.ne_of_lt (Heap.lt_size e)) (Heap.get?_push_of_some _ e)) hg hd ho
end
end PySem
namespace DL
open PySem PySem.Spec PyProof.Rows L2
section
variable {J : Jd} {X : Cx} {E : XK} {e a b c tg : Expr} {es tgs : List Expr} {t ta tb tc : DT} {tA ti : DTA} {q q' : DTQ} {pos : Pos}
/-! ### sep.join(x) -/
theorem mt_joinC (hc : X.calm = true) : MtR X "str.join" (fun x xs H Q => ∃ (a : Str) (c : Nat), x = .str a ∧ xs = [.str ⟨#[c]⟩] ∧ Q (.str ⟨#[c]⟩) H) := by
  intro pins s σ H x xs v us Q I rx rs h
  obtain ⟨a, c, rfl, rfl, h⟩ := h
  obtain ⟨t, rfl⟩ := rx
  cases rs with
  | cons r1 rs =>
    cases rs
    obtain ⟨k, rfl⟩ := r1
    refine dl_join_char (I.ok.hd hc) c k fun s' k' hk hg hd ho => ?_
    obtain ⟨hp, g, d, tk, os⟩ := s'
    obtain ⟨hp0, g0, d0, tk0, os0⟩ := s
    cases hg; cases hd; cases ho
    exact ⟨.str ⟨#[c]⟩, H, I.kept (t' := tk) hk, ⟨k', rfl⟩, h⟩
def strsOf : List D → Option (List Str)
  | [] => some []
  | .str z :: r => (strsOf r).map (z :: ·)
  | _ => none
theorem strs_at {W : Wd} {O : Addr → Prop} {H : Hp} : ∀ {ds : List D} {xs : List V} {ys : List Str}, strsOf ds = some ys → DpA W O H xs ds → xs = ys.map V.str
  | [], [], _, e, _ => by cases e; rfl
  | [], _ :: _, _, _, h => h.elim
  | _ :: _, [], _, _, h => h.elim
  | d :: ds, v :: vs, ys, e, h => by
    unfold strsOf at e
    split at e
    · rename_i h0; cases h0
    · rename_i z r h0
      cases h0
      cases y : strsOf ds with
      | none => rw [y] at e; cases e
      | some zs =>
        rw [y] at e; cases e
        have h1 : v = V.str z := h.1
        rw [h1, strs_at y h.2]; rfl
    · cases e
@[simp] def joinP (P : D → Prop) (a : Str) : D → Prop
  | .lst ds => (match strsOf ds with | some ys => (ys.map (·.length)).sum + ys.length * a.length ≤ 16777216 ∧ P (.str (Txt.join a ys)) | none => False)
  | .tup ds => (match strsOf ds with | some ys => (ys.map (·.length)).sum + ys.length * a.length ≤ 16777216 ∧ P (.str (Txt.join a ys)) | none => False)
  | .str z => z.cps.size = 1 ∧ P (.str z)
  | _ => False
@[simp] def dJoin (ta tb : DT) : DT := fun ρ P R => ta ρ (fun x => match x with | .str a => tb ρ (fun y => joinP P a y) R | _ => False) R
def rJoinA (K : PySem.W.Frag) : V → List V → Hp → VK → Prop := fun x xs H Q => (∃ a p, ∃ ys : List Str, x = .str a ∧ xs = [.ref p] ∧ (SqL K H p (ys.map V.str) ∨ SqT K H p (ys.map V.str)) ∧
    (ys.map (·.length)).sum + ys.length * a.length ≤ 16777216 ∧ Q (.str (Txt.join a ys)) H) ∨ ∃ (a : Str) (c : Nat), x = .str a ∧ xs = [.str ⟨#[c]⟩] ∧ Q (.str ⟨#[c]⟩) H
theorem mt_joinA (hc : X.calm = true) : MtR X "str.join" (rJoinA X.K) := by
  intro pins s σ H x xs v us Q I rx rs h
  exact h.elim (fun h => mt_join pins s σ H x xs v us Q I rx rs h) fun h => mt_joinC hc pins s σ H x xs v us Q I rx rs h
theorem str1 {z : Str} (h : z.cps.size = 1) : ∃ c, z = ⟨#[c]⟩ := by
  obtain ⟨⟨l⟩⟩ := z
  match l, h with
  | [c], _ => exact ⟨c, rfl⟩
theorem de_join {apos : Pos} (hc : X.calm = true) (ha : DE J X E a ta) (hb : DB J X E b tb) (hs : starEach [b] X.env = [(false, eval b X.env)] := by rfl) (hbase : attributeBase a "join" X.env (eval a X.env) = eval a X.env := by rfl) (hline : (apos.endLine == pos.line) = true := by rfl) :
    DE J X E (.Call (.Attribute a "join" apos) [b] [] pos) (dJoin ta tb) := by
  obtain ⟨t1, p1, s1⟩ := ha.ex
  obtain ⟨t2, p2, s2⟩ := hb.ex
  refine ⟨_, pe_m1 PySem.F.slot_str_join PySem.F.type_str_join (mt_joinA hc) p1 p2 hs hbase hline, fun B O H σ ρ P R Q rl x h fin => s1 B O H σ ρ _ R _ rl x h fun v H1 d x1 hv h1 => ?_⟩
  cases d with
  | str a =>
    have hv : v = V.str a := hv
    subst hv
    refine ⟨⟨a, rfl⟩, s2 B O H1 σ ρ _ R _ (rl.ext x1) x h1 fun u H2 d2 x2 hu h2 => ?_⟩
    cases d2 with
    | lst ds =>
      have h2 : (match strsOf ds with | some ys => (ys.map (·.length)).sum + ys.length * a.length ≤ 16777216 ∧ P (.str (Txt.join a ys)) | none => False) := h2
      obtain ⟨b, xs, rfl, t, n, r⟩ := hu.lst
      cases z : strsOf ds with
      | none => rw [z] at h2; exact h2.elim
      | some ys =>
        rw [z] at h2
        exact .inl ⟨a, b, ys, rfl, rfl, .inl (.inl (.inl (by rw [t, strs_at z r]))), h2.1, fin _ H2 (.str _) (x1.trans x2) rfl h2.2⟩
    | tup ds =>
      have h2 : (match strsOf ds with | some ys => (ys.map (·.length)).sum + ys.length * a.length ≤ 16777216 ∧ P (.str (Txt.join a ys)) | none => False) := h2
      obtain ⟨b, xs, rfl, t, n, r⟩ := hu.tup
      cases z : strsOf ds with
      | none => rw [z] at h2; exact h2.elim
      | some ys =>
        rw [z] at h2
        have sq := t.sq
        rw [strs_at z r] at sq
        exact .inl ⟨a, b, ys, rfl, rfl, .inr sq, h2.1, fin _ H2 (.str _) (x1.trans x2) rfl h2.2⟩
    | str z =>
      obtain ⟨hz, h2⟩ := h2
      obtain ⟨c, rfl⟩ := str1 hz
      have hu := hu.str
      subst hu
      exact .inr ⟨a, c, rfl, rfl, fin _ H2 (.str _) (x1.trans x2) rfl h2⟩
    | _ => exact h2.elim
  | _ => exact h1.elim
/-! ### f'..' -/
@[simp] def dFmt (t : DT) : DT := fun ρ P R => t ρ (fun d => match d with
  | .str y => y.length ≤ sizeLine ∧ P (.str y)
  | .int i => i.natAbs.log2 < 1920 ∧ P (.str (toString i))
  | _ => False) R
theorem de_fmt (h : DE J X E e t) : DE J X E (.FormattedValue e (-1) none pos) (dFmt t) := by
  obtain ⟨te, p, s⟩ := h.ex
  refine ⟨_, pe_fmt p, fun B O H σ ρ P R Q rl x h fin => s B O H σ ρ _ R _ rl x h fun v H1 d x1 hv h1 => ?_⟩
  cases d with
  | str y => exact .inl ⟨y, hv, h1.1, fin _ H1 (.str y) x1 rfl h1.2⟩
  | int i => exact .inr ⟨i, hv, h1.1, fin _ H1 (.str (toString i)) x1 rfl h1.2⟩
  | _ => exact h1.elim
abbrev DTJ := Str → Rho → (Str → Prop) → RX → Prop
structure DJ (J : Jd) (X : Cx) (E : XK) (es : List Expr) (u : DTJ) : Prop where
  ex : ∃ ts, PJ X es ts ∧ ∀ acc B O H σ ρ (P : Str → Prop) R Q, Rel (wd X) J.T B O H σ ρ → EOk J E B R → u acc ρ P R → (∀ out H', Ext J.T H H' → P out → Q out H') → tJs ts acc σ H Q
@[simp] def djNil : DTJ := fun acc _ P _ => P acc
@[simp] def djCons (t : DT) (u : DTJ) : DTJ := fun acc ρ P R => t ρ (fun d => match d with
  | .str y => (acc ++ y).length ≤ sizeLine ∧ u (acc ++ y) ρ P R
  | _ => False) R
theorem dj_nil : DJ J X E [] djNil := ⟨[], .nil, fun acc B O H σ ρ P R Q rl x h fin => fin acc H Ext.refl h⟩
theorem dj_cons {u : DTJ} (h1 : DE J X E e t) (h2 : DJ J X E es u) : DJ J X E (e :: es) (djCons t u) := by
  obtain ⟨t1, p1, s1⟩ := h1.ex
  obtain ⟨t2, p2, s2⟩ := h2.ex
  refine ⟨_, .cons p1 p2, fun acc B O H σ ρ P R Q rl x h fin => s1 B O H σ ρ _ R _ rl x h fun v H1 d x1 hv h1 => ?_⟩
  cases d with
  | str y => exact ⟨y, hv, h1.1, s2 (acc ++ y) B O H1 σ ρ P R Q (rl.ext x1) x h1.2 fun out H2 x2 h2 => fin out H2 (x1.trans x2) h2⟩
  | _ => exact h1.elim
@[simp] def dJoined (u : DTJ) : DT := fun ρ P R => u Str.empty ρ (fun z => P (.str z)) R
theorem de_joined {v1 v2 : Expr} {rest : List Expr} {u : DTJ} (h : DJ J X E (v1 :: v2 :: rest) u) : DE J X E (.JoinedStr (v1 :: v2 :: rest) pos) (dJoined u) := by
  obtain ⟨ts, p, s⟩ := h.ex
  exact ⟨_, pe_joined p, fun B O H σ ρ P R Q rl x h fin => s Str.empty B O H σ ρ _ R _ rl x h fun out H' x' h' => fin _ H' (.str out) x' rfl h'⟩
/-! ### list(a text) -/
theorem call_list_strs (hc : X.calm = true) : CallR X (.type "list") (fun xs H Q => ∃ z : Str, xs = [.str z] ∧ z.cps.size ≤ sizeLine ∧ ∀ p, H p = none → Q (.ref p) (upd H p (.lst (z.cps.toList.map fun c => V.str ⟨#[c]⟩)))) := by
  intro pins s σ H xs us Q I r h
  obtain ⟨z, rfl, hz, q⟩ := h
  obtain ⟨u, rfl, rx⟩ := vals1 r
  obtain ⟨t, rfl⟩ := rx
  refine PySem.call_list_str (I.ok.hd hc) z t (fun h' tk acc c' hk e' hi => ?_) hz
  have hv : Vals (z.cps.toList.map fun c => V.str ⟨#[c]⟩) acc.toList := by
    refine vals_of_at (by rw [List.length_map, Array.length_toList, Array.length_toList]; exact hi.1.symm) fun j x u hx hu => ?_
    rw [Array.getElem?_toList] at hu
    obtain ⟨c, k, e1, rfl⟩ := hi.2 j u hu
    rw [List.getElem?_map, Array.getElem?_toList, e1] at hx
    cases hx
    exact ⟨k, rfl⟩
  exact ⟨.ref s.heap.objs.size, upd H s.heap.objs.size (.lst _), I.laid hk (Nat.le_refl _) (show ObjOk X.prog X.w _ _ _ (.lst _) from ⟨by rw [List.length_map, Array.length_toList]; exact hz, acc.toList, c', hv, by rw [Array.toArray_toList]; exact e'⟩), rfl, q _ (I.hok.fresh (Nat.le_refl _))⟩
@[simp] def listP (P : List D → Prop) : D → Prop
  | .tup ds => P ds
  | .lst ds => P ds
  | .str z => z.cps.size ≤ sizeLine ∧ P (charsD z)
  | _ => False
@[simp] def dListA (t : DT) : DTA := fun ρ P R => t ρ (listP P) R
theorem chars_at {W : Wd} {O : Addr → Prop} {H : Hp} (l : List Nat) : DpA W O H (l.map fun c => V.str ⟨#[c]⟩) (l.map fun c => D.str ⟨#[c]⟩) := by
  induction l with
  | nil => trivial
  | cons c l ih => exact ⟨rfl, ih⟩
theorem df_listA {p : Pos} (hc : X.calm = true) (hg : Gl X "list") (hm : X.mg "list" = none) (ha : DB J X E a ta) (he : starEach (a :: []) X.env = (false, eval a X.env) :: starEach [] X.env := by rfl) : DF J X E (.Call (.Name "list" p) [a] [] pos) (dListA ta) := by
  obtain ⟨te, p1, s1⟩ := ha.ex
  refine ⟨_, pe_callTy (call_list_of.or (call_list_strs hc)) hg hm boot_list' (pa_cons p1 pa_nil he) (by decide) (by decide) he rfl, fun B O H σ ρ P R Q rl x h fin => s1 B O H σ ρ _ R _ rl x h fun v H1 d x1 hv h1 => ?_⟩
  cases d with
  | tup ds =>
    obtain ⟨a, xs, rfl, t, n, r⟩ := hv.tup
    exact .inl ⟨a, xs, rfl, .inr t.sq, fun p np => fin p xs _ ds (x1.trans (Ext.new np)) (x1.fresh np) ((rl.ext x1).free np) ((rl.ext x1).base.none np) upd_same n (new_mask np r) h1⟩
  | lst ds =>
    obtain ⟨a, xs, rfl, t, n, r⟩ := hv.lst
    exact .inl ⟨a, xs, rfl, .inl (.inl (.inl t)), fun p np => fin p xs _ ds (x1.trans (Ext.new np)) (x1.fresh np) ((rl.ext x1).free np) ((rl.ext x1).base.none np) upd_same n (new_mask np r) h1⟩
  | str z =>
    have hv := hv.str
    subst hv
    refine .inr ⟨z, rfl, h1.1, fun p np => fin p _ _ (charsD z) (x1.trans (Ext.new np)) (x1.fresh np) ((rl.ext x1).free np) ((rl.ext x1).base.none np) upd_same ?_ (new_mask np (chars_at _)) h1.2⟩
    unfold charsD; rw [List.length_map, Array.length_toList]; exact h1.1
  | _ => exact h1.elim
end
end DL
namespace L2
open PySem PySem.Spec PyProof.Rows HT
section
variable {prog : Program} {w : World} {A : Around} {E : Value → Shared → Prop} {s : Shared}
theorem dl_pick_rev (xs : Array Value) : ((List.range xs.size).filterMap fun (k : Nat) => xs[(((xs.size : Int) - 1) + (k : Int) * (-1)).toNat]?).toArray = xs.toList.reverse.toArray := by
  have e : (fun (k : Nat) => xs[(((xs.size : Int) - 1) + (k : Int) * (-1)).toNat]?) = (fun k => xs[k]?) ∘ fun k => xs.size - 1 - k := by
    funext k
    have : (((xs.size : Int) - 1) + (k : Int) * (-1)).toNat = xs.size - 1 - k := by omega
    show xs[(((xs.size : Int) - 1) + (k : Int) * (-1)).toNat]? = xs[xs.size - 1 - k]?
    rw [this]
  rw [e, ← List.filterMap_map, PySem.W.krv_range, List.filterMap_reverse, PySem.W.krv_all]
theorem dl_applied {sl : Addr} {vs : Value} {n : Nat} {Q : Int × Int × Nat → Shared → Prop} (hs : s.heap.IsSliceOf sl .none .none vs) (ps : IsPart vs (some (-1)))
    (h : Q ((n : Int) - 1, -1, n) s) : wpAny (model prog w) A (Builtin.Slice.sliceApplied (.ref sl) (pure (n : Int))) Q E s := by
  obtain ⟨os, hos, hcs, hds⟩ := id hs
  unfold Builtin.Slice.sliceApplied Builtin.Slice.sliceFields
  refine wpAny_bind (wpAny_bind (wpAny_field hos hds (x := .none) rfl (wpAny_bind (wpAny_field hos hds (x := .none) rfl (wpAny_bind (wpAny_field hos hds (x := vs) rfl (wpAny_pure ?_)))))))
  refine wpAny_bind (slicePart_ ps ?_)
  show wpAny _ _ (if ((-1 : Int) == 0) = true then _ else _) _ _ s
  rw [if_neg (by decide)]
  refine wpAny_bind (slicePart_none (wpAny_bind (slicePart_none (wpAny_bind (wpAny_pure ?_)))))
  show wpAny _ _ (match Builtin.Slice.sliceAdjust none none (-1) (n : Int) with | (lo, hi) => pure (lo, (-1 : Int), Builtin.Slice.slicePlaces lo hi (-1))) _ _ s
  have e : Builtin.Slice.sliceAdjust none none (-1) (n : Int) = ((n : Int) - 1, -1) := rfl
  rw [e]
  have e2 : Builtin.Slice.slicePlaces ((n : Int) - 1) (-1) (-1) = n := by
    unfold Builtin.Slice.slicePlaces
    rw [if_neg (by decide)]
    have e3 : (-(-1) : Int) = 1 := rfl
    rw [e3, Int.ediv_one]
    split <;> omega
  show wpAny _ _ (pure ((n : Int) - 1, (-1 : Int), Builtin.Slice.slicePlaces ((n : Int) - 1) (-1) (-1))) _ _ s
  rw [e2]
  exact wpAny_pure h
theorem dl_getItem_tuple_rev {t sl : Addr} {items : Array Value} {vs : Value} {Q : Value → Shared → Prop} (ht : IsTup s.heap t items) (hs : s.heap.IsSliceOf sl .none .none vs) (ps : IsPart vs (some (-1)))
    (h : Q (.ref s.heap.objs.size) { s with heap := s.heap.push { cls := .type "tuple", data := .seq items.toList.reverse.toArray } })
    (hsz : items.size ≤ sizeLine) : wpAny (model prog w) A (getItem (.ref t) (.ref sl)) Q E s := by
  have htake : sizeOk (.seq items.toList.reverse.toArray) := by
    show items.toList.reverse.toArray.size ≤ sizeLine
    rw [List.size_toArray, List.length_reverse, Array.length_toList]
    exact hsz
  obtain ⟨os, hos, hcs, hds⟩ := id hs
  have hTs : s.TypeIs (.ref sl) "slice" := ⟨os, hos, hcs⟩
  unfold getItem
  try with_reducible refine wpAny_holding ?_
  first | refine wpAny_bind (wpAny_pure ?_) | skip
  refine wpAny_bind (wpAny_sequenceKey ht.typeIs (by decide) ?_)
  refine wpAny_bind (wpAny_callSpecial?_slot (name := Str.ofString "__getitem__") ht.typeIs PyProof.Rows.slot_tuple_getitem
    (wpAny_call_entry PyProof.Rows.slot_tuple_getitem ht.typeIs entry_tuple_getitem ?_ (args_tuple_getitem _ _)))
  show wpAny _ _ (Builtin.Tuple.tupleItemsOf (.ref t) >>= _) _ _ s
  refine wpAny_bind (tupleItemsOf_ ht ?_)
  refine wpAny_bind (wpAny_typeOf hTs ?_)
  rw [if_pos (by decide)]
  refine wpAny_bind (dl_applied hs ps ?_)
  have hno : ¬ ((((items.size : Int) - 1) == 0 && (-1 : Int) == 1 && items.size == items.size) = true) := by
    intro q
    rw [Bool.and_eq_true, Bool.and_eq_true] at q
    exact absurd q.1.2 (by decide)
  show wpAny _ _ (if (((items.size : Int) - 1) == 0 && (-1 : Int) == 1 && items.size == items.size) = true then _ else _) _ _ s
  rw [if_neg hno, dl_pick_rev]
  first
    | exact wpAny_bind (m := Builtin.Tuple.tupleExact _) (wpAny_newObj_type (wpAny_pure ⟨_, rfl, wpAny_pure h⟩) htake)
    | exact wpAny_bind (m := Builtin.Tuple.tupleExact _) (wpAny_newObj_type (wpAny_bind (wpAny_pure (wpAny_pure ⟨_, rfl, wpAny_pure h⟩))) htake)
    | exact wpAny_bind (wpAny_bind (m := Builtin.Tuple.tupleExact _) (wpAny_newObj_type (wpAny_pure (wpAny_pure ⟨_, rfl, wpAny_pure h⟩)) htake))
    | exact wpAny_bind (wpAny_bind (m := Builtin.Tuple.tupleExact _) (wpAny_newObj_type (wpAny_pure ⟨_, rfl, wpAny_pure h⟩) htake))
end
section
variable {X : Cx}
/-- xs[::-1] of a list, of a tuple -/
def tRevA (K : PySem.W.Frag) (te : TE) : TE := fun σ H Q => te σ H fun x H1 => ∃ a xs, x = .ref a ∧ ((SqL K H1 a xs ∧ ∀ p, H1 p = none → Q (.ref p) (upd H1 p (.lst xs.reverse))) ∨ (SqT K H1 a xs ∧ ∀ p, H1 p = none → Q (.ref p) (upd H1 p (.tup xs.reverse))))
theorem pe_revA' {e : Expr} {te : TE} {k : Nat} {p1 p2 p3 pos : Pos} (he : PE X e te) : PE X (.Subscript e (.Slice none none (some (.UnaryOp .USub (.Constant (.int 1) k p1) p2)) p3) pos) (tRevA X.K te) := by
  refine ⟨fun pins s σ H Q I h => ?_⟩
  refine Subscript_ (thn (he.run pins s σ H _ I h) fun v s1 ⟨x, H1, I1, r1, q1⟩ => ?_)
  obtain ⟨a, xs, ex, q⟩ := q1
  subst ex
  cases r1
  have hst : PO X (some (.UnaryOp .USub (.Constant (.int 1) k p1) p2)) (tPart (tUn (rU fun i => .int (-i)) (tC (.int 1)))) := po_some (pe_un un_neg pe_int)
  refine wpAny_Slice (thn (po_none.run pins s1 σ H1 (fun o H2 => o = none ∧ H2 = H1) I1 ⟨rfl, rfl⟩) fun vl s2 ⟨l, H2, I2, pl, el, e2⟩ => ?_)
  subst el e2
  refine thn (po_none.run pins s2 σ H2 (fun o H3 => o = none ∧ H3 = H2) I2 ⟨rfl, rfl⟩) fun vu s3 ⟨u, H3, I3, pu, eu, e3⟩ => ?_
  subst eu e3
  refine thn (hst.run pins s3 σ H3 (fun o H4 => o = some (-1) ∧ H4 = H3) I3 ⟨1, rfl, -1, rfl, rfl, rfl⟩) fun vs s4 ⟨o, H4, I4, ps, eo, e4⟩ => ?_
  subst eo e4
  have I5 : Inv X pins σ H4 { s4 with heap := s4.heap.push { cls := .type "slice", data := .fields #[vl, vu, vs] } } := I4.kept (t' := s4.toks) fun b ob q => Heap.get?_push_of_some _ q
  show wpAny (model X.prog X.w) X.A (subscriptTail e (.Slice none none (some (.UnaryOp .USub (.Constant (.int 1) k p1) p2)) p3) (.ref a) (.ref s4.heap.objs.size)) (EP X pins σ Q) X.xe { s4 with heap := s4.heap.push { cls := .type "slice", data := .fields #[vl, vu, vs] } }
  rcases q with ⟨hx, q⟩ | ⟨hx, q⟩
  · obtain ⟨its, r, ht, hz⟩ := I5.list hx
    have hlen := r.length
    refine tail_any (ops := [.ref a, .ref s4.heap.objs.size]) ht.isList.typeIs (PySem.slot_list_getitem.lookup) ?_ (by with_unfolding_all rfl)
    refine wpAny_getItem_list_slice ht.isList (Heap.IsSliceOf.new _ vl vu vs) pl pu ps (by decide) ?_ (by rw [List.size_toArray]; omega)
    rw [PySem.W.krv_pick]
    refine ⟨.ref _, _, I5.laid (t' := s4.toks) (o := .lst xs.reverse) (fun b ob q => Heap.get?_push_of_some _ q) (Nat.le_refl _) ?_, rfl, q _ (I5.hok.fresh (Nat.le_refl _))⟩
    exact ⟨by rw [List.length_reverse]; exact hz, _, 0, r.reverse, Heap.get?_push_size _ rfl⟩
  · obtain ⟨its, r, ht, hz⟩ := I5.tuple hx
    have hlen := r.length
    cases pl
    cases pu
    refine tail_any (ops := [.ref a, .ref s4.heap.objs.size]) ht.typeIs (PyProof.Rows.slot_tuple_getitem.lookup) ?_ (by with_unfolding_all rfl)
    refine dl_getItem_tuple_rev ht (Heap.IsSliceOf.new _ .none .none vs) ps ?_ (by rw [List.size_toArray]; omega)
    refine ⟨.ref _, _, I5.laid (t' := s4.toks) (o := .tup xs.reverse) (fun b ob q => Heap.get?_push_of_some _ q) (Nat.le_refl _) ?_, rfl, q _ (I5.hok.fresh (Nat.le_refl _))⟩
    exact ⟨by rw [List.length_reverse]; exact hz, _, r.reverse, ⟨_, Heap.get?_push_size _ rfl, rfl, _, rfl⟩⟩
end
end L2
namespace DL
open PySem PySem.Spec PyProof.Rows L2
section
variable {J : Jd} {X : Cx} {E : XK} {e a b c tg : Expr} {es tgs : List Expr} {t ta tb tc : DT} {tA ti : DTA} {q q' : DTQ} {pos : Pos}
@[simp] def dRev (t : DT) : DT := fun ρ P R => t ρ (fun d => match d with | .lst ds => P (.lst ds.reverse) | .tup ds => P (.tup ds.reverse) | _ => False) R
theorem de_rev {k : Nat} {p1 p2 p3 : Pos} (h : DB J X E e t) : DE J X E (.Subscript e (.Slice none none (some (.UnaryOp .USub (.Constant (.int 1) k p1) p2)) p3) pos) (dRev t) := by
  obtain ⟨te, p, s⟩ := h.ex
  refine ⟨_, pe_revA' p, fun B O H σ ρ P R Q rl x h fin => s B O H σ ρ _ R _ rl x h fun v H1 d x1 hv h1 => ?_⟩
  cases d with
  | lst ds =>
    obtain ⟨a, xs, rfl, t, n, r⟩ := hv.lst
    exact ⟨a, xs, rfl, .inl ⟨.inl (.inl t), fun p np => fin _ _ (.lst ds.reverse) (x1.trans (Ext.new np)) ⟨p, _, rfl, (rl.ext x1).free np, upd_same, by rw [List.length_reverse]; exact n, DpA.ext (Ext.new (T := J.T) np) (fun _ _ _ _ z => z) _ _ r.reverse⟩ h1⟩⟩
  | tup ds =>
    obtain ⟨a, xs, rfl, t, n, r⟩ := hv.tup
    exact ⟨a, xs, rfl, .inr ⟨t.sq, fun p np => fin _ _ (.tup ds.reverse) (x1.trans (Ext.new np)) ⟨p, _, rfl, .inl ⟨(rl.ext x1).free np, upd_same⟩, by rw [List.length_reverse]; exact n, DpA.ext (Ext.new (T := J.T) np) (fun _ _ _ _ z => z) _ _ r.reverse⟩ h1⟩⟩
  | _ => exact h1.elim
/-! ### a, b, c = .. -/
@[simp] def sPar3 (i j l : Nat) (tA : DTA) : DST := fun ρ De => tA ρ (fun ds => match ds with
  | [d, d', d''] => De.nx (((ρ.set i (.val d)).set j (.val d')).set l (.val d''))
  | _ => False) De.xc
theorem ds_par3 {i j l : Nat} {x y z : Str} {px py pz pt : Pos} {kt k2 pt2} (hc : X.calm = true) (hN : X.N.Nodup) (hi : X.N[i]? = some x) (hj : X.N[j]? = some y) (hl : X.N[l]? = some z) (hij : i ≠ j) (hil : i ≠ l) (hjl : j ≠ l)
    (hx : X.env.scope.names.lookup x = some .local) (hy : X.env.scope.names.lookup y = some .local) (hz : X.env.scope.names.lookup z = some .local) (ha : DA J X E [a, b, c] tA)
    (hw : swappedStores [.Tuple [.Name x px, .Name y py, .Name z pz] kt pt] (.Tuple [a, b, c] k2 pt2) X.env = pure (some [x, y, z]))
    (hs : swapsWithSole [.Tuple [.Name x px, .Name y py, .Name z pz] kt pt] (.Tuple [a, b, c] k2 pt2) pos.line X.env = pure false := by rfl) :
    DS J X E (.Assign [.Tuple [.Name x px, .Name y py, .Name z pz] kt pt] (.Tuple [a, b, c] k2 pt2) pos) (sPar3 i j l tA) := by
  obtain ⟨te, p, k⟩ := ha.ex
  refine ⟨_, ps_par3 hc hN hi hj hl hij hil hjl hx hy hz p hw hs, fun B O H σ ρ De Dh rl c h => k B O H σ ρ _ _ _ rl c.xc h fun vs H' ds x hvs hd => ?_⟩
  match ds, vs, hvs, hd with
  | [d, d', d''], [v, v', v''], hvs, hd => exact ⟨v, v', v'', rfl, c.nx O H' _ _ ((((rl.ext x).val hvs.1).val hvs.2.1).val hvs.2.2.1) hd⟩
/-! ### a op b op' c as a test -/
theorem dq_chain {op op' : CmpOp} {r r' : R2} {f g : D2} (ho : OpR X (compareOp op) r) (ho' : OpR X (compareOp op') r') (so : SO J X r f) (so' : SO J X r' g) (ha : DB J X E a ta) (hb : DB J X E b tb) (hc : DB J X E c tc)
    (hm : lastMarks [op, op'] [b, c] = false := by with_unfolding_all rfl) : DQ J X E (.Compare a [op, op'] [b, c] pos) (qV (dChain f g ta tb tc)) := by
  obtain ⟨t1, p1, s1⟩ := ha.ex
  obtain ⟨t2, p2, s2⟩ := hb.ex
  obtain ⟨t3, p3, s3⟩ := hc.ex
  refine ⟨_, pt_chain ho ho' p1 p2 p3 hm, fun B O H σ ρ P R Q rl x h fin => ?_⟩
  refine s1 B O H σ ρ _ R _ rl x h fun v H1 d x1 hv h1 => s2 B O H1 σ ρ _ R _ (rl.ext x1) x h1 fun u H2 d2 x2 hu h2 => ?_
  have rl2 := (rl.ext x1).ext x2
  refine so B.O0 O H2 v u d d2 _ _ rl2.dom (hv.ext x2) hu h2 fun v3 H3 d3 x3 hv3 h3 => ?_
  cases d3 with
  | bl k =>
    refine ⟨k, hv3, ?_⟩
    cases k with
    | false => exact ⟨false, rfl, fin false H3 ((x1.trans x2).trans x3) h3⟩
    | true =>
      refine s3 B O H3 σ ρ _ R _ (rl2.ext x3) x h3 fun w H4 d4 x4 hw h4 => ?_
      refine so' B.O0 O H4 u w d2 d4 _ _ ((rl2.ext x3).ext x4).dom ((hu.ext x3).ext x4) hw h4 fun v' H' d' x' hv' p => ?_
      cases d' with
      | bl k' => exact ⟨k', hv', fin k' H' ((((x1.trans x2).trans x3).trans x4).trans x') p⟩
      | _ => exact p.elim
  | _ => exact h3.elim
/-! ### x += e -/
theorem ds_augI {i : Nat} {x : Str} {pos' : Pos} (hi : X.N[i]? = some x) (hN : X.N.Nodup) (hx : Loc X.env.scope x) (h : DE J X E e t) (hf : X.fn x = true ∨ X.env.scope.names.lookup x = some .local := by first | exact Or.inl rfl | exact Or.inr rfl | assumption) :
    DS J X E (.AugAssign (.Name x pos') .Add e pos) (sAugI i t) := by
  obtain ⟨te, p, k⟩ := h.ex
  refine ⟨_, ps_aug hN hi hx p ip_add hf, fun B O H σ ρ De Dh rl c ht => ?_⟩
  have ht : slP ρ[i]? fun d => t ρ (fun d' => match d, d' with
    | .int x, .int y => De.nx (ρ.set i (.val (.int (x + y))))
    | _, _ => False) De.xc := ht
  cases e : ρ[i]? with
  | none => rw [e] at ht; exact ht.elim
  | some s =>
    rw [e] at ht
    cases s with
    | non => exact ht.elim
    | own _ => exact ht.elim
    | val d =>
      obtain ⟨v, e1, h1⟩ := rl.sl i _ e
      refine ⟨v, ?_, k B O H σ ρ _ _ _ rl c.xc ht fun u H' d' x' hu hd => ?_⟩
      · cases z : σ[i]? with
        | none => rw [z] at e1; cases e1
        | some o => rw [z] at e1; exact congrArg some e1
      · cases d with
        | int n =>
          cases d' with
          | int m =>
            have h1 : v = V.int n := h1
            have hu : u = V.int m := hu
            exact ⟨n, m, h1, hu, c.nx O H' _ _ ((rl.ext x').val (d := .int (n + m)) rfl) hd⟩
          | _ => exact hd.elim
        | _ => exact hd.elim
end
end DL
namespace DL
open PySem PySem.Spec PyProof.Rows L2
section
variable {J : Jd} {X : Cx} {E : XK} {e a b c tg : Expr} {es tgs : List Expr} {t ta tb tc : DT} {tA tB ti : DTA} {q q' : DTQ} {pos : Pos}
/-! ### a, b = e, [..], the second of its own -/
@[simp] def sParO (i j : Nat) (ta : DT) (tB : DTA) : DST := fun ρ De => ta ρ (fun d => tB ρ (fun ds => De.nx ((ρ.set i (.val d)).set j (.own ds))) De.xc) De.xc
theorem ds_parO {i j : Nat} {x y : Str} {px py pt : Pos} {kt k2 pt2} (hc : X.calm = true) (hN : X.N.Nodup) (hi : X.N[i]? = some x) (hj : X.N[j]? = some y) (hij : i ≠ j)
    (hx : X.env.scope.names.lookup x = some .local) (hy : X.env.scope.names.lookup y = some .local) (ha : DE J X E a ta) (hb : DF J X E b tB)
    (hw : swappedStores [.Tuple [.Name x px, .Name y py] kt pt] (.Tuple [a, b] k2 pt2) X.env = pure (some [x, y]))
    (hs : swapsWithSole [.Tuple [.Name x px, .Name y py] kt pt] (.Tuple [a, b] k2 pt2) pos.line X.env = pure false := by rfl)
    (hst : starEach [a, b] X.env = (false, eval a X.env) :: starEach [b] X.env := by rfl) (hst2 : starEach [b] X.env = (false, eval b X.env) :: starEach [] X.env := by rfl) :
    DS J X E (.Assign [.Tuple [.Name x px, .Name y py] kt pt] (.Tuple [a, b] k2 pt2) pos) (sParO i j ta tB) := by
  obtain ⟨t1, p1, s1⟩ := ha.ex
  obtain ⟨t2, p2, s2⟩ := hb.ex
  refine ⟨_, ps_par hc hN hi hj hij hx hy (pa_cons p1 (pa_cons p2 pa_nil hst2) hst) hw hs, fun B O H σ ρ De Dh rl c h => ?_⟩
  refine s1 B O H σ ρ _ _ _ rl c.xc h fun v H1 d x1 hv h1 => ?_
  have rl1 := rl.ext x1
  refine s2 B O H1 σ ρ _ _ _ rl1 c.xc h1 fun p xs H2 ds x2 np no nb hp hl hd hP => ?_
  exact ⟨v, .ref p, rfl, c.nx _ H2 _ _ ((rl1.val hv).newOwn x2 np no nb hp hl hd) hP⟩
/-- a, b, c = e, [..], f, f a number -/
@[simp] def sPar3O (i j l : Nat) (ta : DT) (tB : DTA) (tc : DT) : DST := fun ρ De => ta ρ (fun d => tB ρ (fun ds => tc ρ (fun d3 => flat d3 = true ∧ De.nx (((ρ.set i (.val d)).set j (.own ds)).set l (.val d3))) De.xc) De.xc) De.xc
theorem ds_par3O {i j l : Nat} {x y z : Str} {px py pz pt : Pos} {kt k2 pt2} (hc : X.calm = true) (hN : X.N.Nodup) (hi : X.N[i]? = some x) (hj : X.N[j]? = some y) (hl : X.N[l]? = some z) (hij : i ≠ j) (hil : i ≠ l) (hjl : j ≠ l)
    (hx : X.env.scope.names.lookup x = some .local) (hy : X.env.scope.names.lookup y = some .local) (hz : X.env.scope.names.lookup z = some .local) (ha : DE J X E a ta) (hb : DF J X E b tB) (h3 : DE J X E c tc)
    (hw : swappedStores [.Tuple [.Name x px, .Name y py, .Name z pz] kt pt] (.Tuple [a, b, c] k2 pt2) X.env = pure (some [x, y, z]))
    (hs : swapsWithSole [.Tuple [.Name x px, .Name y py, .Name z pz] kt pt] (.Tuple [a, b, c] k2 pt2) pos.line X.env = pure false := by rfl)
    (hst : starEach [a, b, c] X.env = (false, eval a X.env) :: starEach [b, c] X.env := by rfl) (hst2 : starEach [b, c] X.env = (false, eval b X.env) :: starEach [c] X.env := by rfl) (hst3 : starEach [c] X.env = (false, eval c X.env) :: starEach [] X.env := by rfl) :
    DS J X E (.Assign [.Tuple [.Name x px, .Name y py, .Name z pz] kt pt] (.Tuple [a, b, c] k2 pt2) pos) (sPar3O i j l ta tB tc) := by
  obtain ⟨t1, p1, s1⟩ := ha.ex
  obtain ⟨t2, p2, s2⟩ := hb.ex
  obtain ⟨t3, p3, s3⟩ := h3.ex
  refine ⟨_, ps_par3 hc hN hi hj hl hij hil hjl hx hy hz (pa_cons p1 (pa_cons p2 (pa_cons p3 pa_nil hst3) hst2) hst) hw hs, fun B O H σ ρ De Dh rl c h => ?_⟩
  refine s1 B O H σ ρ _ _ _ rl c.xc h fun v H1 d x1 hv h1 => ?_
  have rl1 := rl.ext x1
  refine s2 B O H1 σ ρ _ _ _ rl1 c.xc h1 fun p xs H2 ds x2 np no nb hp hl hd hP => ?_
  refine s3 B O H2 σ ρ _ _ _ (rl1.ext x2) c.xc hP fun w H3 d3 x3 hw3 hq => ?_
  have r3 := (rl1.val (i := i) hv).newOwn (i := j) (x2.trans x3) np no nb (x3.lst hp) hl (DpA.ext x3 (fun _ _ _ _ z => z) ds xs hd)
  exact ⟨v, .ref p, w, rfl, c.nx _ H3 _ _ (r3.val (flat_dp hq.1 hw3)) hq.2⟩
end
end DL
namespace DL
open PySem PySem.Spec PyProof.Rows L2
/-! ### d.update(e), both with keys that are texts or ints -/
def rUpd : V → List V → Hp → VK → Prop := fun x vs H Q => ∃ (a b : Addr) (kvs more : List (Key × V)), x = .ref a ∧ vs = [.ref b] ∧ H a = some (.dK kvs) ∧ H b = some (.dK more) ∧ a ≠ b ∧ kvs.length + more.length ≤ sizeLine ∧ Q .non (upd H a (.dK (mergeK kvs more)))
theorem mtd_update {X : Cx} : MtR X "dict.update" rUpd := by
  intro pins s σ H x vs v us Q I rx rv h
  obtain ⟨a, b, kvs, more, rfl, rfl, ea, eb, ne, hl, q⟩ := h
  obtain rfl : v = Value.ref a := rx
  obtain ⟨u, rfl, ru⟩ := rv.one
  obtain rfl : u = Value.ref b := ru
  obtain ⟨z1, d1, xs, r1, D1⟩ := dk_of I.hok ea
  obtain ⟨z2, d2, ys, r2, D2⟩ := dk_of I.hok eb
  refine call_meetsIn PySem.F.slot_dict_update D1.typeIs PySem.F.entry_dict_update (PySem.F.args_dict_update_2 _ _) (meets_dict_update (mixKind X.prog X.w) a b ne d2)
    ⟨xs, ys, D1, D2, by rw [← r1.length, ← r2.length]; exact hl, fun h' n1 n2 same => ?_⟩
  have there : ∃ q, h'.get? a = some q := let ⟨q, _, _, hq, _⟩ := n1; ⟨q, hq⟩
  exact ⟨.non, _, d_write (t' := s.toks) I (by rw [ea]; exact True.intro) same there (dk_new (Nat.le_trans (length_mergeK more kvs) hl) d1 (r2.merge r1) n1), rfl, q⟩
/-! ### an exception that is caught and held -/
/-- an exception object of the class cls at a -/
def ExH (cls : Value) (a : Addr) : HO := .ext fun h => ∃ (oe : Obj) (vs : Array Value), h.get? a = some oe ∧ Zc cls none oe ∧ oe.data = .fields vs
theorem exH_ok {P : Program} {w : World} {H : Hp} {h : Heap} {a : Addr} {cls : Value} {oe : Obj} {vs : Array Value} (e : h.get? a = some oe) (z : Zc cls none oe) (d : oe.data = .fields vs) : ObjOk P w H h a (ExH cls a) :=
  ⟨⟨oe, vs, e, z, d⟩, ⟨oe, e⟩, fun h1 h2 ⟨o1, v1, q1, q2, q3⟩ k => ⟨o1, v1, k o1 q1, q2, q3⟩⟩
section
variable {X : Cx} {pins : List (Addr × Obj)} {σ : St} {H : Hp} {s : Shared}
/-- behind the suite the exception is one of our objects -/
theorem held_on {a : Addr} {oe : Obj} {vs : Array Value} {cls : Value} {pq : List (Addr × Obj)} (I : Inv (X.suite a ((a, oe) :: (X.pn ++ pins))) pq σ H s) (ok : X.Ok) (hz : Zc cls none oe) (hd : oe.data = .fields vs)
    (h0 : X.s_0.heap.get? a = none) (np : ∀ p ∈ X.pn ++ pins, p.1 ≠ a) : Inv X pins σ (upd H a (ExH cls a)) s := by
  obtain ⟨g1, g2, g3, _⟩ := I.pin (a, oe) (List.mem_append.mpr (.inl List.mem_cons_self))
  have J := I.unsuite ok
  have off : ∀ {b : Addr} {o : HO}, H b = some o → upd H a (ExH cls a) b = some o := fun {b o} e => by
    rw [upd_ne (fun z => by rw [z, g2] at e; cases e)]; exact e
  refine ⟨ok, J.os, J.bare, ⟨J.base.keep, J.base.slot, fun b o e n x => ?_, J.base.there, fun b xs e => off (J.base.tups b xs e), fun b o u e => off (J.base.frzs b o u e), fun b ps e => ?_⟩, J.loc, J.cell, ?_, fun x c e => ?_, fun p hp => ?_, ?_, J.len⟩
  · rw [upd_ne (fun z => by rw [z, h0] at e; cases e)]
    exact J.base.free b o e n x
  · obtain ⟨more, e2⟩ := J.base.tbls b ps e
    exact ⟨more, off e2⟩
  · rw [upd_ne (Ne.symm g3)]; exact J.free
  · rw [upd_ne (fun z => by
      obtain ⟨v, o, ho, hc⟩ := J.cell x c e
      rw [z] at ho
      have q : oe = o := Option.some.inj (g1.symm.trans ho)
      rw [← q, hd] at hc; cases hc)]
    exact J.freeC x c e
  · obtain ⟨p1, p2, p3, p4, p5⟩ := J.pin p hp
    exact ⟨p1, by rw [upd_ne (np p hp)]; exact p2, p3, p4, p5⟩
  · exact HOk.laidN J.hok (fun _ _ z => z) g2 (exH_ok g1 hz hd)
end
/-- what 'except c as n' wishes, the exception kept behind the suite -/
def wKeep (K : PySem.W.Frag) (n : Nat) (c : Value) (i : Nat) (ts : Addr → Value → TS) (D : Ends) : WX := fun cls d σ H =>
  d = none ∧ PySem.W.exmOne K cls c = some true ∧ ∀ a, H a = none → σ.length = n → ts a cls { nx := fun σ' H' => D.nx (σ'.set i none) (upd H' a (ExH cls a)), rt := fun _ _ => False, bk := fun _ _ => False, ct := fun _ _ => False } (σ.set i (some (.ref a))) H
section
variable {X : Cx} {x n : Str} {c : Value} {i : Nat} {body suite : List Stmt} {b₀ : Stmt} {np pos pos' : Pos} {tb : WX → TS} {ts : Addr → Value → TS}
theorem ps_try_keep (hs : X.stack = X.env :: X.outer) (hf : X.env.frame = some X.env.locals) (hex : X.ex = []) (hN : X.N.Nodup) (hi : X.N[i]? = some n) (hln : X.env.kindOf n = some .local) (hc : Names X x c)
    (hb : ∀ (W : WX) (pn : List (Addr × Obj)) (xe : Value → Shared → Prop), Takes (X.tr pn xe) W → PassesOwn (model X.prog X.w) X.A X.env xe → PSs (X.tr pn xe) body (tb W))
    (hsu : ∀ (a : Addr) (oe : Obj) (cls : Value) (pn : List (Addr × Obj)), PSs (X.suite a ((a, oe) :: pn)) (b₀ :: suite) (ts a cls)) :
    PS X (.Try body [.ExceptHandler (some (.Name x np)) (some n) (b₀ :: suite) pos'] [] [] pos) (fun D σ H => tb (wKeep X.K X.N.length c i ts D) D σ H) := by
  refine ⟨fun pins s0 σ0 H0 D I0 h0 => ?_⟩
  have ok := I0.ok
  have frm : X.A.frames = some (X.env :: X.outer) := by rw [ok.frames, hs]
  refine wpAny_Try_except (wpAny_mono ((hb (wKeep X.K X.N.length c i ts D) (X.pn ++ pins) (fun e z1 => wpAny (model X.prog X.w) X.A (noteFrame e X.env) (fun _ z2 => wpAny (model X.prog X.w) X.A (setFlight e none) (fun _ z3 =>
    wpAny (model X.prog X.w) X.A (handleBy e X.env [.ExceptHandler (some (.Name x np)) (some n) (b₀ :: suite) pos']) (SP X pins D) X.xe z3) X.xe z2) X.xe z1) (fun u s1 air => ?_) PassesOwn.looking).run [] s0 σ0 H0 D (I0.toTry _) h0)
    (fun f s1 hsp => ?_) (fun e s1 he => he))
  · obtain ⟨a, B, sI, pins1, σ1, H1, cls, d, rfl, I1', nb, up1, sky1, na, os1, ag1, dn, hb1, hyes⟩ := air
    subst dn
    have I1 : Inv X pins σ1 H1 sI := I1'.ofTry ok
    rw [hs] at sky1
    have gone : B.get? a = none := by
      rcases sky1 with k | k | k
      · exact k.2.1
      · exact k.2.1
      · exact k.2.1
    show wpAny (model X.prog X.w) X.A (noteFrame (.ref a) X.env) _ _ _
    refine Sky.land Zc.steady frm hf sky1 fun ha fla upa => ?_
    have Ia : Inv X pins σ1 H1 { s1 with heap := ha } := I1.landed nb fla.1 (up1.trans upa) os1 ag1
    obtain ⟨oa, va, ea, za, da⟩ := fla.there
    have offFr : a ∉ frs (X.env :: X.outer) := fun hm => by
      obtain ⟨_, o2, e2, q2⟩ := fla.2.2.1.mem hm
      rw [ea] at e2; cases e2
      exact q2 _ da
    have offL : a ≠ X.env.locals := fun z => offFr (List.mem_filterMap.mpr ⟨X.env, List.mem_cons_self, by rw [hf, z]⟩)
    have offF : a ∉ X.fs := fun hm => by
      obtain ⟨e2, m2, q2⟩ := List.mem_filterMap.mp hm
      exact offFr (List.mem_filterMap.mpr ⟨e2, List.mem_cons_of_mem _ m2, q2⟩)
    have newI : sI.heap.get? a = none := by
      cases q : sI.heap.get? a with
      | none => rfl
      | some o =>
        have z := nb a o q (by rw [hs]; exact offFr)
        rw [gone] at z; cases z
    have new0 : X.s_0.heap.get? a = none := by
      cases q : X.s_0.heap.get? a with
      | none => rfl
      | some o =>
        obtain ⟨o2, z⟩ := I1.base.there a o q (by rw [hex]; exact List.not_mem_nil)
        rw [newI] at z; cases z
    have offP : ∀ p ∈ X.pn ++ pins, p.1 ≠ a := fun p hp z => by
      have q := (I1.pin p hp).1
      rw [z, newI] at q; cases q
    have Sa := Ia.suite ea da na offL offF
    refine wpAny_handleBy_cons (codeAny_handlers_test ?_) (by intro q; cases q)
    have lt : PySem.W.Looks (model X.prog X.w) ha (typeOf (.ref a)) cls := fun A Q E s k q => wpAny_typeOf_ref (k _ _ ea) (by rw [za.1]; exact q)
    have lm := PySem.W.exm_one (M := model X.prog X.w) Ia.kIn lt hb1
    have askC : ∀ {Q E : Value → Shared → Prop}, Q c { s1 with heap := ha } → wpAny (model X.prog X.w) (X.A.mark (some (.ref a))) (eval (.Name x np) X.env) Q E { s1 with heap := ha } := fun {Q E} q => by
      obtain ⟨n1, n2, n3 | ⟨n3, n4, n5⟩⟩ := hc
      · exact ld_glob (X := X.suite a ((a, oa) :: (X.pn ++ pins))) Sa n1 n3 q n2
      · exact ld_blt (X := X.suite a ((a, oa) :: (X.pn ++ pins))) Sa n1 n3 n4 q n5 n2
    refine askC (lm.here (codeAny_handlers_suite_as (HandSPX.lands_againZ fla fun hc2 flc upc => ?_)))
    have Ic : Inv X pins σ1 H1 { s1 with heap := hc2 } := I1.landed nb flc.1 ((up1.trans upa).trans upc) os1 ag1
    obtain ⟨oc, vc, ec, zc, dc⟩ := flc.there
    have Sc := Ic.suite ec dc na offL offF
    refine store_ok (X := X.suite a ((a, oc) :: (X.pn ++ pins))) (v := .ref a) Sc hN hi (.inl hln) rfl (fun s5 S5 => ?_) (.inr hln)
    refine wpAny_mono ((hsu a oc cls (X.pn ++ pins)).run [] s5 _ H1 _ S5 (hyes a na I1.len)) (fun f s6 hsp => ?_) (fun _ _ z => False.elim z)
    cases f with
    | next =>
      obtain ⟨σ6, H6, S6, q6⟩ := hsp
      exact gone_ok (held_on S6 ok zc dc new0 offP) hN hi hln fun s7 I7 => ⟨_, _, I7, q6⟩
    | brk => obtain ⟨_, _, _, q6⟩ := hsp; exact q6.elim
    | cont => obtain ⟨_, _, _, q6⟩ := hsp; exact q6.elim
    | ret u => obtain ⟨_, _, _, _, _, q6⟩ := hsp; exact q6.elim
  · cases f with
    | next =>
      obtain ⟨σ6, H6, I6, q6⟩ := hsp
      exact wpAny_execs_nil ⟨σ6, H6, Inv.ofTry I6 ok, q6⟩
    | brk =>
      obtain ⟨σ6, H6, I6, q6⟩ := hsp
      exact ⟨σ6, H6, Inv.ofTry I6 ok, q6⟩
    | cont =>
      obtain ⟨σ6, H6, I6, q6⟩ := hsp
      exact ⟨σ6, H6, Inv.ofTry I6 ok, q6⟩
    | ret u =>
      obtain ⟨v6, σ6, H6, I6, r6, q6⟩ := hsp
      exact ⟨v6, σ6, H6, Inv.ofTry I6 ok, r6, q6⟩
end
end DL
namespace DL
open PySem PySem.Spec PyProof.Rows L2
/-! ### isinstance of an exception that is held -/
def rIsH (K : PySem.W.Frag) : List V → Hp → VK → Prop := fun xs H Q => ∃ (a D : Addr) (c : V) (cv : Value) (b : Bool), xs = [.ref a, c] ∧ H a = some (ExH (.ref D) a) ∧ ExcC K D ∧ (∀ u, RelV c u → u = cv) ∧ PySem.W.kitOne K (.ref D) cv = some b ∧ Q (.bl b) H
theorem call_isH {X : Cx} : CallR X (.builtin "isinstance") (rIsH X.K) := by
  intro pins s σ H xs us Q I r h
  obtain ⟨a, D, c, cv, b, rfl, ea, C, hcv, e, q⟩ := h
  cases r with
  | cons rx rr =>
    cases rr with
    | cons rt rr =>
      cases rr
      cases rx
      have ec := hcv _ rt
      subst ec
      obtain ⟨⟨oe, vs, g, z, d⟩, _⟩ := I.hok a _ ea
      have J : PySem.W.InstAt s.heap a oe D none := by
        obtain ⟨oc, od, oda, osl⟩ := oe
        obtain ⟨h1, h2⟩ := z
        dsimp only at h1 h2 d
        subst h1 h2 d
        exact ⟨g, rfl, rfl, trivial⟩
      exact PySem.W.kia_one (PySem.W.handS_kitx_exc C.hg C.hk C.hs C.hd C.ha C.hn C.ht C.hm) I.kIn J e (fun z => nomatch z) fun tk => ⟨.bl b, H, I.kept (t' := tk) fun _ _ z => z, rfl, q⟩
/-! ### the own errors, and what a law's helper calls them -/
def exNames : List (Str × Str) := [("InvalidSign", "one"), ("InvalidHand", "hand"), ("InvalidSigns", "all"), ("InvalidRow", "line"), ("InvalidStyle", "way"), ("InvalidView", "things"), ("InvalidGlances", "glances"), ("InvalidPlace", "place"),
  ("InvalidNumber", "number"), ("InvalidText", "text"), ("TooLong", "long"), ("NothingToUndo", "undo")]
def excCB (K : PySem.W.Frag) (D : Addr) : Bool :=
  decide (PySem.W.findIn K (.ref D) "__getattribute__" = some (some (.builtin "BaseException.__getattribute__"))) && (decide (PySem.W.findIn K (.ref D) "__getattr__" = some none) && (decide (PySem.W.subIn K (.ref D) (.type "BaseException") = some true) &&
  (PySem.W.hasDictIn K D && (decide (PySem.W.findIn K (.ref D) "__class__" = some (some (.builtin "object.__class__"))) && (decide (PySem.W.specialIn K (.builtin "object.__class__") "__get__" = some (some (.builtin "getset_descriptor.__get__"))) &&
  (decide (PySem.W.takesIn K (.builtin "object.__class__") = some true) && decide (PySem.W.mroIn K D (.type "object") = some true)))))))
theorem excCB_ok {K : PySem.W.Frag} {D : Addr} (h : excCB K D = true) : ExcC K D := by
  unfold excCB at h
  simp only [Bool.and_eq_true, decide_eq_true_eq] at h
  obtain ⟨h1, h2, h3, h4, h5, h6, h7, h8⟩ := h
  exact ⟨h1, h2, h3, h4, h5, h6, h7, h8⟩
def exB (K : PySem.W.Frag) : Bool := exNames.all fun p => excCB K (He.ga K p.1) && (exNames.all (fun r => decide (PySem.W.kitOne K (.ref (He.ga K p.1)) (.ref (He.ga K r.1)) = some (decide (p.1 = r.1)))) &&
  (decide (PySem.W.kitOne K (.ref (He.ga K p.1)) (.type "ValueError") = some true) && decide (PySem.W.exmOne K (.ref (He.ga K p.1)) (.ref (He.ga K "HandError")) = some true)))
structure ExF (K : PySem.W.Frag) : Prop where
  c : ∀ p ∈ exNames, ExcC K (He.ga K p.1)
  m : ∀ p ∈ exNames, ∀ r ∈ exNames, PySem.W.kitOne K (.ref (He.ga K p.1)) (.ref (He.ga K r.1)) = some (decide (p.1 = r.1))
  v : ∀ p ∈ exNames, PySem.W.kitOne K (.ref (He.ga K p.1)) (.type "ValueError") = some true
  h : ∀ p ∈ exNames, PySem.W.exmOne K (.ref (He.ga K p.1)) (.ref (He.ga K "HandError")) = some true
theorem exF_of {K : PySem.W.Frag} (h : exB K = true) : ExF K := by
  have key : ∀ p ∈ exNames, _ := fun p hp => List.all_eq_true.mp h p hp
  refine ⟨fun p hp => ?_, fun p hp r hr => ?_, fun p hp => ?_, fun p hp => ?_⟩
  all_goals
    have k := key p hp
    simp only [Bool.and_eq_true, decide_eq_true_eq] at k
    obtain ⟨k1, k2, k3, k4⟩ := k
  · exact excCB_ok k1
  · exact of_decide_eq_true (List.all_eq_true.mp k2 r hr)
  · exact k3
  · exact k4
/-! ### the readings of the helper's statements: slot 1 the exception, 2 the answer, 3 e, 4 the dict, 5 the names, 6 a name -/
section
variable {K : PySem.W.Frag} {σ : St} {H H0 : Hp} {Q : VK} {D : Ends} {a d : Addr} {nm : Str} {kvs : List (Key × V)}
def tIs (K : PySem.W.Frag) (x : Str) : TE := tCB (rIsH K) (tCons (tVar 1) (tCons (tC (.ref (He.ga K x))) tNil))
def tD2 (K : PySem.W.Frag) (k x l y : Str) : TE := tDisp [(tC (.str k), tIs K x), (tC (.str l), tIs K y)]
def tUp (K : PySem.W.Frag) (k x l y : Str) : TS := tDrop (tBM K "dict" rUpd (tVar 4) (tCons (tD2 K k x l y) tNil))
theorem is_run (F : ExF K) {p r : Str × Str} (hp : p ∈ exNames) (hr : r ∈ exNames) (h1 : σ[1]? = some (some (.ref a))) (ea : H a = some (ExH (.ref (He.ga K p.1)) a)) (q : Q (.bl (decide (p.1 = r.1))) H) : tIs K r.1 σ H Q :=
  ⟨.ref a, h1, a, He.ga K p.1, .ref (He.ga K r.1), .ref (He.ga K r.1), _, rfl, ea, F.c p hp, fun u h => h, F.m p hp r hr, q⟩
theorem merge2 {k l : Str} {v w : V} (h : k ≠ l) : mergeK [] [((.inr k : Key), v), (.inr l, w)] = [(.inr k, v), (.inr l, w)] := by
  have e : ¬ ((.inr l : Key) = .inr k) := fun z => h (Sum.inr.inj z).symm
  have e' : ¬ ((.inr k : Key) = .inr l) := fun z => h (Sum.inr.inj z)
  simp [mergeK, putK, e']
theorem d2_run (F : ExF K) {p r t : Str × Str} (hp : p ∈ exNames) (hr : r ∈ exNames) (ht : t ∈ exNames) (hk : r.2 ≠ t.2) (h1 : σ[1]? = some (some (.ref a))) (ea : H a = some (ExH (.ref (He.ga K p.1)) a))
    (q : ∀ u, H u = none → Q (.ref u) (upd H u (.dK [(.inr r.2, .bl (decide (p.1 = r.1))), (.inr t.2, .bl (decide (p.1 = t.1)))]))) : tD2 K r.2 r.1 t.2 t.1 σ H Q := by
  intro u nu
  have ne : a ≠ u := fun z => by rw [z, nu] at ea; cases ea
  have ea' : upd H u (.dK []) a = some (ExH (.ref (He.ga K p.1)) a) := by rw [upd_ne ne]; exact ea
  refine is_run F hp hr h1 ea' (is_run F hp ht h1 ea' ?_)
  refine ⟨upd_same, [(.inr r.2, .bl (decide (p.1 = r.1))), (.inr t.2, .bl (decide (p.1 = t.1)))], rfl, by show 2 ≤ 15; decide, ?_⟩
  rw [merge2 hk, upd_upd]
  exact q u nu
/-- behind the catch: H0 stood then -/
structure Sx (K : PySem.W.Frag) (H0 : Hp) (a d : Addr) (nm : Str) (kvs : List (Key × V)) (H : Hp) : Prop where
  kp : ∀ b o, H0 b = some o → H b = some o
  ea : H a = some (ExH (.ref (He.ga K nm)) a)
  ed : H d = some (.dK kvs)
  nd : H0 d = none
  ne : a ≠ d
theorem up_run (F : ExF K) {p r t : Str × Str} (hp : p ∈ exNames) (hr : r ∈ exNames) (ht : t ∈ exNames) (hk : r.2 ≠ t.2) (h1 : σ[1]? = some (some (.ref a))) (h4 : σ[4]? = some (some (.ref d))) (S : Sx K H0 a d p.1 kvs H) (hl : kvs.length ≤ 12)
    (q : ∀ H', Sx K H0 a d p.1 (mergeK kvs [(.inr r.2, .bl (decide (p.1 = r.1))), (.inr t.2, .bl (decide (p.1 = t.1)))]) H' → D.nx σ H') : tUp K r.2 r.1 t.2 t.1 D σ H := by
  refine ⟨.ref d, h4, ?_, ?_⟩
  · exact .inr (.inr (.inl ⟨rfl, .inl ⟨kvs, S.ed⟩⟩))
  refine d2_run F hp hr ht hk h1 S.ea fun u nu => ?_
  have n1 : a ≠ u := fun z => by have := S.ea; rw [z, nu] at this; cases this
  have n2 : d ≠ u := fun z => by have := S.ed; rw [z, nu] at this; cases this
  have n3 : ∀ b o, H0 b = some o → b ≠ u := fun b o e z => by have := S.kp b o e; rw [z, nu] at this; cases this
  have n4 : ∀ b o, H0 b = some o → b ≠ d := fun b o e z => by rw [z, S.nd] at e; cases e
  refine ⟨d, u, kvs, _, rfl, rfl, by rw [upd_ne n2]; exact S.ed, upd_same, n2, ?_, q _ ⟨fun b o e => ?_, ?_, upd_same, S.nd, S.ne⟩⟩
  · exact Nat.le_trans (show kvs.length + 2 ≤ 14 by omega) (by decide)
  · rw [upd_ne (n4 b o e), upd_ne (n3 b o e)]; exact S.kp b o e
  · rw [upd_ne S.ne, upd_ne n1]; exact S.ea
/-- the whole dict -/
def allK (nm : Str) : List (Key × V) := exNames.map fun r => (.inr r.2, .bl (decide (nm = r.1)))
theorem allK_val (nm : Str) : ∀ r ∈ exNames, valV (allK nm) (.inr r.2) = some (.bl (decide (nm = r.1))) := by
  intro r hr
  simp only [exNames, List.mem_cons, List.not_mem_nil, or_false] at hr
  rcases hr with rfl | rfl | rfl | rfl | rfl | rfl | rfl | rfl | rfl | rfl | rfl | rfl <;> rfl
theorem all_one : ∀ p ∈ exNames, ((exNames.filter fun r => decide (p.1 = r.1)).map fun r => V.str r.2) = [.str p.2] := by
  intro r hr
  simp only [exNames, List.mem_cons, List.not_mem_nil, or_false] at hr
  rcases hr with rfl | rfl | rfl | rfl | rfl | rfl | rfl | rfl | rfl | rfl | rfl | rfl <;> rfl
def tNames : TS := tLock (tAsg (tLc (iKeys (tVar 4)) (gName 6) (tB (tDGet (tVar 4) (tVar 6))) (tVar 6) [6]) (gName 5))
theorem names_run {p : Str × Str} (hp : p ∈ exNames) (h4 : σ[4]? = some (some (.ref d))) (l6 : 6 < σ.length) (S : Sx K H0 a d p.1 (allK p.1) H)
    (q : ∀ L H', (∀ b o, H0 b = some o → H' b = some o) → H' a = some (ExH (.ref (He.ga K p.1)) a) → H' L = some (.lst [.str p.2]) → D.nx (σ.set 5 (some (.ref L))) H') : tNames D σ H := by
  refine ⟨d, .dK (allK p.1), S.ed, trivial, fun od => ?_⟩
  refine ⟨.ref d, h4, d, od, rfl, .inl ⟨allK p.1, upd_same, fun L nL => ?_⟩⟩
  have nLd : L ≠ d := fun z => by rw [z, upd_same] at nL; cases nL
  have nL0 : H L = none := by rw [upd_ne nLd] at nL; exact nL
  have nLa : L ≠ a := fun z => by have := S.ea; rw [← z, nL0] at this; cases this
  have n3 : ∀ b o, H0 b = some o → b ≠ L := fun b o e z => by have := S.kp b o e; rw [z, nL0] at this; cases this
  have n4 : ∀ b o, H0 b = some o → b ≠ d := fun b o e z => by rw [z, S.nd] at e; cases e
  have hlen : (allK p.1).length = exNames.length := by unfold allK; rw [List.length_map]
  refine lc_it walk_keys (fun i H' => H' d = some (.frz od (.dK (allK p.1))) ∧ H' L = some (.lst ((((exNames.take i).filter fun r => decide (p.1 = r.1)).map fun r => V.str r.2))) ∧ (∀ b o, H0 b = some o → H' b = some o) ∧ H' a = some (ExH (.ref (He.ga K p.1)) a)) ?_ ?_ ?_ ?_
  · refine ⟨by rw [upd_ne (Ne.symm nLd), upd_same], upd_same, fun b o e => by rw [upd_ne (n3 b o e), upd_ne (n4 b o e)]; exact S.kp b o e, ?_⟩
    rw [upd_ne (Ne.symm nLa), upd_ne S.ne]; exact S.ea
  · exact fun i H' _ h => h.1
  · rintro i x H1 H2 hi ⟨g1, g2, g3, g4⟩ ⟨rfl, k, v, hk, rfl⟩
    obtain ⟨r, hr⟩ : ∃ r, exNames[i]? = some r := ⟨exNames[i]'(by omega), List.getElem?_eq_getElem (by omega)⟩
    have hkv : (k, v) = ((.inr r.2 : Key), V.bl (decide (p.1 = r.1))) := by
      unfold allK at hk
      rw [List.getElem?_map, hr] at hk
      exact (Option.some.inj hk).symm
    cases hkv
    have hm : r ∈ exNames := List.mem_of_getElem? hr
    have take1 : exNames.take (i + 1) = exNames.take i ++ [r] := by
      obtain ⟨e1, e2⟩ := List.getElem?_eq_some_iff.mp hr
      rw [List.take_succ, hr]; rfl
    have w4 : ((wipe σ [6]).set 6 (some (V.str r.2)))[4]? = some (some (.ref d)) := by
      show ((σ.set 6 none).set 6 (some (V.str r.2)))[4]? = _
      rw [List.getElem?_set_ne (by decide), List.getElem?_set_ne (by decide)]; exact h4
    have w6 : ((wipe σ [6]).set 6 (some (V.str r.2)))[6]? = some (some (V.str r.2)) := by
      show ((σ.set 6 none).set 6 (some (V.str r.2)))[6]? = _
      rw [List.getElem?_set_self (by rw [List.length_set]; exact l6)]
    refine ⟨?_, .ref d, w4, .str r.2, w6, d, .bl (decide (p.1 = r.1)), rfl, .inl ⟨allK p.1, .inr r.2, .inr ⟨od, g1⟩, rfl, (allK_val p.1 r hm).symm⟩, decide (p.1 = r.1), rfl, ?_⟩
    · show (((σ.set 6 none).set 6 (some (V.str r.2))).set 6 none) = σ.set 6 none
      rw [List.set_set, List.set_set]
    cases hb : decide (p.1 = r.1) with
    | true =>
      rw [if_pos rfl]
      refine ⟨.str r.2, w6, _, g2, ?_, ?_⟩
      · rw [List.length_map]
        have l1 := List.length_filter_le (fun r : Str × Str => decide (p.1 = r.1)) (exNames.take i)
        have l2 : (exNames.take i).length ≤ 12 := by rw [List.length_take]; exact Nat.le_trans (Nat.min_le_right _ _) (by decide)
        exact Nat.lt_of_le_of_lt (Nat.le_trans l1 l2) (by decide)
      · refine ⟨by rw [upd_ne (Ne.symm nLd)]; exact g1, ?_, fun b o e => by rw [upd_ne (n3 b o e)]; exact g3 b o e, by rw [upd_ne (Ne.symm nLa)]; exact g4⟩
        rw [upd_same, take1, List.filter_append, List.map_append]
        simp only [List.filter_cons, hb, if_true, List.filter_nil, List.map_cons, List.map_nil]
    | false =>
      rw [if_neg (by decide)]
      refine ⟨g1, ?_, g3, g4⟩
      rw [g2, take1, List.filter_append, List.map_append]
      simp [List.filter_cons, hb]
  · rintro H' ⟨g1, g2, g3, g4⟩
    rw [hlen, List.take_length, all_one p hp] at g2
    refine ⟨g1, q L _ (fun b o e => by rw [upd_ne (n4 b o e)]; exact g3 b o e) (by rw [upd_ne S.ne]; exact g4) (by rw [upd_ne nLd]; exact g2)⟩
def lenR (K : PySem.W.Frag) : List V → Hp → VK → Prop := fun xs H Q => ∃ x n, xs = [x] ∧ LenV K x H n ∧ Q (.int n) H
def tFin (K : PySem.W.Frag) : TS := tRet (tIf (tAnd (tTest (tOp (rEqD K) (tCB (lenR K) (tCons (tVar 5) tNil)) (tC (.int 1)))) (tB (tCB (rIsH K) (tCons (tVar 1) (tCons (tC (.ty "ValueError")) tNil)))))
  (tTup (tCons (tOp (rIx K) (tVar 5) (tC (.int 0))) tNil)) (tTup (tCons (tC (.str "other error")) tNil)))
theorem fin_run (F : ExF K) {p : Str × Str} (hp : p ∈ exNames) {L : Addr} (h1 : σ[1]? = some (some (.ref a))) (h5 : σ[5]? = some (some (.ref L))) (ea : H a = some (ExH (.ref (He.ga K p.1)) a)) (eL : H L = some (.lst [.str p.2]))
    (q : ∀ u, H u = none → D.rt (.ref u) (upd H u (.tup [.str p.2]))) : tFin K D σ H := by
  refine ⟨.ref L, h5, .ref L, 1, rfl, .inl ⟨_, .inl (.inl eL), rfl⟩, .int 1, .int 1, .int _, .int _, by decide +kernel, by decide +kernel, true, rfl, ?_⟩
  dsimp only
  rw [if_pos rfl]
  refine ⟨.ref a, h1, a, He.ga K p.1, .ty "ValueError", .type "ValueError", true, rfl, ea, F.c p hp, fun u h => h, F.v p hp, true, rfl, ?_⟩
  dsimp only
  rw [if_pos rfl]
  refine ⟨.ref L, h5, .inl ⟨L, _, 0, .str p.2, rfl, rfl, .inl (.inl eL), rfl, (show 1 ≤ sizeLine by decide), fun u nu => q u nu⟩⟩
/-- what the helper makes of the call that it got -/
def EchR (K : PySem.W.Frag) (Q : VK) : XK := fun cls d H' => d = none ∧ ∃ p ∈ exNames, cls = .ref (He.ga K p.1) ∧ ∀ H'' u, (∀ b o, H' b = some o → H'' b = some o) → H' u = none → H'' u = some (.tup [.str p.2]) → Q (.ref u) H''
def TTres (K : PySem.W.Frag) : (XK → Hp → VK → Prop) → Hp → VK → Prop := fun tl H Q => ∀ (E' : XK) (Q' : VK) (H1 : Hp), (∀ b o, H b = some o → H1 b = some o) → (∀ cls d H', EchR K Q cls d H' → E' cls d H') → (∀ v H', (∀ u, H' u = none → Q (.ref u) (upd H' u (.tup [.str "returns", v]))) → Q' v H') → tl E' H1 Q'
def tTryB (f c' : Addr) (q : Str) (tl : XK → Hp → VK → Prop) : WX → TS := fun W D σ H => ∃ Ech : XK, (∀ cls d σ' H', Ech cls d H' → W cls d σ' H') ∧ σ[0]? = some (some (.ref f)) ∧ H c' = some (LamX.CodeO c' q) ∧ tl Ech H fun v H' => D.nx (σ.set 2 (some v)) H'
def tRest (K : PySem.W.Frag) : TS := tSeq (tIfS (tTest (tOp (fun x y H Q => y = .non ∧ Q (.bl (decide (x = .non))) H) (tVar 1) (tC .non))) (tRet (tTup (tCons (tC (.str "returns")) (tCons (tVar 2) tNil)))) tNext)
  (tSeq (tAsg (tD2 K "one" "InvalidSign" "hand" "InvalidHand") (gName 4)) (tSeq (tUp K "all" "InvalidSigns" "line" "InvalidRow") (tSeq (tUp K "way" "InvalidStyle" "things" "InvalidView") (tSeq (tUp K "glances" "InvalidGlances" "place" "InvalidPlace")
  (tSeq (tUp K "number" "InvalidNumber" "text" "InvalidText") (tSeq (tUp K "long" "TooLong" "undo" "NothingToUndo") (tSeq tNames (tFin K))))))))
def tRes (K : PySem.W.Frag) (f c' : Addr) (q : Str) (tl : XK → Hp → VK → Prop) : TS := tSeq (tAsg (tTup (tCons (tC .non) (tCons (tC .non) tNil))) (gTup K 2 (gCons (gName 1) (gCons (gName 2) gNil))))
  (tSeq (fun D σ H => tTryB f c' q tl (wKeep K 7 (.ref (He.ga K "HandError")) 3 (fun _ _ => tAsg (tVar 3) (gName 1)) D) D σ H) (tRest K))
theorem in_one : (("InvalidSign" : Str), ("one" : Str)) ∈ exNames := List.mem_of_getElem? (i := 0) rfl
theorem in_hand : (("InvalidHand" : Str), ("hand" : Str)) ∈ exNames := List.mem_of_getElem? (i := 1) rfl
theorem in_all : (("InvalidSigns" : Str), ("all" : Str)) ∈ exNames := List.mem_of_getElem? (i := 2) rfl
theorem in_line : (("InvalidRow" : Str), ("line" : Str)) ∈ exNames := List.mem_of_getElem? (i := 3) rfl
theorem in_way : (("InvalidStyle" : Str), ("way" : Str)) ∈ exNames := List.mem_of_getElem? (i := 4) rfl
theorem in_things : (("InvalidView" : Str), ("things" : Str)) ∈ exNames := List.mem_of_getElem? (i := 5) rfl
theorem in_glances : (("InvalidGlances" : Str), ("glances" : Str)) ∈ exNames := List.mem_of_getElem? (i := 6) rfl
theorem in_place : (("InvalidPlace" : Str), ("place" : Str)) ∈ exNames := List.mem_of_getElem? (i := 7) rfl
theorem in_number : (("InvalidNumber" : Str), ("number" : Str)) ∈ exNames := List.mem_of_getElem? (i := 8) rfl
theorem in_text : (("InvalidText" : Str), ("text" : Str)) ∈ exNames := List.mem_of_getElem? (i := 9) rfl
theorem in_long : (("TooLong" : Str), ("long" : Str)) ∈ exNames := List.mem_of_getElem? (i := 10) rfl
theorem in_undo : (("NothingToUndo" : Str), ("undo" : Str)) ∈ exNames := List.mem_of_getElem? (i := 11) rfl
def kT (nm : Str) (i : Nat) : List (Key × V) := (exNames.take i).map fun r => (.inr r.2, .bl (decide (nm = r.1)))
theorem kT_keys (nm : Str) (i : Nat) : (kT nm i).map (·.1) = (exNames.take i).map fun r => (.inr r.2 : Key) := by unfold kT; rw [List.map_map]; rfl
theorem kT_step (nm : Str) (i : Nat) (more : List (Key × V)) (h : kT nm (i + 2) = kT nm i ++ more) : mergeK (kT nm i) more = kT nm (i + 2) := by
  rw [h]
  refine merge_acc more (kT nm i) ?_
  rw [← h, kT_keys]
  have e : (exNames.map fun r => (.inr r.2 : Key)).Nodup := by decide +kernel
  rw [List.map_take]
  exact e.sublist (List.take_sublist _ _)
theorem allK_eq (nm : Str) : mergeK (mergeK (mergeK (mergeK (mergeK ([((.inr "one" : Key), V.bl (decide (nm = "InvalidSign"))), ((.inr "hand" : Key), V.bl (decide (nm = "InvalidHand")))]) [((.inr "all" : Key), V.bl (decide (nm = "InvalidSigns"))), ((.inr "line" : Key), V.bl (decide (nm = "InvalidRow")))]) [((.inr "way" : Key), V.bl (decide (nm = "InvalidStyle"))), ((.inr "things" : Key), V.bl (decide (nm = "InvalidView")))]) [((.inr "glances" : Key), V.bl (decide (nm = "InvalidGlances"))), ((.inr "place" : Key), V.bl (decide (nm = "InvalidPlace")))]) [((.inr "number" : Key), V.bl (decide (nm = "InvalidNumber"))), ((.inr "text" : Key), V.bl (decide (nm = "InvalidText")))]) [((.inr "long" : Key), V.bl (decide (nm = "TooLong"))), ((.inr "undo" : Key), V.bl (decide (nm = "NothingToUndo")))] = allK nm := by
  have e0 : [((.inr "one" : Key), V.bl (decide (nm = "InvalidSign"))), ((.inr "hand" : Key), V.bl (decide (nm = "InvalidHand")))] = kT nm 2 := rfl
  rw [e0]
  rw [kT_step nm 2 [((.inr "all" : Key), V.bl (decide (nm = "InvalidSigns"))), ((.inr "line" : Key), V.bl (decide (nm = "InvalidRow")))] rfl]
  rw [kT_step nm 4 [((.inr "way" : Key), V.bl (decide (nm = "InvalidStyle"))), ((.inr "things" : Key), V.bl (decide (nm = "InvalidView")))] rfl]
  rw [kT_step nm 6 [((.inr "glances" : Key), V.bl (decide (nm = "InvalidGlances"))), ((.inr "place" : Key), V.bl (decide (nm = "InvalidPlace")))] rfl]
  rw [kT_step nm 8 [((.inr "number" : Key), V.bl (decide (nm = "InvalidNumber"))), ((.inr "text" : Key), V.bl (decide (nm = "InvalidText")))] rfl]
  rw [kT_step nm 10 [((.inr "long" : Key), V.bl (decide (nm = "TooLong"))), ((.inr "undo" : Key), V.bl (decide (nm = "NothingToUndo")))] rfl]
  rfl
theorem tail_run (F : ExF K) {p : Str × Str} (hp : p ∈ exNames) (Q : VK) {H' : Hp} (na : H' a = none) (hQ : ∀ H'' u, (∀ b o, H' b = some o → H'' b = some o) → H' u = none → H'' u = some (.tup [.str p.2]) → Q (.ref u) H'') (l : σ.length = 7) (h1 : σ[1]? = some (some (.ref a))) :
    tRest K { nx := fun _ H' => Q .non H', rt := Q } σ (upd H' a (ExH (.ref (He.ga K p.1)) a)) := by
  refine ⟨.ref a, h1, rfl, false, rfl, ?_⟩
  dsimp only
  rw [if_neg (by decide)]
  have ea : upd H' a (ExH (.ref (He.ga K p.1)) a) a = some (ExH (.ref (He.ga K p.1)) a) := upd_same
  simp only [tNext, tSeq, tAsg]
  refine d2_run F (r := ("InvalidSign", "one")) (t := ("InvalidHand", "hand")) hp in_one in_hand (by decide +kernel) h1 ea fun d nd => ?_
  have nad : a ≠ d := fun z => by rw [← z, upd_same] at nd; cases nd
  have nd0 : H' d = none := by rw [upd_ne (Ne.symm nad)] at nd; exact nd
  have S0 : Sx K H' a d p.1 [((.inr "one" : Key), .bl (decide (p.1 = "InvalidSign"))), (.inr "hand", .bl (decide (p.1 = "InvalidHand")))] (upd (upd H' a (ExH (.ref (He.ga K p.1)) a)) d (.dK [((.inr "one" : Key), .bl (decide (p.1 = "InvalidSign"))), (.inr "hand", .bl (decide (p.1 = "InvalidHand")))])) :=
    ⟨fun b o e => by rw [upd_ne (fun z => by rw [z, nd0] at e; cases e), upd_ne (fun z => by rw [z, na] at e; cases e)]; exact e, by rw [upd_ne nad]; exact upd_same, upd_same, nd0, nad⟩
  have g1 : (σ.set 4 (some (.ref d)))[1]? = some (some (.ref a)) := by rw [List.getElem?_set_ne (by decide)]; exact h1
  have g4 : (σ.set 4 (some (.ref d)))[4]? = some (some (.ref d)) := by rw [List.getElem?_set_self (by omega)]
  refine up_run F (r := ("InvalidSigns", "all")) (t := ("InvalidRow", "line")) hp in_all in_line (by decide +kernel) g1 g4 S0 (by simp) fun H1 S1 => ?_
  have L1 := length_mergeK [((.inr "all" : Key), V.bl (decide (p.1 = "InvalidSigns"))), (.inr "line", .bl (decide (p.1 = "InvalidRow")))] [((.inr "one" : Key), .bl (decide (p.1 = "InvalidSign"))), (.inr "hand", .bl (decide (p.1 = "InvalidHand")))]
  refine up_run F (r := ("InvalidStyle", "way")) (t := ("InvalidView", "things")) hp in_way in_things (by decide +kernel) g1 g4 S1 (Nat.le_trans L1 (by simp)) fun H2 S2 => ?_
  have L2 := Nat.le_trans (length_mergeK [((.inr "way" : Key), V.bl (decide (p.1 = "InvalidStyle"))), (.inr "things", .bl (decide (p.1 = "InvalidView")))] _) (Nat.add_le_add_right L1 2)
  refine up_run F (r := ("InvalidGlances", "glances")) (t := ("InvalidPlace", "place")) hp in_glances in_place (by decide +kernel) g1 g4 S2 (Nat.le_trans L2 (by simp)) fun H3 S3 => ?_
  have L3 := Nat.le_trans (length_mergeK [((.inr "glances" : Key), V.bl (decide (p.1 = "InvalidGlances"))), (.inr "place", .bl (decide (p.1 = "InvalidPlace")))] _) (Nat.add_le_add_right L2 2)
  refine up_run F (r := ("InvalidNumber", "number")) (t := ("InvalidText", "text")) hp in_number in_text (by decide +kernel) g1 g4 S3 (Nat.le_trans L3 (by simp)) fun H4 S4 => ?_
  have L4 := Nat.le_trans (length_mergeK [((.inr "number" : Key), V.bl (decide (p.1 = "InvalidNumber"))), (.inr "text", .bl (decide (p.1 = "InvalidText")))] _) (Nat.add_le_add_right L3 2)
  refine up_run F (r := ("TooLong", "long")) (t := ("NothingToUndo", "undo")) hp in_long in_undo (by decide +kernel) g1 g4 S4 (Nat.le_trans L4 (by simp)) fun H5 S5 => ?_
  have S6 : Sx K H' a d p.1 (allK p.1) H5 := by rw [← allK_eq]; exact S5
  refine names_run hp g4 (by rw [List.length_set]; omega) S6 fun L H6 kp e1 e2 => ?_
  refine fin_run F hp (L := L) ?_ ?_ e1 e2 fun u nu => ?_
  · rw [List.getElem?_set_ne (by decide)]; exact g1
  · rw [List.getElem?_set_self (by rw [List.length_set]; omega)]
  · have nu0 : H' u = none := by
      cases z : H' u with
      | none => rfl
      | some o => rw [kp u o z] at nu; cases nu
    exact hQ _ u (fun b o e => by rw [upd_ne (fun z => by rw [z, nu0] at e; cases e)]; exact kp b o e) nu0 upd_same
theorem res_run (F : ExF K) {f c' : Addr} {q : Str} {tl : XK → Hp → VK → Prop} (hc : H c' = some (LamX.CodeO c' q)) (hT : TTres K tl H Q) :
    tRes K f c' q tl { nx := fun _ H' => Q .non H', rt := Q } [some (.ref f), none, none, none, none, none, none] H := by
  refine ⟨(show 2 ≤ sizeLine by decide), fun p np => ?_⟩
  refine ⟨p, _, rfl, .inl (.inl upd_same), rfl, .non, _, rfl, .non, _, rfl, rfl, ?_⟩
  have ext : ∀ b o, H b = some o → upd H p (.tup [.non, .non]) b = some o := fun b o e => by rw [upd_ne (fun z => by rw [z, np] at e; cases e)]; exact e
  refine ⟨EchR K Q, fun cls d σ' H' ⟨hd, p, hp, hcls, hq⟩ => ?_, rfl, ext _ _ hc, hT _ _ _ ext (fun _ _ _ h => h) fun v H' hq => ?_⟩
  · refine ⟨hd, by rw [hcls]; exact F.h p hp, fun a na hl => ?_⟩
    refine ⟨.ref a, by rw [List.getElem?_set_self (by omega)], ?_⟩
    rw [hcls]
    refine tail_run F hp Q na hq (by simp only [List.length_set]; exact hl) ?_
    rw [List.getElem?_set_ne (by decide), List.getElem?_set_self (by rw [List.length_set]; omega)]
  · refine ⟨.non, rfl, rfl, true, rfl, ?_⟩
    dsimp only
    rw [if_pos rfl]
    exact ⟨v, rfl, (show 2 ≤ sizeLine by decide), fun u nu => hq u nu⟩
end
end DL
namespace DL
open PySem PySem.Spec PyProof.Rows L2
/-! ### a def whose code object is told -/
theorem dl_fnC {P : Program} {w : World} {K : PySem.W.Frag} {mg : Str → Option Value} {base : Heap} {J : Jd} {x : Str} {params : Arguments} {body : List Stmt} {scope : Scope} {fd : FuncData} {N ps : List Str} {k : Nat} {sd : SpD} {t : DST}
    (F : FunD K x x params body scope [] [] (He.ga K x) fd) (S : FnScope N ps scope) (hlen : ∀ ds P R, sd ds P R → ds.length = ps.length)
    (hb : ∀ (A : Around) (outer : List Env) (s : Shared) (H : Hp) (E : XK), Room k (A.deeper (envOfC x scope s.heap.objs.size (He.ga K x) (.ref (He.codeOf K (x, none))))) →
      DSs J (cxOf (L2.CX P w) P w K mg base N x scope (He.ga K x) (.ref (He.codeOf K (x, none))) A outer s H E) E body t)
    (vc : ∀ ds P R, sd ds P R → t (startR N ds) ⟨fun _ => P .non, P, fun _ => False, fun _ => False, R⟩) : FnOk P w K mg base (L2.CX P w) (k + 1) (He.ga K x) fd ps (Lift ⟨P, w, K⟩ J sd) := by
  obtain ⟨oc, od, dV, kV, doc, pm, an, cdv, ct, osl, rfl, lk, hcd, _, _⟩ := F.ex
  obtain ⟨c, rfl⟩ := He.codeIn_ref hcd
  have hc : He.codeOf K (x, none) = c := He.codeOf_eq (p := (x, none)) lk rfl
  refine fn_of lk hcd S (fun vs H Q E h => ?_) fun A outer s H vs Q E hr h => ?_
  · obtain ⟨O, ds, P, R, dm, _, hv, h, _⟩ := h
    rw [DpA.len hv]; exact hlen ds P R h
  · obtain ⟨O, ds, P, R, dm, tb, hv, h, fin, xx⟩ := h
    rw [← hc] at hr ⊢
    obtain ⟨ts, p, kk⟩ := (hb A outer s H E hr).ex
    refine ⟨ts, p, kk (bsOf J.T O H) O H _ (startR N ds) _ _ (start_rel dm tb hv) ⟨?_, ?_, ?_, ?_, xx⟩ (vc ds P R h)⟩
    · exact fun O' H' σ' ρ' r h' => fin .non H' .non (bsOf_ext r.base) rfl h'
    · exact fun O' H' σ' ρ' r h' => h'.elim
    · exact fun O' H' σ' ρ' r h' => h'.elim
    · exact fun O' v H' d b s hv h' => fin v H' d (bsOf_ext b) (hv.out s) h'
/-! ### x(lambda: e), x the helper that tells answers and errors -/
def ResOk (X : Cx) (x : Str) : Prop := ∃ (g : Addr) (pg : Arguments) (bg : List Stmt) (sg : Scope) (dV kV doc pm cdv ct oc : Value) (an od : Option Addr) (osl : Array (Option Value)) (Ng : List Str) (a : Str),
  X.mg x = some (.ref g) ∧ PySem.W.keepIn X.K (.ref g) = true ∧ X.K.lookup g = some ⟨oc, od, .func (PySem.W.fnOf x x pg bg sg dV kV doc pm an cdv ct), osl⟩ ∧ PySem.W.codeIn X.K cdv x = true ∧
  L2.Binds X.K (PySem.W.fnOf x x pg bg sg dV kV doc pm an cdv ct) [a] [] ∧ FnScope Ng [a] sg ∧ Ng[0]? = some a ∧ Vis sg a ∧ (a == ("__debug__" : Str)) = false ∧ (a == ("__classdict__" : Str)) = false ∧
  (Room 1 X.A → ∀ q, LamX.GivesTo X Ng x sg g cdv bg a q (TTres X.K))
def exCode (nm : Str) : Option Str := exNames.lookup nm
@[simp] theorem exCode_0 : exCode "InvalidSign" = some "one" := rfl
@[simp] theorem exCode_1 : exCode "InvalidHand" = some "hand" := rfl
@[simp] theorem exCode_2 : exCode "InvalidSigns" = some "all" := rfl
@[simp] theorem exCode_3 : exCode "InvalidRow" = some "line" := rfl
@[simp] theorem exCode_4 : exCode "InvalidStyle" = some "way" := rfl
@[simp] theorem exCode_5 : exCode "InvalidView" = some "things" := rfl
@[simp] theorem exCode_6 : exCode "InvalidGlances" = some "glances" := rfl
@[simp] theorem exCode_7 : exCode "InvalidPlace" = some "place" := rfl
@[simp] theorem exCode_8 : exCode "InvalidNumber" = some "number" := rfl
@[simp] theorem exCode_9 : exCode "InvalidText" = some "text" := rfl
@[simp] theorem exCode_10 : exCode "TooLong" = some "long" := rfl
@[simp] theorem exCode_11 : exCode "NothingToUndo" = some "undo" := rfl
theorem lookup_memS {a b : Str} : ∀ {l : List (Str × Str)}, l.lookup a = some b → (a, b) ∈ l
  | [], h => by cases h
  | (x, y) :: r, h => by
    rw [List.lookup_cons] at h
    cases q : (a == x) with
    | true =>
      rw [q] at h
      have e : y = b := Option.some.inj h
      rw [beq_iff_eq.mp q, e]; exact List.mem_cons_self
    | false =>
      rw [q] at h
      exact List.mem_cons_of_mem _ (lookup_memS h)
theorem exCode_mem {nm c : Str} (h : exCode nm = some c) : (nm, c) ∈ exNames := lookup_memS h
/-- own lists are not seen there -/
@[simp] def noOwn : Sl → Sl
  | .own _ => .non
  | s => s
@[simp] def dRes (t : DT) : DT := fun ρ P _ => t (ρ.map noOwn) (fun d => P (.tup [.str "returns", d])) (fun nm => match exCode nm with | some c => P (.tup [.str c]) | none => False)
theorem rel_lam {W : Wd} {T : Tb} {B : Bs} {O : Addr → Prop} {H : Hp} {σ : St} {ρ : Rho} (rl : Rel W T B O H σ ρ) : Rel W T (bsOf T O H) O H σ (ρ.map noOwn) := by
  refine ⟨bsOf_ok rl.base.t, fun _ z => z, fun _ z => .inl z, rl.dom, by rw [List.length_map]; exact rl.len, fun i s hs => ?_, fun i j a h1 h2 => ?_⟩
  · rw [List.getElem?_map] at hs
    cases e : ρ[i]? with
    | none => rw [e] at hs; cases hs
    | some s0 =>
      rw [e] at hs
      have hs : noOwn s0 = s := Option.some.inj hs
      cases s0 with
      | non => rw [← hs]; trivial
      | own _ => rw [← hs]; trivial
      | val d => rw [← hs]; exact rl.sl i _ e
  · obtain ⟨⟨ds, e⟩, _⟩ := h1
    rw [List.getElem?_map] at e
    cases z : ρ[i]? with
    | none => rw [z] at e; cases e
    | some s0 =>
      rw [z] at e
      cases s0 <;> cases e
section
variable {J : Jd} {X : Cx} {E : XK}
theorem de_res {x : Str} {c P : Addr} {k : Nat} {params : Arguments} {body : Expr} {scope : Scope} {t : DT} {p lpos pos : Pos} (hR : ResOk X x) (hJ : ∀ nm, J.ca nm = He.ga X.K nm) (hg : Gl X x)
    (TB : LamX.TabB X.base X.mg c P) (hcode : X.env.code = .ref c) (hmT : (P, X.env.qual ++ "<lambda>") ∈ J.T) (hu : ∀ p ∈ J.T, p.1 = P → p.2 = X.env.qual ++ "<lambda>") (hr : Room (k + 2) X.A) (L : LamX.LamS X.env.scope scope) (hdef : defaultsOf params X.env = ([], []))
    (hbind : ∀ (q : Str) (cl : List (Str × Addr)) (pm cv ctv : Value), bindArgs (PySem.W.kla_fn "<lambda>" q params body scope cl pm cv ctv) ⟨[], []⟩ = pure [])
    (hbody : ∀ (A : Around) (outer : List Env) (s : Shared) (H : Hp) (E : XK) (f c' : Addr), Room k (A.deeper (LamX.lamEnv X scope s.heap.objs.size f c')) → DE J (LamX.lamCx X A outer s H E scope f c') E body t)
    (hdb : (x == ("__debug__" : Str)) = false := by decide) : DE J X E (.Call (.Name x p) [.Lambda params body scope lpos] [] pos) (dRes t) := by
  obtain ⟨g, pg, bg, sg, dV, kV, doc, pm, cdv, ct, oc, an, od, osl, Ng, a, hm, hk, lk, hcg, hb, Sg, hNg, hva, hd, hcd, hG⟩ := hR
  refine ⟨_, LamX.pe_lamcall (T := J.T) (TT := TTres X.K) (t := fun E' => upE (wd X) J E' t) hg hm hk lk hcg hb Sg hNg hva (hG (hr.mono (by omega)) _) TB hcode hmT hu hr L hdef hbind (fun A outer s H E f c' hr' => (hbody A outer s H E f c' hr').up) hdb hd hcd, ?_⟩
  intro B O H σ ρ P R Q rl xx ht fin
  refine ⟨rl.base.t, fun H0 eN T0 E' Q' H1 kp0 hE hQ => ?_⟩
  have x1 : Ext J.T H H1 := Ext.trans (H1 := H0) ⟨eN, fun _ => T0⟩ (.of kp0)
  refine ⟨bsOf J.T O H1, O, ρ.map noOwn, fun d => P (.tup [.str "returns", d]), fun nm => (match exCode nm with | some c => P (.tup [.str c]) | none => False), rel_lam (rl.ext x1), fun nm H' b hp => ?_, ht, fun v H' d x2 hv hp => ?_⟩
  · have hp : (match exCode nm with | some c => P (.tup [.str c]) | none => False) := hp
    cases e : exCode nm with
    | none => rw [e] at hp; exact hp.elim
    | some c =>
      rw [e] at hp
      have hp : P (.tup [.str c]) := hp
      refine hE _ _ _ ⟨rfl, (nm, c), exCode_mem e, by rw [hJ], fun H'' u kp nu hu => ?_⟩
      have x2 : Ext J.T H H' := x1.trans (bsOf_ext b)
      have x3 : Ext J.T H' H'' := .of kp
      have no : ¬ O u := fun z => by
        obtain ⟨xs, e1⟩ := (rl.ext x2).dom u z
        rw [nu] at e1; cases e1
      exact fin _ _ (.tup [.str c]) (x2.trans x3) ⟨u, _, rfl, .inl ⟨no, hu⟩, (show 1 ≤ sizeLine by decide), rfl, trivial⟩ hp
  · refine hQ v H' fun u nu => ?_
    have x3 : Ext J.T H H' := x1.trans x2
    have no : ¬ O u := fun z => by
      obtain ⟨xs, e1⟩ := (rl.ext x3).dom u z
      rw [nu] at e1; cases e1
    have x4 : Ext J.T H' (upd H' u (.tup [.str "returns", v])) := .new nu
    exact fin _ _ (.tup [.str "returns", d]) (x3.trans x4) ⟨u, _, rfl, .inl ⟨no, upd_same⟩, (show 2 ≤ sizeLine by decide), rfl, Dp.ext x4 (fun _ _ _ _ z => z) d v hv, trivial⟩ hp
end
/-! ### in a lambda's body: what a callee lets out, it lets out -/
theorem px_lam {X : Cx} {A : Around} {outer : List Env} {s : Shared} {H : Hp} {E : XK} {scope : Scope} {f c' : Addr} : Passes (L2.CX (LamX.lamCx X A outer s H E scope f c').prog (LamX.lamCx X A outer s H E scope f c').w) (LamX.lamCx X A outer s H E scope f c') E :=
  passes_call (takes_of (X := LamX.lamCx X A outer s H E scope f c') rfl rfl rfl rfl) fun _ _ _ _ h => h
end DL
namespace DL
open PySem PySem.Spec PyProof.Rows L2
/-! ### the tables of the defs that hold lambdas -/
def jdT (tf : List He.Defn) (K : PySem.W.Frag) : Jd := ⟨tf.map fun d => ((He.cT K d).2, d.1 ++ ".<locals>." ++ "<lambda>"), fun nm => He.ga K nm⟩
theorem nodup_inj {α β : Type} {f : α → β} : ∀ {l : List α}, (l.map f).Nodup → ∀ a ∈ l, ∀ b ∈ l, f a = f b → a = b
  | [], _, a, ha, _, _, _ => by cases ha
  | x :: l, h, a, ha, b, hb, e => by
    rw [List.map_cons, List.nodup_cons] at h
    rcases List.mem_cons.mp ha with h1 | h1
    · rcases List.mem_cons.mp hb with h2 | h2
      · rw [h1, h2]
      · exact absurd (by rw [← h1, e]; exact List.mem_map_of_mem h2) h.1
    · rcases List.mem_cons.mp hb with h2 | h2
      · exact absurd (by rw [← h2, ← e]; exact List.mem_map_of_mem h1) h.1
      · exact nodup_inj h.2 a h1 b h2 e
theorem jT_uniq {tf : List He.Defn} {K : PySem.W.Frag} {d : He.Defn} (h : (tf.map fun d => (He.cT K d).2).Nodup) (hd : d ∈ tf) : ∀ p ∈ (jdT tf K).T, p.1 = (He.cT K d).2 → p.2 = d.1 ++ ".<locals>." ++ "<lambda>" := fun p hp e => by
  obtain ⟨d', hd', rfl⟩ := List.mem_map.mp hp
  have : d' = d := nodup_inj h d' hd' d hd e
  rw [this]
theorem jT_tabs {tf : List He.Defn} {K : PySem.W.Frag} {H : Hp} (h : ∀ p ∈ tf.map (He.cT K), H p.2 = some (.tbl #[])) : LamX.Tabs (jdT tf K).T H := fun p hp => by
  obtain ⟨d, hd, rfl⟩ := List.mem_map.mp hp
  exact LamX.TabS.nil (h _ (List.mem_map_of_mem hd))
end DL
namespace DL
open PySem PySem.Spec PyProof.Rows L2
section
variable {J : Jd} {X : Cx} {E : XK} {e a b c tg : Expr} {es tgs : List Expr} {t ta tb tc : DT} {tA tB ti : DTA} {q q' : DTQ} {pos : Pos}
/-! ### list * int, tuple * int -/
theorem DpA.rep {W : Wd} {O : Addr → Prop} {H : Hp} {xs : List V} {ds : List D} (h : DpA W O H xs ds) : ∀ k : Nat, DpA W O H (List.replicate k xs).flatten (List.replicate k ds).flatten
  | 0 => trivial
  | k + 1 => by
    rw [List.replicate_succ, List.replicate_succ, List.flatten_cons, List.flatten_cons]
    exact h.append (DpA.rep h k)
theorem rep_len {α : Type} (xs : List α) (k : Nat) : (List.replicate k xs).flatten.length = k * xs.length := by
  induction k with
  | zero => simp
  | succ k ih => rw [List.replicate_succ, List.flatten_cons, List.length_append, ih, Nat.succ_mul]; omega
@[simp] def fRep : D2 := fun x y P => match x, y with
  | .lst ds, .int k => (0 ≤ k ∧ k ≤ 1000000) ∧ ds.length * k.toNat ≤ sizeLine ∧ P (.lst (List.replicate k.toNat ds).flatten)
  | _, _ => False
theorem so_rep : SO J X rRep fRep := fun O0 O H x y dx dy P Q dm hx hy h fin => by
  cases dx with
  | lst ds =>
    cases dy with
    | int k =>
      obtain ⟨a, xs, rfl, t1, n1, r1⟩ := hx.lst
      refine ⟨a, k, xs, rfl, hy.int, t1, by have := h.1; omega, by have := h.1; omega, by rw [DpA.len r1]; exact h.2.1, fun p np => ?_⟩
      have x1 : Ext J.T H (upd H p (.lst (List.replicate k.toNat xs).flatten)) := .new np
      refine fin _ _ (.lst _) x1 ⟨p, _, rfl, dm.free np, upd_same, ?_, DpA.ext x1 (fun _ _ _ _ z => z) _ _ (DpA.rep r1 _)⟩ h.2.2
      rw [rep_len, Nat.mul_comm]; exact h.2.1
    | _ => exact h.elim
  | _ => exact h.elim
theorem tuple_mul1 (l : Addr) (items : Array Value) (n : Nat) (dd : Option Addr) (sl : Array (Option Value)) (u : Tok) :
    Meets (Builtin.«tuple.__mul__» ⟨[.ref l, .int 1 u], []⟩) (fun _ R s => s.heap.get? l = some { cls := .type "tuple", dict := dd, data := .seq items n, slots := sl } ∧ R (.ok (.ret (Value.ref l))) s) :=
  .of_wp fun prog w A R s h => by
    obtain ⟨hp, g, d, tk, os⟩ := s
    obtain ⟨hl, h⟩ := h
    have f1 := AutoSeq1.idx_int
    have c0 : (decide ((1 : Int) < -(2 ^ 63)) || decide ((1 : Int) ≥ 2 ^ 63)) = false := by decide
    have c1 : (items.isEmpty || (1 : Int) == 1) = true := by rw [show ((1 : Int) == 1) = true from rfl, Bool.or_true]
    wp_walk using wpAny_loadPart' hl
    repeat (first
      | (refine wpAny_ite_false (decide_eq_false (by rw [c0]; exact Bool.false_ne_true)) ?_; wp_walk using wpAny_loadPart' hl)
      | (refine wpAny_ite_true (decide_eq_true (by rw [c1])) ?_; wp_walk using wpAny_loadPart' hl))
    exact ⟨_, rfl, h⟩
def rRepT1 (K : PySem.W.Frag) : R2 := fun x y H Q => rRepT K x y H Q ∨ ∃ l xs, x = .ref l ∧ y = .int 1 ∧ SqT K H l xs ∧ Q (.ref l) H
theorem op_repT1 : OpR X (binaryOp .Mult) (rRepT1 X.K) := by
  intro pins s σ H x y v u Q I rx ry h
  rcases h with h | ⟨l, xs, rfl, rfl, hT, q⟩
  · exact op_repT pins s σ H x y v u Q I rx ry h
  cases rx
  obtain ⟨t, rfl⟩ := ry
  obtain ⟨its, r, ⟨⟨cls, dd, data, sl⟩, ho, hc, n, hd⟩, hs⟩ := I.tuple hT
  simp only at hc hd
  subst hc hd
  exact wpAny_binaryOp_repeat_ref (T := "tuple") (U := "int") (by decide) ⟨_, ho, rfl⟩ (fun s' => typeIs_int s' 1 t) noFill_tuple_mul F.fills_int_mul F.slot_int_rmul repeat_tuple F.slot_int_index.lookup
    (call_meets F.slot_int_rmul (typeIs_int s 1 t) F.entry_int_rmul (F.args_int_rmul_2 _ _) (int_rmul_tuple 1 t l its.toArray n dd sl)
      ⟨ho, rfl, ⟨_, ho, rfl⟩, call_meets F.slot_tuple_mul ⟨_, ho, rfl⟩ F.entry_tuple_mul (F.args_tuple_mul_2 _ _) (tuple_mul1 l its.toArray n dd sl t) ⟨ho, ⟨.ref l, H, I, rfl, q⟩⟩⟩)
@[simp] def fRepT : D2 := fun x y P => match x, y with
  | .tup ds, .int k => ds ≠ [] ∧ (1 ≤ k ∧ k ≤ 1000) ∧ ds.length ≤ 1000 ∧ P (.tup (List.replicate k.toNat ds).flatten)
  | _, _ => False
theorem so_repT : SO J X (rRepT1 X.K) fRepT := fun O0 O H x y dx dy P Q dm hx hy h fin => by
  cases dx with
  | tup ds =>
    cases dy with
    | int k =>
      have hx0 := hx
      obtain ⟨a, xs, rfl, t1, n1, r1⟩ := hx.tup
      have l1 := DpA.len r1
      by_cases z1 : k = 1
      · subst z1
        have hx1 : Dp (wd X) O H (.ref a) (.tup ds) := by
          rcases hx0 with z | ⟨_, _, _, _, e, _⟩
          · exact z
          · cases e
        have h4 := h.2.2.2
        have e : (List.replicate (Int.toNat 1) ds).flatten = ds := by simp
        rw [e] at h4
        exact .inr ⟨a, xs, rfl, hy.int, t1.sq, fin _ H (.tup ds) Ext.refl hx1 h4⟩
      refine .inl ⟨a, k, xs, rfl, hy.int, t1.sq, fun z => ?_, by have := h.2.1.1; omega, h.2.1.2, by rw [l1]; exact h.2.2.1, fun p np => ?_⟩
      · rw [z] at l1
        exact h.1 (List.eq_nil_of_length_eq_zero l1.symm)
      have x1 : Ext J.T H (upd H p (.tup (List.replicate k.toNat xs).flatten)) := .new np
      refine fin _ _ (.tup _) x1 ⟨p, _, rfl, .inl ⟨dm.free np, upd_same⟩, ?_, DpA.ext x1 (fun _ _ _ _ z => z) _ _ (DpA.rep r1 _)⟩ h.2.2.2
      rw [rep_len]
      have e1 : k.toNat ≤ 1000 := by have := h.2.1.2; omega
      have e2 := Nat.mul_le_mul e1 h.2.2.1
      exact Nat.le_trans e2 (by decide)
    | _ => exact h.elim
  | _ => exact h.elim
/-! ### a, b = e, [..] by a tuple, the second of its own (names that inner blocks see) -/
theorem ds_parOG {i j : Nat} {x y : Str} {px py pt : Pos} {kt k2 pt2} (hc : X.calm = true) (hN : X.N.Nodup) (hi : X.N[i]? = some x) (hj : X.N[j]? = some y) (hij : i ≠ j)
    (g1 : PG X (.Name x px) (gName i)) (g2 : PG X (.Name y py) (gName j)) (ha : DE J X E a ta) (hb : DF J X E b tB)
    (hs : swapsWithSole [.Tuple [.Name x px, .Name y py] kt pt] (.Tuple [a, b] k2 pt2) pos.line X.env = pure false := by rfl) (hw : swappedStores [.Tuple [.Name x px, .Name y py] kt pt] (.Tuple [a, b] k2 pt2) X.env = pure none := by rfl)
    (hst : starEach [a, b] X.env = (false, eval a X.env) :: starEach [b] X.env := by rfl) (hst2 : starEach [b] X.env = (false, eval b X.env) :: starEach [] X.env := by rfl)
    (hm1 : (assignEach [.Name x px, .Name y py] X.env).map (·.2) = assign (.Name x px) X.env :: (assignEach [.Name y py] X.env).map (·.2) := by rfl) (hm2 : (assignEach [.Name y py] X.env).map (·.2) = assign (.Name y py) X.env :: (assignEach [] X.env).map (·.2) := by rfl)
    (hn : (assignEach [.Name x px, .Name y py] X.env).length = 2 := by rfl) (hstar : (assignEach [.Name x px, .Name y py] X.env).findIdx? (·.1) = none := by rfl)
    (h1 : (assignEach [.Tuple [.Name x px, .Name y py] kt pt] X.env).map (·.2) = [assign (.Tuple [.Name x px, .Name y py] kt pt) X.env] := by rfl) :
    DS J X E (.Assign [.Tuple [.Name x px, .Name y py] kt pt] (.Tuple [a, b] k2 pt2) pos) (sParO i j ta tB) := by
  obtain ⟨t1, p1, s1⟩ := ha.ex
  obtain ⟨t2, p2, s2⟩ := hb.ex
  refine ⟨_, ps_asg (pe_tup (pa_cons p1 (pa_cons p2 pa_nil hst2) hst)) (pg_tup hc (pgs_cons g1 (pgs_cons g2 pgs_nil hm2) hm1) hn hstar) hs hw h1, fun B O H σ ρ De Dh rl c h => ?_⟩
  refine s1 B O H σ ρ _ _ _ rl c.xc h fun v H1 d x1 hv h1 => ?_
  have rl1 := rl.ext x1
  refine s2 B O H1 σ ρ _ _ _ rl1 c.xc h1 fun p xs H2 ds x2 np no nb hp hl hd hP => ?_
  refine ⟨(show 2 ≤ sizeLine by decide), fun T nT => ?_⟩
  have x3 : Ext J.T H2 (upd H2 T (.tup [v, .ref p])) := .new nT
  refine ⟨T, _, rfl, .inl (.inl upd_same), rfl, v, _, rfl, .ref p, _, rfl, rfl, ?_⟩
  exact c.nx _ _ _ _ ((rl1.val hv).newOwn (x2.trans x3) np no nb (x3.lst hp) hl (DpA.ext x3 (fun _ _ _ _ z => z) ds xs hd)) hP
end
end DL
namespace DL
open PySem PySem.Spec PyProof.Rows L2
/-! ### a comprehension in a comprehension -/
def relabelS (sc sc' : Scope) : Scope := { sc with names := sc.names.map fun (n, k) => if (k == .free && sc'.kind == .function && sc'.names.lookup n == some .cell) then (n, .cell) else (n, k) }
theorem blkOk_in {N : List Str} {sc0 sc1 scope : Scope} {own : List (Str × Nat)} {X : Cx} {s : Shared} {H : Hp} {cl : List (Str × Addr)} {C : Addr} {fp : List Addr} (hX : X.env.scope = sc1) (h : blkC N (relabelS sc0 sc1) scope own = true) :
    BlkOk N (X.blk s H sc0 (compEnvC sc0 cl C X.env) fp).env.scope scope own := by
  subst hX
  exact blkOk_by h
end DL
namespace DL
open PySem PySem.Spec PyProof.Rows L2
/-! ### data as keys -/
mutual
def nkP : PyData → Option NestedKey
  | .none => some .none
  | .bool b => some (.num (if b = true then 1 else 0))
  | .int i => some (.num i)
  | .str x => some (.text x)
  | .tuple ds => (nkPA ds).map .tup
  | .list _ => none
  | .dict _ => none
def nkPA : List PyData → Option (List NestedKey)
  | [] => some []
  | d :: ds => match nkP d, nkPA ds with
    | some k, some ks => some (k :: ks)
    | _, _ => none
end
mutual
theorem nk_of {h : Heap} : ∀ {d : PyData} {v : Value} {as : List Addr} {k : NestedKey}, Reads h v d as → nkP d = some k → NestedIs h k v
  | .none, _, _, _, r, e => by
    cases r
    rw [nkP] at e; cases e
    exact .none
  | .bool b, _, _, _, r, e => by
    cases r
    rw [nkP] at e; cases e
    exact .bool rfl
  | .int i, _, _, _, r, e => by
    cases r
    rw [nkP] at e; cases e
    exact .int _ _
  | .str x, _, _, _, r, e => by
    cases r
    rw [nkP] at e; cases e
    exact .text _ _
  | .tuple ds, _, _, _, r, e => by
    cases r with
    | tuple h1 h2 h3 h4 =>
      rw [nkP] at e
      cases q : nkPA ds with
      | none => rw [q] at e; cases e
      | some ks =>
        rw [q] at e
        cases e
        exact .tup h1 h2 h3 (nks_of h4 q)
  | .list _, _, _, _, _, e => by rw [nkP] at e; cases e
  | .dict _, _, _, _, _, e => by rw [nkP] at e; cases e
theorem nks_of {h : Heap} : ∀ {ds : List PyData} {vs : List Value} {as : List Addr} {ks : List NestedKey}, ReadsAll h vs ds as → nkPA ds = some ks → NestedAll h ks vs
  | [], _, _, _, r, e => by
    cases r
    rw [nkPA] at e; cases e
    exact .nil
  | d :: ds, _, _, _, r, e => by
    cases r with
    | cons r1 r2 =>
      rw [nkPA] at e
      cases q1 : nkP d with
      | none => rw [q1] at e; cases e
      | some k =>
        cases q2 : nkPA ds with
        | none => rw [q1, q2] at e; cases e
        | some ks =>
          rw [q1, q2] at e
          cases e
          exact .cons (nk_of r1 q1) (nks_of r2 q2)
end
/-- the tuple at a is the key k -/
def KeyAt (K : PySem.W.Frag) (H : Hp) (k : NestedKey) (a : Addr) : Prop := ∃ dp, L2.Dp K H (.ref a) dp ∧ nkP dp = some k ∧ k.depth ≤ 8
theorem KeyAt.is {X : Cx} {pins : List (Addr × Obj)} {σ : St} {H : Hp} {s : Shared} {k : NestedKey} {a : Addr} (I : Inv X pins σ H s) (h : KeyAt X.K H k a) : (nestedKind X.prog X.w).is s.heap k a := by
  obtain ⟨dp, h1, h2, h3⟩ := h
  obtain ⟨as, r⟩ := L2.Dp.reads I dp (.ref a) (.ref a) h1 rfl
  exact ⟨nk_of r h2, h3⟩
/-! ### the dict -/
abbrev NXs := List (NestedKey × Addr × Value)
def nd (P : Program) (w : World) (p : Addr) : NXs → HO
  | [] => .dT []
  | x :: r => .ext fun h => (p == sysModules) = false ∧ ∃ o es ep, h.get? p = some o ∧ o.ExactDict ∧ o.data = .dict es ep ∧ es.toList = (x :: r).map (entryOfKey (nestedKind P w))
theorem nd_raw {P : Program} {w : World} {H : Hp} {h : Heap} {p : Addr} {xs : NXs} (ok : HOk P w H h) (e : H p = some (nd P w p xs)) :
    (p == sysModules) = false ∧ ∃ o es ep, h.get? p = some o ∧ o.ExactDict ∧ o.data = .dict es ep ∧ es.toList = xs.map (entryOfKey (nestedKind P w)) := by
  cases xs with
  | nil =>
    obtain ⟨_, hd, ys, hp, o, es, ep, h1, h2, h3, h4, _⟩ := ok p _ e
    cases hp
    exact ⟨hd, o, es, ep, h1, h2, h3, h4⟩
  | cons x r => exact (ok p _ e).1
/-- its keys stand -/
structure KsOk (K : PySem.W.Frag) (H : Hp) (xs : NXs) : Prop where
  keys : ∀ x ∈ xs, KeyAt K H x.1 x.2.1
  nd : (xs.map (·.1)).Nodup
  len : xs.length ≤ 1000
theorem nd_dict {X : Cx} {pins : List (Addr × Obj)} {σ : St} {H : Hp} {s : Shared} {p : Addr} {xs : NXs} (I : Inv X pins σ H s) (e : H p = some (nd X.prog X.w p xs)) (k : KsOk X.K H xs) : (p == sysModules) = false ∧ s.heap.DictOfH (nestedKind X.prog X.w) p xs := by
  obtain ⟨hd, o, es, ep, h1, h2, h3, h4⟩ := nd_raw I.hok e
  exact ⟨hd, o, es, ep, h1, h2, h3, h4, fun x hx => (k.keys x hx).is I, k.nd⟩
theorem nd_mut {P : Program} {w : World} {p : Addr} {xs : NXs} : Mut (some (nd P w p xs)) := by cases xs <;> trivial
theorem nd_new {P : Program} {w : World} {H : Hp} {h : Heap} {p : Addr} {x : NestedKey × Addr × Value} {r : NXs} (hd : (p == sysModules) = false) (d : h.DictOfH (nestedKind P w) p (x :: r)) : ObjOk P w H h p (nd P w p (x :: r)) := by
  obtain ⟨o, es, ep, h1, h2, h3, h4, _, _⟩ := d
  refine ⟨⟨hd, o, es, ep, h1, h2, h3, h4⟩, ⟨o, h1⟩, fun g1 g2 y k => ?_⟩
  obtain ⟨y0, o', es', ep', e1, e2, e3, e4⟩ := y
  exact ⟨y0, o', es', ep', k _ e1, e2, e3, e4⟩
theorem nd_room {A : Around} (hu : A.units + 9 < cLine) : A.in1.units + 8 < cLine := by
  show A.units + 1 + 8 < cLine
  omega
/-- the dict at p holds xs; a is the key k -/
def HasN (X : Cx) (H : Hp) (p a : Addr) (k : NestedKey) (xs : NXs) : Prop := H p = some (nd X.prog X.w p xs) ∧ KsOk X.K H xs ∧ KeyAt X.K H k a
theorem op_inN {X : Cx} (hu : X.A.units + 9 < cLine) : OpR X (compareOp .In) (fun y x H Q => ∃ p a k xs, y = .ref a ∧ x = .ref p ∧ HasN X H p a k xs ∧ Q (.bl (atKey xs k).isSome) H) := by
  intro pins s σ H y x v u Q I ry rx h
  obtain ⟨p, a, k, xs, rfl, rfl, ⟨e, ks, ka⟩, q⟩ := h
  cases rx
  cases ry
  obtain ⟨hd, dd⟩ := nd_dict I e ks
  exact wpAny_in_heap (knd := nestedKind X.prog X.w) (nd_room hu) (ka.is I) hd dd ⟨.bl _, H, I.tok _, rfl, q⟩
theorem ix_N {X : Cx} (hu : X.A.units + 9 < cLine) : IxR X (fun x y H Q => ∃ p a k xs c b, x = .ref p ∧ y = .ref a ∧ HasN X H p a k xs ∧ atKey xs k = some (c, .ref b) ∧ Q (.ref b) H) := by
  intro value slice pins s σ H x y v u Q I rx ry h hs
  obtain ⟨p, a, k, xs, c, b, rfl, rfl, ⟨e, ks, ka⟩, hk, q⟩ := h
  cases rx
  cases ry
  obtain ⟨hd, dd⟩ := nd_dict I e ks
  unfold subscriptTail
  refine wpAny_bind ?_
  have hT : s.TypeIs (.ref p) "dict" := dd.typeIs
  rw [getitemInPython_of_ne hT.not_modules]
  refine wpAny_bind (wpAny_specialOf hT PySem.F.slot_dict_getitem.lookup ?_)
  have fin : wpAny (model X.prog X.w) X.A (subscripted slice false (.ref p) (.ref a)) (fun r s₃ => wpAny (model X.prog X.w) X.A (letTemporaryGo value (.ref p) r >>= fun _ => pure r) (EP X pins σ Q) X.xe s₃) X.xe s := by
    rw [hs]
    exact wpAny_operating (wpAny_getItem_heap (knd := nestedKind X.prog X.w) (nd_room hu) (ka.is I) dd hk (wpAny_bind (wpAny_letTemporaryGo (wpAny_pure ⟨.ref b, H, I.tok _, rfl, q⟩))))
  first
    | exact wpAny_pure (wpAny_bind fin)
    | exact wpAny_bind (wpAny_pure (wpAny_bind fin))
    | exact wpAny_bind fin
def sNPut (X : Cx) (td ty tv : TE) : TS := fun D σ H => tv σ H fun v H1 => td σ H1 fun x H2 => ty σ H2 fun y H3 => ∃ p a k xs b, x = .ref p ∧ y = .ref a ∧ v = .ref b ∧ HasN X H3 p a k xs ∧ atKey xs k = none ∧ D.nx σ (upd H3 p (nd X.prog X.w p (xs ++ [(k, a, .ref b)])))
theorem ps_nput {X : Cx} {o i value : Expr} {pos pos' : Pos} {td ty tv : TE} (hu : X.A.units + 9 < cLine) (ho : PE X o td) (hi : PE X i ty) (hv : PE X value tv) (hs : swapsWith value (some (.Subscript o i pos')) pos.line X.env = pure false) :
    PS X (.Assign [.Subscript o i pos'] value pos) (sNPut X td ty tv) := by
  refine ⟨fun pins s σ H D I h => ?_⟩
  refine wpAny_Assign_Subscript (thn (hv.run pins s σ H _ I h) fun r s1 ⟨v, H1, I1, rv, q1⟩ => thn (ho.run pins s1 σ H1 _ I1 q1) fun u s2 ⟨x, H2, I2, rx, q2⟩ => thn (hi.run pins s2 σ H2 _ I2 q2) fun iv s3 ⟨y, H3, I3, ry, p, a, k, xs, b, ex, ey, ev, ⟨e, ks, ka⟩, hk, q3⟩ => ?_) hs
  subst ex ey ev
  cases rx
  cases ry
  cases rv
  obtain ⟨hd, dd⟩ := nd_dict I3 e ks
  refine wpAny_setItem_heap (knd := nestedKind X.prog X.w) (hsz := Nat.le_trans ks.len (by decide)) (nd_room hu) (ka.is I3) dd fun h' dd' hs => ?_
  rw [storedH_new hk] at dd'
  refine ⟨σ, _, I3.write (x := p) (e := p) (o := nd X.prog X.w p (xs ++ [(k, a, .ref b)])) (by rw [e]; exact nd_mut) (.inl rfl) (fun b q hb z => (hs.2 b hb).trans z) ?_ ?_, q3⟩
  · obtain ⟨q, _, _, hq, _⟩ := dd'
    exact ⟨q, hq⟩
  · cases xs with
    | nil => exact nd_new hd dd'
    | cons x r => exact nd_new hd dd'
/-! ### heaps without the dict -/
def del (p : Addr) (H : Hp) : Hp := fun b => if b = p then none else H b
theorem del_ne {p b : Addr} {H : Hp} (h : b ≠ p) : del p H b = H b := if_neg h
theorem del_some {p b : Addr} {H : Hp} {o : HO} (h : del p H b = some o) : b ≠ p ∧ H b = some o := by
  unfold del at h
  by_cases z : b = p
  · rw [if_pos z] at h; cases h
  · rw [if_neg z] at h; exact ⟨z, h⟩
theorem del_at {p : Addr} {H : Hp} : del p H p = none := if_pos rfl
theorem get_any (p : Addr) (o : Obj) (ho : ∀ c d e, o ≠ ⟨c, d, .freed, e⟩) : ∃ h : Heap, h.get? p = some o := by
  refine ⟨⟨Array.replicate (p + 1) o, {}⟩, ?_⟩
  unfold Heap.get?
  have e : (Array.replicate (p + 1) o)[p]? = some o := by simp
  rw [e]
  split
  · rename_i q
    cases q
    exact absurd rfl (ho _ _ _)
  · rfl
/-- what the tracked dict is not -/
structure Odd (W : Wd) (p : Addr) (o : HO) : Prop where
  lst : ∀ xs, o ≠ .lst xs
  tup : ∀ xs, o ≠ .tup xs
  dK : ∀ xs, o ≠ .dK xs
  frz : ∀ a b, o ≠ .frz a b
  tbl : ∀ xs, o ≠ .tbl xs
  code : ∀ q, o ≠ LamX.CodeO p q
  town : ∀ r, o ≠ townH W p r
  rest : o ≠ restH W p
theorem nd_heap (P : Program) (w : World) (p : Addr) (xs : NXs) : ∃ h : Heap, ∃ es, h.get? p = some { cls := .type "dict", data := .dict es 0 } ∧ es.toList = xs.map (entryOfKey (nestedKind P w)) := by
  obtain ⟨h, e⟩ := get_any p { cls := .type "dict", data := .dict (xs.map (entryOfKey (nestedKind P w))).toArray 0 } (fun c d e z => by cases z)
  exact ⟨h, _, e, by simp⟩
theorem no_mix {P : Program} {w : World} {H : Hp} {h : Heap} {p : Addr} {es : Array DictEntry} {x : NestedKey × Addr × Value} {r : NXs} {kvs : List (Key × V)} (h1 : h.get? p = some { cls := .type "dict", data := .dict es 0 }) (h2 : es.toList = (x :: r).map (entryOfKey (nestedKind P w)))
    (h3 : ObjOk P w H h p (.dK kvs)) : False := by
  obtain ⟨_, _, vs, _, o, es', ep, e1, _, e3, e4, _⟩ := h3
  rw [h1] at e1
  cases e1
  cases e3
  have hm : entryOfKey (nestedKind P w) x ∈ es := by
    rw [← Array.mem_toList_iff, h2]; simp
  obtain ⟨k, hk, _⟩ := e4 _ hm
  rcases keyIs_shape hk with ⟨i, t, _, z⟩ | ⟨y, t, _, z⟩ <;> cases z
theorem odd_nd (W : Wd) (p : Addr) (hd : (p == sysModules) = false) (xs : NXs) : Odd W p (nd W.P W.w p xs) := by
  cases xs with
  | nil => exact ⟨(fun _ z => by cases z), (fun _ z => by cases z), (fun _ z => by cases z), (fun _ _ z => by cases z), (fun _ z => by cases z), (fun _ z => by cases z), (fun _ z => by cases z), (fun z => by cases z)⟩
  | cons x r =>
    obtain ⟨h, es, h1, h2⟩ := nd_heap W.P W.w p (x :: r)
    have hφ : (p == sysModules) = false ∧ ∃ o es ep, h.get? p = some o ∧ o.ExactDict ∧ o.data = .dict es ep ∧ es.toList = (x :: r).map (entryOfKey (nestedKind W.P W.w)) := ⟨hd, _, es, 0, h1, ⟨rfl, rfl, rfl⟩, rfl, h2⟩
    refine ⟨(fun _ z => by cases z), (fun _ z => by cases z), (fun _ z => by cases z), (fun _ _ z => by cases z), (fun _ z => by cases z), fun q z => ?_, fun q z => ?_, fun z => ?_⟩
    · unfold nd LamX.CodeO at z
      injection z with z
      have z := congrFun z h
      rw [z] at hφ
      obtain ⟨oc, vs, t, e1, e2, _⟩ := hφ
      rw [h1] at e1; cases e1; cases e2
    · unfold nd townH at z
      injection z with z
      have z := congrFun z h
      rw [z] at hφ
      obtain ⟨c, e⟩ := hφ
      exact no_mix h1 h2 e
    · unfold nd restH at z
      injection z with z
      have z := congrFun z h
      rw [z] at hφ
      obtain ⟨c, _, e⟩ := hφ
      exact no_mix h1 h2 e
section
variable {W : Wd} {T : Tb} {O : Addr → Prop} {H H' : Hp} {p : Addr} {o o' : HO}
theorem del_keep {b : Addr} {u : HO} (e : H p = some o) (hb : H b = some u) (n : u ≠ o) : del p H b = some u := by
  rw [del_ne (fun z => n (by rw [z, e] at hb; cases hb; rfl))]; exact hb
theorem ext_del : Ext T (del p H) H := ⟨fun b u h _ => (del_some h).2, fun t r hr => by
  obtain ⟨ps, h1, h2, h3⟩ := t r hr
  refine ⟨ps, (del_some h1).2, h2, fun pos cv hc => ?_⟩
  obtain ⟨c, e1, e2⟩ := h3 pos cv hc
  exact ⟨c, e1, (del_some e2).2⟩⟩
theorem tabs_del (e : H p = some o) (od : Odd W p o) (t : LamX.Tabs T H) : LamX.Tabs T (del p H) := fun r hr => by
  obtain ⟨ps, h1, h2, h3⟩ := t r hr
  refine ⟨ps, del_keep e h1 (fun z => od.tbl _ z.symm), h2, fun pos cv hc => ?_⟩
  obtain ⟨c, e1, e2⟩ := h3 pos cv hc
  refine ⟨c, e1, ?_⟩
  rw [del_ne (fun z => by
    subst z
    rw [e] at e2
    cases e2
    exact od.code _ rfl)]
  exact e2
theorem Ext.del (x : Ext T H H') (e' : H' p = some o') (od : Odd W p o') : Ext T (del p H) (del p H') := by
  refine ⟨fun b u h n => ?_, fun t => tabs_del e' od (x.t (ext_del.t t))⟩
  obtain ⟨h1, h2⟩ := del_some h
  rw [del_ne h1]
  exact x.n b u h2 n
/-- where the dict was not there -/
theorem Ext.del0 (x : Ext T H H') (n : H p = none) (e' : H' p = some o') (od : Odd W p o') : Ext T H (DL.del p H') := by
  refine ⟨fun b u h k => ?_, fun t => tabs_del e' od (x.t t)⟩
  rw [del_ne (fun z => by rw [z, n] at h; cases h)]
  exact x.n b u h k
mutual
theorem Dp.del (e : H p = some o) (od : Odd W p o) : ∀ (d : D) (v : V), Dp W O H v d → Dp W O (DL.del p H) v d
  | .non, _, h => h
  | .bl _, _, h => h
  | .int _, _, h => h
  | .str _, _, h => h
  | .tup ds, _, h => by
    obtain ⟨a, xs, rfl, t, n, r⟩ := h
    refine ⟨a, xs, rfl, ?_, n, DpA.del e od ds xs r⟩
    rcases t with ⟨t1, t2⟩ | ⟨t1, ob, t2⟩ | t
    · exact .inl ⟨t1, del_keep e t2 (fun z => od.tup _ z.symm)⟩
    · exact .inr (.inl ⟨t1, ob, del_keep e t2 (fun z => od.frz _ _ z.symm)⟩)
    · exact .inr (.inr t)
  | .lst ds, _, h => by
    obtain ⟨a, xs, rfl, o1, t, n, r⟩ := h
    exact ⟨a, xs, rfl, o1, del_keep e t (fun z => od.lst _ z.symm), n, DpA.del e od ds xs r⟩
  | .dct ks ds, _, h => by
    obtain ⟨a, xs, rfl, o1, t, n, m, r⟩ := h
    exact ⟨a, xs, rfl, o1, del_keep e t (fun z => od.dK _ z.symm), n, m, DpA.del e od ds xs r⟩
  | .town, _, h => by
    obtain ⟨t, r, rfl, n, h1, h2⟩ := h
    refine ⟨t, r, rfl, n, ?_, ?_⟩
    · rw [del_ne (fun z => by subst z; rw [e] at h1; cases h1; exact od.town _ rfl)]; exact h1
    · rw [del_ne (fun z => by subst z; rw [e] at h2; cases h2; exact od.rest rfl)]; exact h2
  | .scr, _, h => by
    obtain ⟨a, ns, rfl, t, n⟩ := h
    refine ⟨a, ns, rfl, ?_, n⟩
    rcases t with ⟨t1, t2⟩ | t
    · rcases t2 with t2 | ⟨q, t2⟩
      · exact .inl ⟨t1, .inl (del_keep e t2 (fun z => od.lst _ z.symm))⟩
      · exact .inl ⟨t1, .inr ⟨q, del_keep e t2 (fun z => od.frz _ _ z.symm)⟩⟩
    · exact .inr t
  | .obj _, _, h => h
  | .ftp ds, _, h => by
    obtain ⟨a, ob, xs, e1, o1, dn, t, n, r⟩ := h
    exact ⟨a, ob, xs, e1, o1, dn, del_keep e t (fun z => od.frz _ _ z.symm), n, DpA.del e od ds xs r⟩
theorem DpA.del (e : H p = some o) (od : Odd W p o) : ∀ (ds : List D) (vs : List V), DpA W O H vs ds → DpA W O (DL.del p H) vs ds
  | [], [], h => h
  | [], _ :: _, h => h.elim
  | _ :: _, [], h => h.elim
  | d :: ds, v :: vs, h => ⟨Dp.del e od d v h.1, DpA.del e od ds vs h.2⟩
end
end
/-! ### known = {}; for row in ..: seen = ..; if seen in known: return (known[seen], row); known[seen] = row -/
def keyOfD (d : D) : Option NestedKey := match nkP d.py with
  | some k => if d.py.canLay0 = true ∧ k.depth ≤ 8 then some k else none
  | none => none
theorem keyOfD_some {d : D} {k : NestedKey} (h : keyOfD d = some k) : nkP d.py = some k ∧ d.py.canLay0 = true ∧ k.depth ≤ 8 := by
  unfold keyOfD at h
  cases q : nkP d.py with
  | none => rw [q] at h; cases h
  | some k' =>
    rw [q] at h
    have h : (if d.py.canLay0 = true ∧ k'.depth ≤ 8 then some k' else none) = some k := h
    split at h
    · rename_i z
      cases h
      exact ⟨rfl, z.1, z.2⟩
    · cases h
def accLook (k : NestedKey) : List (D × D) → Option D
  | [] => none
  | (s, r) :: rest => if keyOfD s = some k then some r else accLook k rest
def memoGo (iR iS : Nat) (t : DT) (De : DEnds) : List D → List (D × D) → Rho → Prop
  | [], _, ρ => De.nx ρ
  | r :: rs, acc, ρ => (∃ ds, r = .tup ds) ∧ acc.length < 1000 ∧ t (ρ.set iR (.val r)) (fun s => ∃ ss k, s = .tup ss ∧ keyOfD s = some k ∧ (match accLook k acc with
    | some r0 => De.rt (.tup [r0, r])
    | none => memoGo iR iS t De rs (acc ++ [(s, r)]) ((ρ.set iR (.val r)).set iS (.val s)))) De.xc
def sMemo (iK iR iS : Nat) (ti : DTA) (t : DT) : DST := fun ρ De => (iK < ρ.length ∧ iR < ρ.length ∧ iS < ρ.length) ∧ ti (ρ.set iK .non) (fun rows => memoGo iR iS t De rows [] (ρ.set iK .non)) De.xc
def tDNewN : TE := fun _ H Q => ∀ p, H p = none → (p == sysModules) = false → Q (.ref p) (upd H p (.dT []))
theorem pe_dnewN {X : Cx} {pos : Pos} : PE X (.Dict [] [] pos) tDNewN := ⟨fun pins s σ H Q I h =>
  wpAny_Dict_empty ⟨.ref s.heap.objs.size, _, I.laid (a := s.heap.objs.size) (o := .dT []) (t' := s.toks) (fun _ _ q => Heap.get?_push_of_some _ q) (Nat.le_refl _) (dt_empty s.heap I.big), rfl, h _ (I.hok.fresh (Nat.le_refl _)) (beq_eq_false_iff_ne.mpr (Ne.symm (Nat.ne_of_lt I.big)))⟩⟩
/-- an entry: what was seen, the row -/
def EntAt (X : Cx) (O : Addr → Prop) (H : Hp) (a : D × D) (x : NestedKey × Addr × Value) : Prop := Dp (wd X) O H (.ref x.2.1) a.1 ∧ keyOfD a.1 = some x.1 ∧ ∃ b, x.2.2 = .ref b ∧ Dp (wd X) O H (.ref b) a.2
structure Memo (X : Cx) (p : Addr) (O : Addr → Prop) (acc : List (D × D)) (xs : NXs) (H : Hp) : Prop where
  sys : (p == sysModules) = false
  at' : H p = some (nd X.prog X.w p xs)
  rel : Paired (EntAt X O (DL.del p H)) acc xs
  nd : (xs.map (·.1)).Nodup
  len : acc.length ≤ 1000
section
variable {X : Cx} {T : Tb} {p : Addr} {O : Addr → Prop} {acc : List (D × D)} {xs : NXs} {H H' : Hp}
theorem Memo.odd (m : Memo X p O acc xs H) : Odd (wd X) p (DL.nd X.prog X.w p xs) := odd_nd (wd X) p m.sys xs
theorem Memo.ext (m : Memo X p O acc xs H) (x : Ext T H H') : Memo X p O acc xs H' := by
  have e' : H' p = some (DL.nd X.prog X.w p xs) := x.n p _ m.at' (fun ps z => m.odd.tbl ps z)
  have xd : Ext T (DL.del p H) (DL.del p H') := x.del e' m.odd
  refine ⟨m.sys, e', ?_, m.nd, m.len⟩
  refine Paired.mono (fun a y h => ?_) m.rel
  obtain ⟨h1, h2, b, h3, h4⟩ := h
  exact ⟨Dp.ext xd (fun _ _ _ _ z => z) _ _ h1, h2, b, h3, Dp.ext xd (fun _ _ _ _ z => z) _ _ h4⟩
theorem key_at {d : D} {k : NestedKey} {a : Addr} (h : Dp (wd X) O H (.ref a) d) (hk : keyOfD d = some k) : KeyAt X.K H k a := by
  obtain ⟨h1, h2, h3⟩ := keyOfD_some hk
  exact ⟨d.py, Dp.py d _ h h2, h1, h3⟩
theorem ks_of (ext : ∀ {v d}, Dp (wd X) O (DL.del p H) v d → Dp (wd X) O H v d) : ∀ {acc : List (D × D)} {xs : NXs}, Paired (EntAt X O (DL.del p H)) acc xs → ∀ x ∈ xs, KeyAt X.K H x.1 x.2.1
  | _, _, .nil, x, hx => by cases hx
  | _, _, .cons h t, x, hx => by
    rcases List.mem_cons.mp hx with rfl | hx
    · exact key_at (ext h.1) h.2.1
    · exact ks_of ext t x hx
theorem Memo.has (m : Memo X p O acc xs H) {d : D} {k : NestedKey} {a : Addr} (h : Dp (wd X) O H (.ref a) d) (hk : keyOfD d = some k) : HasN X H p a k xs := by
  refine ⟨m.at', ⟨ks_of (fun h => Dp.ext (ext_del (T := [])) (fun _ _ _ _ z => z) _ _ h) m.rel, m.nd, ?_⟩, key_at h hk⟩
  rw [← m.rel.length]; exact m.len
theorem look_at {k : NestedKey} : ∀ {acc : List (D × D)} {xs : NXs}, Paired (EntAt X O H) acc xs → match accLook k acc with
    | some r => ∃ c b, atKey xs k = some (c, .ref b) ∧ Dp (wd X) O H (.ref b) r
    | none => atKey xs k = none
  | _, _, .nil => rfl
  | _, _, .cons (a := a) (b := x) (l₁ := acc) (l₂ := xs) h t => by
    obtain ⟨h1, h2, b, h3, h4⟩ := h
    obtain ⟨s, r⟩ := a
    obtain ⟨k', c, v⟩ := x
    have ih := look_at (k := k) t
    unfold accLook
    by_cases z : k' = k
    · subst z
      rw [if_pos h2]
      refine ⟨c, b, ?_, h4⟩
      simp only [atKey, List.find?_cons, decide_true, Option.map_some]
      rw [show v = Value.ref b from h3]
    · rw [if_neg (fun e => z (by rw [h2] at e; exact Option.some.inj e))]
      have e : atKey ((k', c, v) :: xs) k = atKey xs k := by
        simp only [atKey, List.find?_cons]
        rw [decide_eq_false z]
      rw [e]; exact ih
end
theorem del_upd {p : Addr} {H : Hp} {o : HO} : DL.del p (upd H p o) = DL.del p H := funext fun b => by
  by_cases z : b = p
  · subst z; rw [del_at, del_at]
  · rw [del_ne z, del_ne z, upd_ne z]
theorem Dp.tupR {W : Wd} {O : Addr → Prop} {H : Hp} {v : V} {ds : List D} (h : Dp W O H v (.tup ds)) : ∃ b, v = .ref b := by
  obtain ⟨a, xs, e, _⟩ := h
  exact ⟨a, e⟩
section
variable {J : Jd} {X : Cx} {E : XK} {iter seenE : Expr} {rest : List Stmt} {t : DT} {ti : DTA} {u : DST} {iK iR iS : Nat} {xK xR xS : Str} {p1 p2 p3 p4 p5 p6 p7 p8 p9 p10 p11 p12 p13 p14 p15 p16 p17 p18 p19 p20 p21 p22 : Pos} {kt}
theorem dss_memo (hp : PassesOwn (model X.prog X.w) X.A X.env X.xe) (hc : X.calm = true) (hu : X.A.units + 9 < cLine) (hKR : iK ≠ iR) (hKS : iK ≠ iS) (hRS : iR ≠ iS)
    (gK : PG X (.Name xK p1) (gName iK)) (gR : PG X (.Name xR p4) (gName iR)) (gS : PG X (.Name xS p5) (gName iS))
    (vK1 : PE X (.Name xK p8) (tVar iK)) (vK2 : PE X (.Name xK p10) (tVar iK)) (vK3 : PE X (.Name xK p17) (tVar iK)) (vS1 : PE X (.Name xS p7) (tVar iS)) (vS2 : PE X (.Name xS p11) (tVar iS)) (vS3 : PE X (.Name xS p18) (tVar iS)) (vR1 : PE X (.Name xR p13) (tVar iR)) (vR2 : PE X (.Name xR p20) (tVar iR))
    (hi : DI J X E (.Name xR p4) iter ti) (ht : DE J X E seenE t) (hr : DSs J X E rest u)
    (hs : ∀ x, foldedSetIterable iter X.env x = pure x := by intro _; rfl)
    (a1 : swapsWithSole [.Name xK p1] (.Dict [] [] p2) p3.line X.env = pure false := by rfl) (a2 : swappedStores [.Name xK p1] (.Dict [] [] p2) X.env = pure none := by rfl) (a3 : (assignEach [.Name xK p1] X.env).map (·.2) = [assign (.Name xK p1) X.env] := by rfl)
    (b1 : swapsWithSole [.Name xS p5] seenE p6.line X.env = pure false := by rfl) (b2 : swappedStores [.Name xS p5] seenE X.env = pure none := by rfl) (b3 : (assignEach [.Name xS p5] X.env).map (·.2) = [assign (.Name xS p5) X.env] := by rfl)
    (c1 : behindInMarks .In (.Name xK p8) = false := by rfl) (c2 : PlainIx (.Name xS p11) := by exact fun _ _ => rfl)
    (d1 : starEach [.Subscript (.Name xK p10) (.Name xS p11) p12, .Name xR p13] X.env = (false, eval (.Subscript (.Name xK p10) (.Name xS p11) p12) X.env) :: starEach [.Name xR p13] X.env := by rfl) (d2 : starEach [.Name xR p13] X.env = (false, eval (.Name xR p13) X.env) :: starEach [] X.env := by rfl)
    (e1 : swapsWith (.Name xR p20) (some (.Subscript (.Name xK p17) (.Name xS p18) p19)) p21.line X.env = pure false := by rfl) :
    DSs J X E (.Assign [.Name xK p1] (.Dict [] [] p2) p3 :: .For (.Name xR p4) iter [.Assign [.Name xS p5] seenE p6, .If (.Compare (.Name xS p7) [.In] [.Name xK p8] p9) [.Return (some (.Tuple [.Subscript (.Name xK p10) (.Name xS p11) p12, .Name xR p13] kt p14)) p15] [] p16,
      .Assign [.Subscript (.Name xK p17) (.Name xS p18) p19] (.Name xR p20) p21] [] p22 :: rest) (sSeq (sMemo iK iR iS ti t) u) := by
  obtain ⟨wi, pi, k⟩ := hi.ex
  obtain ⟨te, pt, ktt⟩ := ht.ex
  obtain ⟨tr, pr, kr⟩ := hr.ex
  refine ⟨_, pss_cons (ps_asg pe_dnewN gK a1 a2 a3) (pss_cons (ps_for hp hc pi gR (pss_cons (ps_asg pt gS b1 b2 b3) (pss_cons (ps_if (pt_cmpR (op_inN hu) vS1 vK1 c1) (pss_one (ps_ret (pe_tup (pa_cons (pe_ix (ix_N hu) vK2 vS2 c2) (pa_cons vR1 pa_nil d2) d1)))) pss_nil) (pss_one (ps_nput hu vK3 vS3 vR2 e1)))) hs) pr),
    fun B O H σ ρ De Dh rl c h => ?_⟩
  obtain ⟨⟨lK, lR, lS⟩, h⟩ := h
  have c0 : Cp J X E B { De with nx := fun ρ' => u ρ' De } { Dh with nx := tr Dh } := c.nx' fun O' H' σ' ρ' rl' h' => kr B O' H' σ' ρ' De Dh rl' c h'
  generalize hDe : ({ De with nx := fun ρ' => u ρ' De } : DEnds) = De0 at c0 h
  refine fun p np hd => ?_
  have x0 : Ext J.T H (upd H p (.dT [])) := Ext.new np
  have sl : ∀ {B : Bs} {H : Hp}, SlOk (wd X) B O H (some (V.ref p)) .non := fun {B H} => trivial
  refine k B O _ _ _ _ _ _ ((rl.ext x0).set (i := iK) (v := some (V.ref p)) (s := .non) (fun _ z => by cases z) sl) c0.xc h fun I H1 ds x1 wk hn h1 => ?_
  have eH1 : H1 p = some (nd X.prog X.w p []) := x1.n p _ upd_same (fun ps z => by cases z)
  have od1 : Odd (wd X) p (nd X.prog X.w p []) := odd_nd (wd X) p hd []
  have rl1 : Rel (wd X) J.T B O (DL.del p H1) (σ.set iK (some (.ref p))) (ρ.set iK .non) := (rl.ext ((x0.trans x1).del0 np eH1 od1)).set (fun _ z => by cases z) sl
  have c1' := c0.toLoop rl1
  have w := wk (bsLoop J.T B O (DL.del p H1)).Hb B.O0 fun v d h => dp_loop rl1 v d (Dp.del eH1 od1 d v h)
  have sK : (σ.set iK (some (V.ref p)))[iK]? = some (some (.ref p)) := List.getElem?_set_self (by rw [← rl.len]; exact lK)
  refine for_it (n := ds.length) w (fun i σ' H' => ∃ ρ' acc xs, Memo X p O acc xs H' ∧ Rel (wd X) J.T (bsLoop J.T B O (DL.del p H1)) O (DL.del p H') σ' ρ' ∧ σ'[iK]? = some (some (.ref p)) ∧ ρ'.length = ρ.length ∧ memoGo iR iS t De0 (ds.drop i) acc ρ')
    ⟨_, [], [], ⟨hd, eH1, .nil, List.nodup_nil, Nat.zero_le _⟩, rl1.toLoop, sK, List.length_set .., by rw [List.drop_zero]; exact h1⟩ ?_ ?_ ?_
  · rintro i σ' H' hi ⟨ρ', acc, xs, m, r, _⟩
    exact fun b o hb => (del_some (r.base.n b o hb)).2
  · rintro i x σ' H' H2 hi ⟨ρ', acc, xs, m, r, eK, lρ, hgo⟩ ⟨x2, d, hd2, hv⟩
    have hdrop : ds.drop i = d :: ds.drop (i + 1) := by
      obtain ⟨h1, h2⟩ := List.getElem?_eq_some_iff.mp hd2
      rw [← h2]; exact List.drop_eq_getElem_cons h1
    rw [hdrop] at hgo
    obtain ⟨⟨ds', rfl⟩, hl, hgo⟩ := hgo
    have m2 := m.ext x2
    have hv' := hv O r.new fun a z => by
      obtain ⟨q, e⟩ := r.dom a z
      exact ⟨q, (del_some e).2⟩
    have r2 : Rel (wd X) J.T (bsLoop J.T B O (DL.del p H1)) O (DL.del p H2) (σ'.set iR (some x)) (ρ'.set iR (.val (.tup ds'))) := (r.ext (x2.del m2.at' m2.odd)).val (Dp.del m2.at' m2.odd _ _ hv')
    obtain ⟨b, rfl⟩ := Dp.tupR hv'
    have lσ : ∀ j, j < ρ.length → j < σ'.length := fun j hj => by rw [← r.len, lρ]; exact hj
    refine ktt _ O H2 _ _ _ _ _ (r2.ext ext_del) c1'.xc hgo fun v H3 s x3 hs3 hs4 => ?_
    obtain ⟨ss, kk, rfl, hkk, hgo⟩ := hs4
    obtain ⟨a, rfl⟩ := Dp.tupR hs3
    have m3 := m2.ext x3
    have r3 : Rel (wd X) J.T (bsLoop J.T B O (DL.del p H1)) O (DL.del p H3) ((σ'.set iR (some (.ref b))).set iS (some (.ref a))) ((ρ'.set iR (.val (.tup ds'))).set iS (.val (.tup ss))) := (r2.ext (x3.del m3.at' m3.odd)).val (Dp.del m3.at' m3.odd _ _ hs3)
    have fS : ((σ'.set iR (some (V.ref b))).set iS (some (.ref a)))[iS]? = some (some (.ref a)) := List.getElem?_set_self (by rw [List.length_set]; exact lσ _ lS)
    have fR : ((σ'.set iR (some (V.ref b))).set iS (some (.ref a)))[iR]? = some (some (.ref b)) := by
      rw [List.getElem?_set_ne (Ne.symm hRS)]; exact List.getElem?_set_self (lσ _ lR)
    have fK : ((σ'.set iR (some (V.ref b))).set iS (some (.ref a)))[iK]? = some (some (.ref p)) := by
      rw [List.getElem?_set_ne (Ne.symm hKS), List.getElem?_set_ne (Ne.symm hKR)]; exact eK
    have has := m3.has hs3 hkk
    have hb3 : Dp (wd X) O H3 (.ref b) (.tup ds') := Dp.ext x3 (fun _ _ _ _ z => z) _ _ hv'
    have lk := look_at (k := kk) m3.rel
    refine ⟨_, fS, _, fK, p, a, kk, xs, rfl, rfl, has, _, rfl, ?_⟩
    cases hq : accLook kk acc with
    | some r0 =>
      rw [hq] at lk hgo
      obtain ⟨c, b0, ek, hb0⟩ := lk
      rw [ek]
      refine iteT ?_
      have hb0' : Dp (wd X) O H3 (.ref b0) r0 := Dp.ext (ext_del (T := J.T)) (fun _ _ _ _ z => z) _ _ hb0
      refine ⟨_, fK, _, fS, p, a, kk, xs, c, b0, rfl, rfl, has, ek, _, fR, (show 2 ≤ sizeLine by decide), fun q nq => ?_⟩
      have x4 : Ext J.T H3 (upd H3 q (.tup [.ref b0, .ref b])) := .new nq
      have nO : ¬ O q := r3.ext ext_del |>.free nq
      refine c1'.rt O (.ref q) _ (.tup [r0, .tup ds']) ((r3.base.ext ext_del).ext x4) r3.sub (.inl ⟨q, _, rfl, .inl ⟨nO, upd_same⟩, (show 2 ≤ sizeLine by decide), ?_, ?_, trivial⟩) hgo
      · exact Dp.ext x4 (fun _ _ _ _ z => z) _ _ hb0'
      · exact Dp.ext x4 (fun _ _ _ _ z => z) _ _ hb3
    | none =>
      rw [hq] at lk hgo
      have lk : atKey xs kk = none := lk
      rw [lk]
      refine iteF ?_
      refine ⟨_, fR, _, fK, _, fS, p, a, kk, xs, b, rfl, rfl, rfl, has, lk, ?_⟩
      refine ⟨_, acc ++ [(.tup ss, .tup ds')], xs ++ [(kk, a, .ref b)], ⟨hd, upd_same, ?_, ?_, ?_⟩, ?_, fK, ?_, hgo⟩
      · rw [del_upd]
        exact m3.rel.snoc ⟨Dp.del m3.at' m3.odd _ _ hs3, hkk, b, rfl, Dp.del m3.at' m3.odd _ _ hb3⟩
      · rw [List.map_append, List.nodup_append]
        refine ⟨m3.nd, by simp, fun y hy z hz e => ?_⟩
        have hz : z = kk := by simpa using hz
        subst hz e
        obtain ⟨w0, hw, e⟩ := List.mem_map.mp hy
        have : atKey xs y ≠ none := fun z => by
          simp only [atKey, Option.map_eq_none_iff, List.find?_eq_none] at z
          exact z w0 hw (by simp [e])
        exact this lk
      · rw [List.length_append]; exact hl
      · rw [del_upd]; exact r3
      · rw [List.length_set, List.length_set]; exact lρ
  · rintro σ' H' ⟨ρ', acc, xs, m, r, _, _, hgo⟩
    rw [List.drop_length] at hgo
    exact c1'.nx O H' σ' ρ' (r.ext ext_del) hgo
end
end DL
namespace DL
open PySem PySem.Spec PyProof.Rows L2
/-! ### defs as values -/
section
variable {J : Jd} {X : Cx} {E : XK} {e : Expr} {es : List Expr} {tA : DTA} {pos : Pos}
theorem de_fn {x : Str} {k : Nat} {ps : List Str} {sd : SpD} (o : Ok X.prog X.w X.K X.mg X.base J x k ps sd) (hg : Gl X x) (hd : (x == ("__debug__" : Str)) = false := by decide) : DE J X E (.Name x pos) (dC (.obj (.str x))) := by
  obtain ⟨fd, F, hm, hk, hb⟩ := o
  exact ⟨_, pe_glob hg hm (v := .ref (He.ga X.K x)) rfl hd, fun B O H σ ρ P R Q rl xx h fin => fin _ H (.obj (.str x)) Ext.refl ⟨x, rfl, rfl⟩ h⟩
/-- a name that holds one of two defs, called -/
@[simp] def dCallV (i : Nat) (n1 : Str) (sd1 : SpD) (n2 : Str) (sd2 : SpD) (tA : DTA) : DT := fun ρ P R => slP ρ[i]? fun d => match d with
  | .obj (.str nm) => if nm = n1 then tA ρ (fun ds => sd1 ds P R) R else if nm = n2 then tA ρ (fun ds => sd2 ds P R) R else False
  | _ => False
theorem PE.or {e : Expr} {t1 t2 : TE} (h1 : PE X e t1) (h2 : PE X e t2) : PE X e (fun σ H Q => t1 σ H Q ∨ t2 σ H Q) :=
  ⟨fun pins s σ H Q I h => h.elim (fun z => h1.run pins s σ H Q I z) fun z => h2.run pins s σ H Q I z⟩
theorem callV_pe {x nm : Str} {i k : Nat} {ps : List Str} {sd : SpD} {p : Pos} {te : TA} (o : Ok X.prog X.w X.K X.mg X.base J nm k ps sd) (hr : Room k X.A) (hx : Passes (L2.CX X.prog X.w) X E) (hN : X.N[i]? = some x) (hv : Vis X.env.scope x) (ha : PA X (e :: es) te)
    (hd : (x == ("__debug__" : Str)) = false) (hcd : (x == ("__classdict__" : Str)) = false) (he : starEach (e :: es) X.env = (false, eval e X.env) :: starEach es X.env) (hpl : (backTo pos (starEach es X.env)).any (·.1) = false) :
    PE X (.Call (.Name x p) (e :: es) [] pos) (ItX.tCallV i (He.ga X.K nm) (fun vs H Q E => Lift (wd X) J sd (vs ++ []) H Q E) E te) := by
  obtain ⟨fd, F, hm, hk, hb⟩ := o
  exact ItX.pe_callV (F.raw hb .nil) hr hk hx hN hv ha hd hcd he hpl
theorem de_callV {x n1 n2 : Str} {i k1 k2 : Nat} {ps1 ps2 : List Str} {sd1 sd2 : SpD} {p : Pos} (o1 : Ok X.prog X.w X.K X.mg X.base J n1 k1 ps1 sd1) (o2 : Ok X.prog X.w X.K X.mg X.base J n2 k2 ps2 sd2) (hr1 : Room k1 X.A) (hr2 : Room k2 X.A) (hx : Passes (L2.CX X.prog X.w) X E) (hN : X.N[i]? = some x) (hv : Vis X.env.scope x) (ha : DA J X E (e :: es) tA)
    (hd : (x == ("__debug__" : Str)) = false := by decide) (hcd : (x == ("__classdict__" : Str)) = false := by decide)
    (he : starEach (e :: es) X.env = (false, eval e X.env) :: starEach es X.env := by rfl) (hpl : (backTo pos (starEach es X.env)).any (·.1) = false := by rfl) : DE J X E (.Call (.Name x p) (e :: es) [] pos) (dCallV i n1 sd1 n2 sd2 tA) := by
  obtain ⟨te, p1, s1⟩ := ha.ex
  refine ⟨_, PE.or (callV_pe o1 hr1 hx hN hv p1 hd hcd he hpl) (callV_pe o2 hr2 hx hN hv p1 hd hcd he hpl), fun B O H σ ρ P R Q rl xx ht fin => ?_⟩
  have ht : slP ρ[i]? fun d => match d with
    | .obj (.str nm) => if nm = n1 then tA ρ (fun ds => sd1 ds P R) R else if nm = n2 then tA ρ (fun ds => sd2 ds P R) R else False
    | _ => False := ht
  cases e0 : ρ[i]? with
  | none => rw [e0] at ht; exact ht.elim
  | some s =>
    rw [e0] at ht
    cases s with
    | non => exact ht.elim
    | own _ => exact ht.elim
    | val d =>
      obtain ⟨v, e1, h1⟩ := rl.sl i _ e0
      have e1 : σ[i]? = some (some v) := by
        cases q : σ[i]? with
        | none => rw [q] at e1; cases e1
        | some y => rw [q] at e1; rw [show y = some v from e1]
      cases d with
      | obj u =>
        obtain ⟨nm, rfl, rfl⟩ := h1
        have ht : if nm = n1 then tA ρ (fun ds => sd1 ds P R) R else if nm = n2 then tA ρ (fun ds => sd2 ds P R) R else False := ht
        by_cases z1 : nm = n1
        · subst z1
          rw [if_pos rfl] at ht
          refine .inl ⟨e1, s1 B O H σ ρ _ R _ rl xx ht fun vs H1 ds x1 hvs h2 => ?_⟩
          show Lift (wd X) J sd1 (vs ++ []) H1 Q E
          rw [List.append_nil]
          exact lift_of (rl.ext x1) xx hvs h2 (fin_ext fin x1)
        · rw [if_neg z1] at ht
          by_cases z2 : nm = n2
          · subst z2
            rw [if_pos rfl] at ht
            refine .inr ⟨e1, s1 B O H σ ρ _ R _ rl xx ht fun vs H1 ds x1 hvs h2 => ?_⟩
            show Lift (wd X) J sd2 (vs ++ []) H1 Q E
            rw [List.append_nil]
            exact lift_of (rl.ext x1) xx hvs h2 (fin_ext fin x1)
          · rw [if_neg z2] at ht
            exact ht.elim
      | _ => exact ht.elim
end
end DL
namespace DL
open PySem PySem.Spec PyProof.Rows L2
/-! ### sorted of a list of data -/
def leD : D → D → Bool := PySem.W.dataLe false D.py
def SrtOk (ds : List D) : Prop := (ds.length ≤ 1 ∨ (PySem.W.AllAlike (ds.map D.py) ∧ PySem.W.Sortable (ds.map D.py))) ∧ ∀ d ∈ ds, d.py.canLay0 = true ∧ d.py.depth ≤ 60
@[simp] def srtN (P : List D → Prop) : D → Prop
  | .lst ds => SrtOk ds ∧ P (ds.mergeSort leD)
  | _ => False
@[simp] def dSrtN (t : DT) : DTA := fun ρ P R => t ρ (srtN P) R
def IsD (W : Wd) (O : Addr → Prop) (H : Hp) (v : Value) (d : D) : Prop := ∃ x : V, RelV x v ∧ Dp W O H x d
theorem each_of {W : Wd} {O : Addr → Prop} {H : Hp} : ∀ {xs : List V} {its : List Value} {ds : List D}, Vals xs its → DpA W O H xs ds → PySem.W.EachIs (IsD W O H) its ds
  | [], [], [], _, _ => .nil
  | x :: xs, u :: us, d :: ds, r, h => by
    cases r with
    | cons r1 r2 => exact .cons ⟨x, r1, h.1⟩ (each_of r2 h.2)
  | [], _ :: _, _, r, _ => by cases r
  | _ :: _, [], _, r, _ => by cases r
  | [], [], _ :: _, _, h => h.elim
  | _ :: _, _ :: _, [], _, h => h.elim
theorem of_each {W : Wd} {O : Addr → Prop} {H : Hp} : ∀ {its : List Value} {ds : List D}, PySem.W.EachIs (IsD W O H) its ds → ∃ xs, Vals xs its ∧ DpA W O H xs ds
  | [], [], _ => ⟨[], .nil, trivial⟩
  | u :: us, d :: ds, h => by
    cases h with
    | cons h1 h2 =>
      obtain ⟨x, r, hx⟩ := h1
      obtain ⟨xs, rs, hxs⟩ := of_each h2
      exact ⟨x :: xs, .cons r rs, hx, hxs⟩
  | [], _ :: _, h => by cases h
  | _ :: _, [], h => by cases h
def rSortN (W : Wd) : List V → Hp → VK → Prop := fun vs H Q => ∃ (O : Addr → Prop) (a : Addr) (xs : List V) (ds : List D), vs = [V.ref a] ∧ SqL W.K H a xs ∧ DpA W O H xs ds ∧ SrtOk ds ∧ ds.length ≤ sizeLine ∧
  ∀ ys p, DpA W O H ys (ds.mergeSort leD) → H p = none → Q (.ref p) (upd H p (.lst ys))
section
variable {J : Jd} {X : Cx} {E : XK} {a : Expr} {ta : DT} {pos : Pos}
theorem call_sortN (hu : X.A.units + 65 < cLine) : CallR X (.builtin "sorted") (rSortN (wd X)) := by
  intro pins s σ H vs us Q I r h
  obtain ⟨O, a, xs, ds, rfl, hs, hd, ⟨h12, h3⟩, hz, q⟩ := h
  obtain ⟨its, rv, hl, _⟩ := I.list hs
  obtain ⟨u, rfl, ru⟩ := vals1 r
  obtain rfl : u = Value.ref a := ru
  have e := each_of rv hd
  rcases h12 with h1 | ⟨h1, h2⟩
  · have hms : ds.mergeSort leD = ds := by
      match ds, h1 with
      | [], _ => simp
      | [d], _ => simp
    rw [hms] at q
    have li : its.length = ds.length := e.length
    refine SrtO.sorted_ord (ltv := fun _ _ => false) ⟨fun x y h => (by cases h), fun x y z _ _ => rfl⟩ hl.isList (by rw [li]; exact hz) (fun h2 => absurd h2 (by omega)) fun out hs' hb => ?_
    have eo : out = its := by
      have p := hb.perm
      match its, out, p with
      | [], out, p => exact List.Perm.eq_nil p
      | [u], out, p => exact List.perm_singleton.mp p
      | _ :: _ :: _, _, _ => rw [List.length_cons, List.length_cons] at li; omega
    subst eo
    obtain ⟨n, hn⟩ := sortedAll_at s.heap out (List.toArray out)
    refine ⟨.ref (s.heap.objs.size + 1), upd H (s.heap.objs.size + 1) (.lst xs), I.laid (t' := s.toks) (fun b o e => sortedAll_old e) (Nat.le_succ _) ⟨?_, out, n, rv, hn⟩, rfl, q xs _ hd (I.hok.fresh (Nat.le_succ _))⟩
    rw [rv.length, li]; exact hz
  refine PySem.W.sorted_data (enc := D.py) (R := IsD (wd X) O H) hl.isList e ?_ h1 h2 hz (fun d hd => ?_) fun out ho he => ?_
  · refine (PySem.W.each_mem e).mono fun v d hv => ?_
    obtain ⟨⟨x, rx, hx⟩, hm⟩ := hv
    exact L2.Dp.reads I d.py x v (Dp.py d x hx (h3 d hm).1) rx
  · have := (h3 d hd).2
    omega
  · obtain ⟨ys, ry, hy⟩ := of_each he
    obtain ⟨n, hn⟩ := sortedAll_at s.heap its (List.toArray out)
    refine ⟨.ref (s.heap.objs.size + 1), upd H (s.heap.objs.size + 1) (.lst ys), I.laid (t' := s.toks) (fun b o e => sortedAll_old e) (Nat.le_succ _) ⟨?_, out, n, ry, hn⟩, rfl, q ys _ hy (I.hok.fresh (Nat.le_succ _))⟩
    rw [ry.length, ho]; exact hz
theorem df_srtN {p : Pos} (hu : X.A.units + 65 < cLine) (hg : Gl X "sorted") (hm : X.mg "sorted" = none) (ha : DB J X E a ta) (he : starEach (a :: []) X.env = (false, eval a X.env) :: starEach [] X.env := by rfl) : DF J X E (.Call (.Name "sorted" p) [a] [] pos) (dSrtN ta) := by
  obtain ⟨te, p1, s1⟩ := ha.ex
  refine ⟨_, pe_callB (call_sortN hu) hg hm boot_sorted' (pa_cons p1 pa_nil he) (by decide) (by decide) he rfl, fun B O H σ ρ P R Q rl x h fin => s1 B O H σ ρ _ R _ rl x h fun v H1 d x1 hv h1 => ?_⟩
  cases d with
  | lst ds =>
    obtain ⟨a, xs, rfl, t, n, r⟩ := hv.lst
    refine ⟨O, a, xs, ds, rfl, .inl (.inl t), r, h1.1, n, fun ys p hy np => ?_⟩
    have x2 : Ext J.T H1 (upd H1 p (.lst ys)) := Ext.new np
    refine fin p _ _ (ds.mergeSort leD) (x1.trans x2) (x1.fresh np) ((rl.ext x1).free np) ((rl.ext x1).base.none np) upd_same (by rw [List.length_mergeSort]; exact n) (DpA.ext x2 (fun b o hb _ z => z.elim id fun e => by rw [e, np] at hb; cases hb) _ _ hy) h1.2
  | _ => exact h1.elim
end
/-! ### data of the module, nested -/
mutual
def isDv (K : PySem.W.Frag) : D → Value → Bool
  | .non, .none => true
  | .bl b, .bool c => b == c
  | .int i, .int j _ => decide (i = j)
  | .str x, .str y _ => decide (x = y)
  | .tup ds, .ref a => (match K.lookup a with
    | some ⟨.type c, _, .seq its _, _⟩ => decide (c = "tuple") && (decide (its.size ≤ sizeLine) && isDvA K ds its.toList)
    | _ => false)
  | _, _ => false
def isDvA (K : PySem.W.Frag) : List D → List Value → Bool
  | [], [] => true
  | d :: ds, v :: vs => isDv K d v && isDvA K ds vs
  | _, _ => false
end
mutual
theorem isDv_ok {P : Program} {w : World} {K : PySem.W.Frag} {O : Addr → Prop} {H : Hp} : ∀ (d : D) (v : Value), isDv K d v = true → ∃ x : V, RelV x v ∧ Dp ⟨P, w, K⟩ O H x d
  | .non, v, h => by
    cases v <;> first | (unfold isDv at h; cases h; done) | exact ⟨.non, rfl, rfl⟩
  | .bl b, v, h => by
    cases v with
    | bool c =>
      unfold isDv at h
      rw [beq_iff_eq.mp h]
      exact ⟨.bl c, rfl, rfl⟩
    | _ => unfold isDv at h; cases h
  | .int i, v, h => by
    cases v with
    | int j t =>
      unfold isDv at h
      rw [of_decide_eq_true h]
      exact ⟨.int j, ⟨t, rfl⟩, rfl⟩
    | _ => unfold isDv at h; cases h
  | .str i, v, h => by
    cases v with
    | str j t =>
      unfold isDv at h
      rw [of_decide_eq_true h]
      exact ⟨.str j, ⟨t, rfl⟩, rfl⟩
    | _ => unfold isDv at h; cases h
  | .tup ds, v, h => by
    cases v with
    | ref a =>
      unfold isDv at h
      cases q : K.lookup a with
      | none => rw [q] at h; cases h
      | some o =>
        obtain ⟨oc, od, dt, osl⟩ := o
        rw [q] at h
        cases oc with
        | type c =>
          cases dt with
          | seq its n =>
            have h : (decide (c = "tuple") && (decide (its.size ≤ sizeLine) && isDvA K ds its.toList)) = true := h
            rw [Bool.and_eq_true, Bool.and_eq_true, decide_eq_true_eq, decide_eq_true_eq] at h
            obtain ⟨h1, h2, h3⟩ := h
            obtain ⟨xs, hr, hx⟩ := isDvA_ok (P := P) (w := w) (O := O) (H := H) ds its.toList h3
            have hl : ds.length ≤ sizeLine := by
              rw [← DpA.len hx, hr.length, Array.length_toList]; exact h2
            exact ⟨.ref a, rfl, a, xs, rfl, .inr (.inr (.inr ⟨_, its, n, q, congrArg Value.type h1, rfl, h2, hr⟩)), hl, hx⟩
          | _ => cases h
        | _ => cases dt <;> cases h
    | _ => unfold isDv at h; cases h
  | .lst _, v, h => by unfold isDv at h; cases v <;> cases h
  | .dct _ _, v, h => by unfold isDv at h; cases v <;> cases h
  | .town, v, h => by unfold isDv at h; cases v <;> cases h
  | .scr, v, h => by unfold isDv at h; cases v <;> cases h
  | .obj _, v, h => by unfold isDv at h; cases v <;> cases h
  | .ftp _, v, h => by unfold isDv at h; cases v <;> cases h
theorem isDvA_ok {P : Program} {w : World} {K : PySem.W.Frag} {O : Addr → Prop} {H : Hp} : ∀ (ds : List D) (vs : List Value), isDvA K ds vs = true → ∃ xs : List V, Vals xs vs ∧ DpA ⟨P, w, K⟩ O H xs ds
  | [], [], _ => ⟨[], .nil, trivial⟩
  | d :: ds, v :: vs, h => by
    unfold isDvA at h
    rw [Bool.and_eq_true] at h
    obtain ⟨x, r, hx⟩ := isDv_ok (P := P) (w := w) (O := O) (H := H) d v h.1
    obtain ⟨xs, rs, hxs⟩ := isDvA_ok (P := P) (w := w) (O := O) (H := H) ds vs h.2
    exact ⟨x :: xs, .cons r rs, hx, hxs⟩
  | [], _ :: _, h => by unfold isDvA at h; cases h
  | _ :: _, [], h => by unfold isDvA at h; cases h
end
theorem de_globT {J : Jd} {X : Cx} {E : XK} {x : Str} {pos : Pos} {d : D} (hg : Gl X x) (hm : X.mg x = some (.ref (He.ga X.K x))) (h : isDv X.K d (.ref (He.ga X.K x)) = true) (hd : (x == ("__debug__" : Str)) = false := by decide) : DE J X E (.Name x pos) (dC d) := by
  refine ⟨_, pe_glob hg hm (v := .ref (He.ga X.K x)) rfl hd, fun B O H σ ρ P R Q rl xx ht fin => ?_⟩
  obtain ⟨y, r, hy⟩ := isDv_ok (P := X.prog) (w := X.w) (O := O) (H := H) d _ h
  cases y with
  | ref a =>
    cases r
    exact fin _ H d Ext.refl hy ht
  | _ => first | (cases r; done) | (obtain ⟨_, e⟩ := r; cases e) | (obtain ⟨_, _, e⟩ := r; cases e)
end DL
namespace DL
open PySem PySem.Spec PyProof.Rows L2

inductive Shp | a | b | c | d deriving DecidableEq
inductive Trn | i | o | l | r deriving DecidableEq
inductive Mov | n | u | w | l | r deriving DecidableEq
inductive Plc | p0 | p1 | p2 deriving DecidableEq
inductive Sec | non | m | hand (s : Shp) (t : Trn) deriving DecidableEq
structure Sgn where
  sh : Shp
  tn : Trn
  mv : Mov
  pl : Plc
  sc : Sec
deriving DecidableEq
def Shp.s : Shp → Str | .a => "a" | .b => "b" | .c => "c" | .d => "d"
def Trn.s : Trn → Str | .i => "i" | .o => "o" | .l => "l" | .r => "r"
def Mov.s : Mov → Str | .n => "n" | .u => "u" | .w => "w" | .l => "l" | .r => "r"
def Plc.i : Plc → Int | .p0 => 0 | .p1 => 1 | .p2 => 2
def Sec.d : Sec → D | .non => .non | .m => .str "m" | .hand s t => .tup [.str s.s, .str t.s]
def Sgn.d (s : Sgn) : D := .tup [.str s.sh.s, .str s.tn.s, .str s.mv.s, .int s.pl.i, s.sc.d]
def goTog (sh : Shp) (mv : Mov) : Sec → Bool
  | .non => true
  | .m => mv != .n
  | .hand s _ => s == .a || s == .b || s == sh
def Sgn.good (s : Sgn) : Bool := goTog s.sh s.mv s.sc

/-- values that can be looked at -/
def D.plain : D → Bool
  | .non => true
  | .bl _ => true
  | .int _ => true
  | .str x => decide (x.length ≤ sizeLine)
  | .tup ds => plainA ds
  | .lst ds => plainA ds
  | .dct _ _ => false
  | .town => false
  | .scr => false
  | .obj _ => false
  | .ftp _ => false
where plainA : List D → Bool
  | [] => true
  | d :: ds => d.plain && plainA ds

@[simp] theorem eqD_int (i j : Int) : eqD (.int i) (.int j) = (i == j) := by simp [eqD, D.py, PyData.eqv]
@[simp] theorem eqD_str (i j : Str) : eqD (.str i) (.str j) = (i == j) := by simp [eqD, D.py, PyData.eqv]
@[simp] theorem eqD_bl (i j : Bool) : eqD (.bl i) (.bl j) = (i == j) := by simp [eqD, D.py, PyData.eqv]
@[simp] theorem eqD_ts (ds : List D) (j : Str) : eqD (.tup ds) (.str j) = false := by simp [eqD, D.py, PyData.eqv]
@[simp] theorem eqD_tup (ds es : List D) : eqD (.tup ds) (.tup es) = PyData.eqvAll (D.pyA ds) (D.pyA es) := by simp [eqD, D.py, PyData.eqv]
/-! ### what == may be asked of: depth at most n -/
def shn (n : Nat) (d : D) : Prop := d.py.canLay0 = true ∧ d.py.depth ≤ n
theorem shn.mono {m n : Nat} {d : D} (h : shn m d) (k : m ≤ n) : shn n d := ⟨h.1, Nat.le_trans h.2 k⟩
theorem shn.shp {n : Nat} {d : D} (h : shn n d) (k : n ≤ 64 := by omega) : shp d = true := by
  unfold DL.shp SeqAt.shaped
  rw [h.1, Bool.true_and]
  exact decide_eq_true (Nat.le_trans h.2 k)
theorem shn_int (i : Int) : shn 0 (.int i) := by constructor <;> simp [D.py, PyData.canLay0, PyData.depth]
theorem shn_bl (i : Bool) : shn 0 (.bl i) := by constructor <;> simp [D.py, PyData.canLay0, PyData.depth]
theorem shn_non : shn 0 .non := by constructor <;> simp [D.py, PyData.canLay0, PyData.depth]
theorem shn_str {x : Str} (h : PyData.strOk x = true) : shn 0 (.str x) := by constructor <;> simp [D.py, PyData.canLay0, PyData.depth, h]
theorem shn_all {n : Nat} : ∀ {ds : List D}, (∀ d ∈ ds, shn n d) → PyData.canLayAll0 (D.pyA ds) = true ∧ PyData.depthAll (D.pyA ds) ≤ n
  | [], _ => by simp [D.pyA, PyData.canLayAll0, PyData.depthAll]
  | d :: ds, h => by
    have h1 := h d (by simp)
    have h2 := shn_all fun e he => h e (List.mem_cons_of_mem _ he)
    simp only [D.pyA, PyData.canLayAll0, PyData.depthAll, h1.1, h2.1, Bool.and_self, true_and]
    exact Nat.max_le.mpr ⟨h1.2, h2.2⟩
theorem shn_tup {n : Nat} {ds : List D} (h : ∀ d ∈ ds, shn n d) : shn (n + 1) (.tup ds) := by
  have := shn_all h
  constructor
  · simp [D.py, PyData.canLay0, this.1]
  · simp [D.py, PyData.depth, this.2]
theorem shn_lst {n : Nat} {ds : List D} (h : ∀ d ∈ ds, shn n d) : shn (n + 1) (.lst ds) := by
  have := shn_all h
  constructor
  · simp [D.py, PyData.canLay0, this.1]
  · simp [D.py, PyData.depth, this.2]
@[simp] theorem shp_int (i : Int) : shp (.int i) = true := (shn_int i).shp
@[simp] theorem shp_bl (i : Bool) : shp (.bl i) = true := (shn_bl i).shp
@[simp] theorem shp_non : shp .non = true := shn_non.shp
theorem shn_Sh (s : Shp) : shn 0 (.str s.s) := shn_str (by cases s <;> decide +kernel)
theorem shn_Tn (s : Trn) : shn 0 (.str s.s) := shn_str (by cases s <;> decide +kernel)
theorem shn_Mv (s : Mov) : shn 0 (.str s.s) := shn_str (by cases s <;> decide +kernel)
theorem shn_Sc (s : Sec) : shn 1 s.d := by
  cases s with
  | non => exact shn_non.mono (by omega)
  | m => exact (shn_str (by decide +kernel)).mono (by omega)
  | hand s t => exact shn_tup (by simp [shn_Sh, shn_Tn])
theorem shn_S (s : Sgn) : shn 2 s.d :=
  shn_tup (by simp [(shn_Sh s.sh).mono (show 0 ≤ 1 by omega), (shn_Tn s.tn).mono (show 0 ≤ 1 by omega), (shn_Mv s.mv).mono (show 0 ≤ 1 by omega), (shn_int s.pl.i).mono (show 0 ≤ 1 by omega), shn_Sc s.sc])
@[simp] theorem shp_Sh (s : Shp) : shp (.str s.s) = true := (shn_Sh s).shp
@[simp] theorem shp_Tn (s : Trn) : shp (.str s.s) = true := (shn_Tn s).shp
@[simp] theorem shp_Mv (s : Mov) : shp (.str s.s) = true := (shn_Mv s).shp
@[simp] theorem shp_Sc (s : Sec) : shp s.d = true := (shn_Sc s).shp
@[simp] theorem shp_S (s : Sgn) : shp s.d = true := (shn_S s).shp
@[simp] theorem shp_m : shp (.str "m") = true := (shn_str (by decide +kernel)).shp
@[simp] theorem shp_n : shp (.str "n") = true := (shn_str (by decide +kernel)).shp
@[simp] theorem plain_int (i : Int) : (D.int i).plain = true := by simp [D.plain]
@[simp] theorem plain_bl (i : Bool) : (D.bl i).plain = true := by simp [D.plain]
@[simp] theorem plain_non : D.non.plain = true := by simp [D.plain]
@[simp] theorem plain_str (x : Str) : (D.str x).plain = decide (x.length ≤ sizeLine) := by simp [D.plain]
@[simp] theorem plain_town : D.town.plain = false := by simp [D.plain]
@[simp] theorem plain_scr : D.scr.plain = false := by simp [D.plain]
@[simp] theorem plain_obj (v : V) : (D.obj v).plain = false := by simp [D.plain]
@[simp] theorem plain_ftp (xs : List D) : (D.ftp xs).plain = false := by simp [D.plain]
@[simp] theorem plain_dct (a : List Str) (b : List D) : (D.dct a b).plain = false := by simp [D.plain]
@[simp] theorem plain_tup (ds : List D) : (D.tup ds).plain = ds.all D.plain := by
  simp only [D.plain]
  induction ds with
  | nil => rfl
  | cons d ds ih => simp only [D.plain.plainA, List.all_cons, ih]
@[simp] theorem plain_lst (ds : List D) : (D.lst ds).plain = ds.all D.plain := by
  simp only [D.plain]
  induction ds with
  | nil => rfl
  | cons d ds ih => simp only [D.plain.plainA, List.all_cons, ih]
@[simp] theorem plain_Sh (s : Shp) : s.s.length ≤ sizeLine := by cases s <;> decide +kernel
@[simp] theorem plain_Tn (s : Trn) : s.s.length ≤ sizeLine := by cases s <;> decide +kernel
@[simp] theorem plain_Mv (s : Mov) : s.s.length ≤ sizeLine := by cases s <;> decide +kernel
@[simp] theorem plain_Sc (s : Sec) : s.d.plain = true := by
  cases s with
  | non => rfl
  | m => decide +kernel
  | hand s t => simp [Sec.d]
@[simp] theorem plain_S (s : Sgn) : s.d.plain = true := by simp [Sgn.d]
theorem ofNat_line {n : Nat} (h : n ≤ 1000 := by decide) : n ≤ sizeLine := Nat.le_trans h (by decide)
@[simp] theorem line0 : 0 ≤ sizeLine := Nat.zero_le _
@[simp] theorem line1 : 1 ≤ sizeLine := by decide
@[simp] theorem line2 : 2 ≤ sizeLine := by decide
@[simp] theorem line3 : 3 ≤ sizeLine := by decide
@[simp] theorem line4 : 4 ≤ sizeLine := by decide
@[simp] theorem line5 : 5 ≤ sizeLine := by decide
@[simp] theorem line6 : 6 ≤ sizeLine := by decide
@[simp] theorem atI0 {α : Type} (a : α) (r : List α) : atI (a :: r) 0 = some a := by
  unfold atI ixN
  have : (0 : Int) < ((a :: r).length : Nat) := by rw [List.length_cons]; omega
  rw [if_pos (by omega), if_pos this]; rfl
@[simp] theorem atI1 {α : Type} (a b : α) (r : List α) : atI (a :: b :: r) 1 = some b := by
  unfold atI ixN
  have : (1 : Int) < ((a :: b :: r).length : Nat) := by rw [List.length_cons, List.length_cons]; omega
  rw [if_pos (by omega), if_pos this]; rfl
@[simp] theorem atI2 {α : Type} (a b c : α) (r : List α) : atI (a :: b :: c :: r) 2 = some c := by
  unfold atI ixN
  have : (2 : Int) < ((a :: b :: c :: r).length : Nat) := by simp only [List.length_cons]; omega
  rw [if_pos (by omega), if_pos this]; rfl
@[simp] theorem atI3 {α : Type} (a b c d : α) (r : List α) : atI (a :: b :: c :: d :: r) 3 = some d := by
  unfold atI ixN
  have : (3 : Int) < ((a :: b :: c :: d :: r).length : Nat) := by simp only [List.length_cons]; omega
  rw [if_pos (by omega), if_pos this]; rfl
@[simp] theorem atI4 {α : Type} (a b c d e : α) (r : List α) : atI (a :: b :: c :: d :: e :: r) 4 = some e := by
  unfold atI ixN
  have : (4 : Int) < ((a :: b :: c :: d :: e :: r).length : Nat) := by simp only [List.length_cons]; omega
  rw [if_pos (by omega), if_pos this]; rfl
/-! ### letters -/
def isLet (x z : Str) : Bool := decide ((x.length : Int) = 1) && inStr x z
def isLetD (d : D) (z : Str) : Bool := match d with
  | .str x => isLet x z
  | _ => false
@[simp] def sd_is_between : SpD := fun ds P _ => match ds with
  | [d, .int lo, .int hi] => d.plain = true ∧ P (.bl (match d with | .int i => decide (lo ≤ i) && decide (i ≤ hi) | _ => false))
  | _ => False
def t_is_between : DST :=
    (sRet (dAnd (dIsT isIntD (dV 0)) (dAnd (dNot (dIsT isBoolD (dV 0))) (dChain (fII fun i j => .bl (decide (i ≤ j))) (fII fun i j => .bl (decide (i ≤ j))) (dV 1) (dV 0) (dV 2)))))
theorem len_is_between : ∀ ds P R, sd_is_between ds P R → ds.length = 3 := fun ds P R h => by
  unfold sd_is_between at h; split at h
  · rfl
  · exact h.elim
theorem vc_is_between : ∀ ds P R, sd_is_between ds P R → t_is_between (startR ["value", "low", "high"] ds) ⟨fun _ => P .non, P, fun _ => False, fun _ => False, R⟩ := fun ds P R h => by
  unfold sd_is_between at h; split at h
  · rename_i d lo hi
    obtain ⟨hp, h⟩ := h
    cases d <;> simp [t_is_between] at hp ⊢
    case int i =>
      have h : P (.bl (decide (lo ≤ i) && decide (i ≤ hi))) := h
      split <;> rename_i z <;> simp [z] at h <;> exact h
    all_goals exact h
  · exact h.elim
@[simp] def sd_is_letter : SpD := fun ds P _ => match ds with
  | [d, .str z] => d.plain = true ∧ P (.bl (isLetD d z))
  | _ => False
theorem len_is_letter : ∀ ds P R, sd_is_letter ds P R → ds.length = 2 := fun ds P R h => by
  unfold sd_is_letter at h; split at h
  · rfl
  · exact h.elim
def t_is_letter : DST :=
    (sRet (dAnd (dIsT isStrD (dV 0)) (dAnd (dOp fEq (dLen (dV 0)) (dC (.int 1))) (dOp (fIn false) (dV 0) (dV 1)))))
theorem vc_is_letter : ∀ ds P R, sd_is_letter ds P R → t_is_letter (startR ["value", "letters"] ds) ⟨fun _ => P .non, P, fun _ => False, fun _ => False, R⟩ := fun ds P R h => by
  unfold sd_is_letter at h; split at h
  · rename_i d z
    obtain ⟨hp, h⟩ := h
    cases d <;> simp [t_is_letter] at hp ⊢
    case str x =>
      have h : P (.bl (isLet x z)) := h
      unfold isLet at h
      refine ⟨hp, ?_⟩
      split <;> rename_i q <;> simp [q] at h <;> exact h
    all_goals exact h
  · exact h.elim
def isHandD (d : D) : Bool := match d with
  | .tup [a, b] => isLetD a "abcd" && isLetD b "iolr"
  | _ => false
@[simp] def sd_is_hand : SpD := fun ds P _ => match ds with
  | [d] => d.plain = true ∧ P (.bl (isHandD d))
  | _ => False
theorem len_is_hand : ∀ ds P R, sd_is_hand ds P R → ds.length = 1 := fun ds P R h => by
  unfold sd_is_hand at h; split at h
  · rfl
  · exact h.elim
def t_is_hand : DST :=
    (sSeq (sIf (qOr (qNot (qV (dIsT isTupD (dV 0)))) (qV (dOp fNe (dLen (dV 0)) (dC (.int 2)))))
      (sRet (dC (.bl false)))
      sNext)
    (sRet (dAnd (dCall sd_is_letter (dCons (dOp fIx (dV 0) (dC (.int 0))) (dCons (dC (.str "abcd")) dNil))) (dCall sd_is_letter (dCons (dOp fIx (dV 0) (dC (.int 1))) (dCons (dC (.str "iolr")) dNil))))))
theorem vc_is_hand : ∀ ds P R, sd_is_hand ds P R → t_is_hand (startR ["value"] ds) ⟨fun _ => P .non, P, fun _ => False, fun _ => False, R⟩ := fun ds P R h => by
  unfold sd_is_hand at h; split at h
  · rename_i d
    obtain ⟨hp, h⟩ := h
    cases d <;> simp [t_is_hand] at hp ⊢
    case tup ds =>
      match ds, hp, h with
      | [], _, h => exact h
      | [a], _, h => exact h
      | a :: b :: c :: r, _, h =>
        have : ¬ ((a :: b :: c :: r).length : Int) = 2 := by simp only [List.length_cons]; omega
        simp [this]; exact h
      | [a, b], hp, h =>
        have h : P (.bl (isLetD a "abcd" && isLetD b "iolr")) := h
        simp at hp ⊢
        refine ⟨hp.1, ?_⟩
        split <;> rename_i q <;> simp [q] at h
        · exact ⟨hp.2, h⟩
        · exact h
    all_goals exact h
  · exact h.elim
def isEntryD (k : Int) (d : D) : Bool :=
  if k = 3 then (match d with | .int i => decide (0 ≤ i) && decide (i ≤ 2) | _ => false)
  else if k = 4 then (match d with | .non => true | _ => isLetD d "m" || isHandD d)
  else if k = 0 then isLetD d "abcd" else if k = 1 then isLetD d "iolr" else isLetD d "nuwlr"
@[simp] def sd_is_entry : SpD := fun ds P _ => match ds with
  | [.int k, d] => (0 ≤ k ∧ k ≤ 4) ∧ d.plain = true ∧ P (.bl (isEntryD k d))
  | _ => False
theorem len_is_entry : ∀ ds P R, sd_is_entry ds P R → ds.length = 2 := fun ds P R h => by
  unfold sd_is_entry at h; split at h
  · rfl
  · exact h.elim
def t_is_entry : DST :=
    (sSeq (sIf (qV (dOp fEq (dV 0) (dC (.int 3))))
      (sRet (dCall sd_is_between (dCons (dV 1) (dCons (dC (.int 0)) (dCons (dOp (fII fun i j => .int (i - j)) (dC (.int 3)) (dC (.int 1))) dNil)))))
      sNext)
    (sSeq (sIf (qV (dOp fEq (dV 0) (dC (.int 4))))
      (sRet (dOr (dOp fIsN (dV 1) (dC .non)) (dOr (dCall sd_is_letter (dCons (dV 1) (dCons (dC (.str "m")) dNil))) (dCall sd_is_hand (dCons (dV 1) dNil)))))
      sNext)
    (sRet (dCall sd_is_letter (dCons (dV 1) (dCons (dOp fIx (dTup (dCons (dC (.str "abcd")) (dCons (dC (.str "iolr")) (dCons (dC (.str "nuwlr")) dNil)))) (dV 0)) dNil))))))
theorem vc_is_entry : ∀ ds P R, sd_is_entry ds P R → t_is_entry (startR ["thing", "value"] ds) ⟨fun _ => P .non, P, fun _ => False, fun _ => False, R⟩ := fun ds P R h => by
  unfold sd_is_entry at h; split at h
  · rename_i k d
    obtain ⟨⟨h0, h4⟩, hp, h⟩ := h
    rcases (by omega : k = 0 ∨ k = 1 ∨ k = 2 ∨ k = 3 ∨ k = 4) with rfl | rfl | rfl | rfl | rfl
    · simp [t_is_entry]; exact ⟨hp, h⟩
    · simp [t_is_entry]; exact ⟨hp, h⟩
    · simp [t_is_entry]; exact ⟨hp, h⟩
    · simp [t_is_entry]; exact ⟨hp, h⟩
    · cases d with
      | obj _ => simp at hp
      | non => simp [t_is_entry]; exact h
      | _ =>
        simp [t_is_entry, hp] at hp ⊢
        split <;> rename_i q <;> simp [isEntryD, q] at h <;> first | exact h | exact ⟨hp, h⟩ | (simp only [hp]; exact h)
  · exact h.elim
end DL
namespace DL
open PySem PySem.Spec PyProof.Rows L2
/-! ### data as signs -/
def decSh : D → Option Shp
  | .str x => if x = "a" then some .a else if x = "b" then some .b else if x = "c" then some .c else if x = "d" then some .d else none
  | _ => none
def decTn : D → Option Trn
  | .str x => if x = "i" then some .i else if x = "o" then some .o else if x = "l" then some .l else if x = "r" then some .r else none
  | _ => none
def decMv : D → Option Mov
  | .str x => if x = "n" then some .n else if x = "u" then some .u else if x = "w" then some .w else if x = "l" then some .l else if x = "r" then some .r else none
  | _ => none
def decPl : D → Option Plc
  | .int i => if i = 0 then some .p0 else if i = 1 then some .p1 else if i = 2 then some .p2 else none
  | _ => none
def decSc : D → Option Sec
  | .non => some .non
  | .str x => if x = "m" then some .m else none
  | .tup [a, b] => (decSh a).bind fun s => (decTn b).map fun t => .hand s t
  | _ => none
def decSg : D → Option Sgn
  | .tup [a, b, c, p, s] => (decSh a).bind fun a => (decTn b).bind fun b => (decMv c).bind fun c => (decPl p).bind fun p => (decSc s).map fun s => ⟨a, b, c, p, s⟩
  | _ => none
def isSignD (d : D) : Bool := match decSg d with
  | some s => s.good
  | none => false
theorem decSh_iff {d : D} {s : Shp} : decSh d = some s ↔ d = .str s.s := by
  constructor
  · intro h
    cases d with
    | str x =>
      simp only [decSh] at h
      repeat' split at h
      all_goals first | (cases h; subst_vars; rfl) | cases h
    | _ => cases h
  · rintro rfl
    cases s <;> decide +kernel
theorem decTn_iff {d : D} {s : Trn} : decTn d = some s ↔ d = .str s.s := by
  constructor
  · intro h
    cases d with
    | str x =>
      simp only [decTn] at h
      repeat' split at h
      all_goals first | (cases h; subst_vars; rfl) | cases h
    | _ => cases h
  · rintro rfl
    cases s <;> decide +kernel
theorem decMv_iff {d : D} {s : Mov} : decMv d = some s ↔ d = .str s.s := by
  constructor
  · intro h
    cases d with
    | str x =>
      simp only [decMv] at h
      repeat' split at h
      all_goals first | (cases h; subst_vars; rfl) | cases h
    | _ => cases h
  · rintro rfl
    cases s <;> decide +kernel
theorem decPl_iff {d : D} {s : Plc} : decPl d = some s ↔ d = .int s.i := by
  constructor
  · intro h
    cases d with
    | int x =>
      simp only [decPl] at h
      repeat' split at h
      all_goals first | (cases h; subst_vars; rfl) | cases h
    | _ => cases h
  · rintro rfl
    cases s <;> decide +kernel
theorem decSc_iff {d : D} {s : Sec} : decSc d = some s ↔ d = s.d := by
  constructor
  · intro h
    unfold decSc at h
    split at h
    · cases h; rfl
    · split at h
      · cases h; subst_vars; rfl
      · cases h
    · rename_i a b
      cases ha : decSh a with
      | none => rw [ha] at h; cases h
      | some x =>
        cases hb : decTn b with
        | none => rw [ha, hb] at h; cases h
        | some y =>
          rw [ha, hb] at h; cases h
          rw [decSh_iff.mp ha, decTn_iff.mp hb]; rfl
    · cases h
  · rintro rfl
    cases s with
    | non => rfl
    | m => decide +kernel
    | hand s t =>
      show (decSh (.str s.s)).bind (fun s => (decTn (.str t.s)).map fun t => Sec.hand s t) = _
      rw [decSh_iff.mpr rfl, decTn_iff.mpr rfl]; rfl
theorem decSg_iff {d : D} {s : Sgn} : decSg d = some s ↔ d = s.d := by
  constructor
  · intro h
    unfold decSg at h
    split at h
    · rename_i a b c p q
      cases ha : decSh a with
      | none => rw [ha] at h; cases h
      | some a' =>
        cases hb : decTn b with
        | none => rw [ha, hb] at h; cases h
        | some b' =>
          cases hc : decMv c with
          | none => rw [ha, hb, hc] at h; cases h
          | some c' =>
            cases hp : decPl p with
            | none => rw [ha, hb, hc, hp] at h; cases h
            | some p' =>
              cases hq : decSc q with
              | none => rw [ha, hb, hc, hp, hq] at h; cases h
              | some q' =>
                rw [ha, hb, hc, hp, hq] at h; cases h
                rw [decSh_iff.mp ha, decTn_iff.mp hb, decMv_iff.mp hc, decPl_iff.mp hp, decSc_iff.mp hq]; rfl
    · cases h
  · rintro rfl
    obtain ⟨a, b, c, p, q⟩ := s
    show (decSh (.str a.s)).bind (fun a => (decTn (.str b.s)).bind fun b => (decMv (.str c.s)).bind fun c => (decPl (.int p.i)).bind fun p => (decSc q.d).map fun s => (⟨a, b, c, p, s⟩ : Sgn)) = _
    rw [decSh_iff.mpr rfl, decTn_iff.mpr rfl, decMv_iff.mpr rfl, decPl_iff.mpr rfl, decSc_iff.mpr rfl]; rfl
theorem Sgn.d_inj {s t : Sgn} (h : s.d = t.d) : s = t := by
  have := decSg_iff.mpr h
  rw [decSg_iff.mpr rfl] at this; exact Option.some.inj this
theorem Sec.d_inj {s t : Sec} (h : s.d = t.d) : s = t := by
  have := decSc_iff.mpr h
  rw [decSc_iff.mpr rfl] at this; exact Option.some.inj this
@[simp] theorem isSign_d (s : Sgn) : isSignD s.d = s.good := by
  unfold isSignD; rw [decSg_iff.mpr rfl]
theorem isSign_iff {d : D} : isSignD d = true ↔ ∃ s : Sgn, s.good = true ∧ d = s.d := by
  constructor
  · intro h
    unfold isSignD at h
    split at h
    · rename_i s e
      exact ⟨s, h, decSg_iff.mp e⟩
    · cases h
  · rintro ⟨s, g, rfl⟩
    rw [isSign_d]; exact g
/-! ### letters -/
theorem isLet_of {x z : Str} (h : isLet x z = true) : ∃ c ∈ z.cps.toList, x = ⟨#[c]⟩ := by
  unfold isLet at h
  obtain ⟨h1, h2⟩ := Bool.and_eq_true_iff.mp h
  have h1 : (x.length : Int) = 1 := of_decide_eq_true h1
  have hl : x.cps.toList.length = 1 := by
    have : x.length = 1 := by omega
    rw [Array.length_toList]; exact this
  obtain ⟨c, hc⟩ : ∃ c, x.cps.toList = [c] := by
    match hx : x.cps.toList, hl with
    | [c], _ => exact ⟨c, rfl⟩
  unfold inStr at h2
  rw [hc] at h2
  exact ⟨c, of_decide_eq_true h2, str_of hc⟩
theorem isLetD_Sh {d : D} : isLetD d "abcd" = (decSh d).isSome := by
  cases d with
  | str x =>
    cases h : isLetD (.str x) "abcd" with
    | true =>
      obtain ⟨c, hc, rfl⟩ := isLet_of (show isLet x "abcd" = true from h)
      have : c = 97 ∨ c = 98 ∨ c = 99 ∨ c = 100 := by
        have e : ("abcd" : Str).cps.toList = [97, 98, 99, 100] := by decide +kernel
        rw [e] at hc; simpa using hc
      rcases this with rfl | rfl | rfl | rfl <;> decide +kernel
    | false =>
      cases k : decSh (.str x) with
      | none => rfl
      | some s =>
        have e := decSh_iff.mp k
        rw [e] at h
        cases s <;> exact absurd h (by decide +kernel)
  | _ => rfl
theorem isLetD_Tn {d : D} : isLetD d "iolr" = (decTn d).isSome := by
  cases d with
  | str x =>
    cases h : isLetD (.str x) "iolr" with
    | true =>
      obtain ⟨c, hc, rfl⟩ := isLet_of (show isLet x "iolr" = true from h)
      have : c = 105 ∨ c = 111 ∨ c = 108 ∨ c = 114 := by
        have e : ("iolr" : Str).cps.toList = [105, 111, 108, 114] := by decide +kernel
        rw [e] at hc; simpa using hc
      rcases this with rfl | rfl | rfl | rfl <;> decide +kernel
    | false =>
      cases k : decTn (.str x) with
      | none => rfl
      | some s =>
        have e := decTn_iff.mp k
        rw [e] at h
        cases s <;> exact absurd h (by decide +kernel)
  | _ => rfl
theorem isLetD_Mv {d : D} : isLetD d "nuwlr" = (decMv d).isSome := by
  cases d with
  | str x =>
    cases h : isLetD (.str x) "nuwlr" with
    | true =>
      obtain ⟨c, hc, rfl⟩ := isLet_of (show isLet x "nuwlr" = true from h)
      have : c = 110 ∨ c = 117 ∨ c = 119 ∨ c = 108 ∨ c = 114 := by
        have e : ("nuwlr" : Str).cps.toList = [110, 117, 119, 108, 114] := by decide +kernel
        rw [e] at hc; simpa using hc
      rcases this with rfl | rfl | rfl | rfl | rfl <;> decide +kernel
    | false =>
      cases k : decMv (.str x) with
      | none => rfl
      | some s =>
        have e := decMv_iff.mp k
        rw [e] at h
        cases s <;> exact absurd h (by decide +kernel)
  | _ => rfl
theorem isLetD_m {x : Str} : isLetD (.str x) "m" = decide (x = "m") := by
  by_cases e : x = "m"
  · subst e; decide +kernel
  · rw [decide_eq_false e]
    cases h : isLetD (.str x) "m" with
    | false => rfl
    | true =>
      obtain ⟨c, hc, rfl⟩ := isLet_of (show isLet x "m" = true from h)
      have : c = 109 := by
        have e : ("m" : Str).cps.toList = [109] := by decide +kernel
        rw [e] at hc; simpa using hc
      subst this
      exact absurd (by decide +kernel) e
theorem isHand_pair (a b : D) : isHandD (.tup [a, b]) = ((decSh a).isSome && (decTn b).isSome) := by
  show (isLetD a "abcd" && isLetD b "iolr") = _
  rw [isLetD_Sh, isLetD_Tn]
theorem isEntry0 (d : D) : isEntryD 0 d = (decSh d).isSome := isLetD_Sh
theorem isEntry1 (d : D) : isEntryD 1 d = (decTn d).isSome := isLetD_Tn
theorem isEntry2 (d : D) : isEntryD 2 d = (decMv d).isSome := isLetD_Mv
theorem isEntry3 (d : D) : isEntryD 3 d = (decPl d).isSome := by
  cases d with
  | int i =>
    show (decide (0 ≤ i) && decide (i ≤ 2)) = _
    by_cases h : 0 ≤ i ∧ i ≤ 2
    · rcases (by omega : i = 0 ∨ i = 1 ∨ i = 2) with rfl | rfl | rfl <;> decide +kernel
    · have h1 : ¬ i = 0 := by omega
      have h2 : ¬ i = 1 := by omega
      have h3 : ¬ i = 2 := by omega
      simp only [decPl]
      rw [if_neg h1, if_neg h2, if_neg h3]
      simp; omega
  | _ => rfl
theorem isEntry4 (d : D) : isEntryD 4 d = (decSc d).isSome := by
  cases d with
  | non => rfl
  | str x =>
    show (isLetD (.str x) "m" || isHandD (.str x)) = _
    rw [isLetD_m]
    show (decide (x = "m") || false) = (if x = "m" then some Sec.m else none).isSome
    by_cases e : x = "m"
    · rw [if_pos e, decide_eq_true e]; rfl
    · rw [if_neg e, decide_eq_false e]; rfl
  | tup ds =>
    show (false || isHandD (.tup ds)) = _
    match ds with
    | [] => rfl
    | [a] => rfl
    | a :: b :: c :: r => rfl
    | [a, b] =>
      rw [isHand_pair]
      show (false || ((decSh a).isSome && (decTn b).isSome)) = ((decSh a).bind fun s => (decTn b).map fun t => Sec.hand s t).isSome
      cases decSh a <;> cases decTn b <;> rfl
  | _ => rfl
/-! ### the promises about signs -/
@[simp] def sd_do_go_together : SpD := fun ds P _ => ∃ (sh : Shp) (mv : Mov) (sc : Sec), ds = [.str sh.s, .str mv.s, sc.d] ∧ P (.bl (goTog sh mv sc))
theorem len_do_go_together : ∀ ds P R, sd_do_go_together ds P R → ds.length = 3 := fun ds P R h => by
  obtain ⟨_, _, _, rfl, _⟩ := h; rfl
def t_do_go_together : DST :=
    (sSeq (sIf (qV (dOp fIsN (dV 2) (dC .non)))
      (sRet (dC (.bl true)))
      sNext)
    (sSeq (sIf (qV (dOp fEq (dV 2) (dC (.str "m"))))
      (sRet (dOp fNe (dV 1) (dC (.str "n"))))
      sNext)
    (sRet (dOr (dOp (fIn false) (dOp fIx (dV 2) (dC (.int 0))) (dC (.str "ab"))) (dOp fEq (dOp fIx (dV 2) (dC (.int 0))) (dV 0))))))
theorem sh_eq (a b : Shp) : (a.s == b.s) = (a == b) := by cases a <;> cases b <;> decide +kernel
theorem tn_eq (a b : Trn) : (a.s == b.s) = (a == b) := by cases a <;> cases b <;> decide +kernel
theorem mv_eq (a b : Mov) : (a.s == b.s) = (a == b) := by cases a <;> cases b <;> decide +kernel
theorem sh_ab (a : Shp) : inStr a.s "ab" = (a == .a || a == .b) := by cases a <;> decide +kernel
theorem mv_n (a : Mov) : (a.s == "n") = (a == .n) := by cases a <;> decide +kernel
theorem mm : (("m" : Str) == "m") = true := by decide +kernel
theorem vc_do_go_together : ∀ ds P R, sd_do_go_together ds P R → t_do_go_together (startR ["shape", "move", "second"] ds) ⟨fun _ => P .non, P, fun _ => False, fun _ => False, R⟩ := fun ds P R h => by
  obtain ⟨sh, mv, sc, rfl, h⟩ := h
  cases sc with
  | non => simp [t_do_go_together, Sec.d]; exact h
  | m =>
    have h : P (.bl (mv != .n)) := h
    simp [t_do_go_together, Sec.d, mv_n]
    exact h
  | hand s t =>
    have h : P (.bl (s == .a || s == .b || s == sh)) := h
    have e1 := shp_Sc (.hand s t)
    simp only [Sec.d] at e1
    simp [t_do_go_together, Sec.d, sh_ab, sh_eq, e1]
    split <;> rename_i z
    · have : (s == .a || s == .b) = true := by simpa using z
      rw [this] at h; exact h
    · have : (s == .a || s == .b) = false := by simpa using z
      rw [this] at h; exact h
@[simp] def sd_is_sign : SpD := fun ds P _ => match ds with
  | [d] => d.plain = true ∧ P (.bl (isSignD d))
  | _ => False
theorem len_is_sign : ∀ ds P R, sd_is_sign ds P R → ds.length = 1 := fun ds P R h => by
  unfold sd_is_sign at h; split at h
  · rfl
  · exact h.elim
def t_is_sign : DST :=
    (sSeq (sIf (qOr (qNot (qV (dIsT isTupD (dV 0)))) (qV (dOp fNe (dLen (dV 0)) (dC (.int 5)))))
      (sRet (dC (.bl false)))
      sNext)
    (sSeq (sIf (qNot (qV (dAll (dOfL (dLc (dEnum (dV 0)) (gT 2 (gsCons (gN 1) (gsCons (gN 2) gsNil))) qYes (dCall sd_is_entry (dCons (dV 1) (dCons (dV 2) dNil))) [1, 2])))))
      (sRet (dC (.bl false)))
      sNext)
    (sRet (dCall sd_do_go_together (dCons (dOp fIx (dV 0) (dC (.int 0))) (dCons (dOp fIx (dV 0) (dC (.int 2))) (dCons (dOp fIx (dV 0) (dC (.int 4))) dNil)))))))
theorem enum5 (a b c p s : D) : enumD [a, b, c, p, s] = [.tup [.int 0, a], .tup [.int 1, b], .tup [.int 2, c], .tup [.int 3, p], .tup [.int 4, s]] := rfl
theorem vc_is_sign : ∀ ds P R, sd_is_sign ds P R → t_is_sign (startR ["value", "thing", "one"] ds) ⟨fun _ => P .non, P, fun _ => False, fun _ => False, R⟩ := fun ds P R h => by
  unfold sd_is_sign at h; split at h
  · rename_i d
    obtain ⟨hp, h⟩ := h
    cases d <;> simp [t_is_sign] at hp ⊢
    case tup ds =>
      match ds, hp, h with
      | [], _, h => exact h
      | [a], _, h => exact h
      | [a, b], _, h => exact h
      | [a, b, c], _, h => exact h
      | [a, b, c, d], _, h => exact h
      | a :: b :: c :: d :: e :: f :: r, _, h =>
        have : ¬ ((a :: b :: c :: d :: e :: f :: r).length : Int) = 5 := by simp only [List.length_cons]; omega
        simp [this]; exact h
      | [a, b, c, p, s], hp, h =>
        simp at hp
        simp [enum5, hp, isEntry0, isEntry1, isEntry2, isEntry3, isEntry4]
        have fin : isSignD (.tup [a, b, c, p, s]) = false → P (.bl false) := fun e => by rw [e] at h; exact h
        cases ha : decSh a with
        | none => simp; exact fin (by simp [isSignD, decSg, ha])
        | some a' =>
        cases hb : decTn b with
        | none => simp; exact fin (by simp [isSignD, decSg, ha, hb])
        | some b' =>
        cases hc : decMv c with
        | none => simp; exact fin (by simp [isSignD, decSg, ha, hb, hc])
        | some c' =>
        cases hq : decPl p with
        | none => simp; exact fin (by simp [isSignD, decSg, ha, hb, hc, hq])
        | some p' =>
        cases hs : decSc s with
        | none => simp; exact fin (by simp [isSignD, decSg, ha, hb, hc, hq, hs])
        | some s' =>
          simp
          refine ⟨a', c', s', ⟨decSh_iff.mp ha, decMv_iff.mp hc, decSc_iff.mp hs⟩, ?_⟩
          have e : isSignD (.tup [a, b, c, p, s]) = goTog a' c' s' := by simp [isSignD, decSg, ha, hb, hc, hq, hs, Sgn.good]
          rw [e] at h; exact h
    all_goals exact h
  · exact h.elim
/-- a sign is wanted -/
@[simp] def sd_check_sign : SpD := fun ds P R => match ds with
  | [d] => d.plain = true ∧ (isSignD d = true → P .non) ∧ (isSignD d = false → R "InvalidSign")
  | _ => False
theorem len_check_sign : ∀ ds P R, sd_check_sign ds P R → ds.length = 1 := fun ds P R h => by
  unfold sd_check_sign at h; split at h
  · rfl
  · exact h.elim
def t_check_sign : DST :=
    (sIf (qNot (qV (dCall sd_is_sign (dCons (dV 0) dNil))))
      (sRaise "InvalidSign")
      sNext)
theorem vc_check_sign : ∀ ds P R, sd_check_sign ds P R → t_check_sign (startR ["sign"] ds) ⟨fun _ => P .non, P, fun _ => False, fun _ => False, R⟩ := fun ds P R h => by
  unfold sd_check_sign at h; split at h
  · rename_i d
    obtain ⟨hp, h1, h2⟩ := h
    simp [t_check_sign, hp]
    cases z : isSignD d with
    | true => simp; exact h1 z
    | false => simp; exact h2 z
  · exact h.elim
@[simp] def sd_check_two : SpD := fun ds P R => match ds with
  | [d, e] => d.plain = true ∧ e.plain = true ∧ (isSignD d = true → isSignD e = true → P .non) ∧ (isSignD d = false ∨ isSignD e = false → R "InvalidSign")
  | _ => False
theorem len_check_two : ∀ ds P R, sd_check_two ds P R → ds.length = 2 := fun ds P R h => by
  unfold sd_check_two at h; split at h
  · rfl
  · exact h.elim
def t_check_two : DST :=
    (sSeq (sDrop (dCall sd_check_sign (dCons (dV 0) dNil)))
    (sDrop (dCall sd_check_sign (dCons (dV 1) dNil))))
theorem vc_check_two : ∀ ds P R, sd_check_two ds P R → t_check_two (startR ["one", "other"] ds) ⟨fun _ => P .non, P, fun _ => False, fun _ => False, R⟩ := fun ds P R h => by
  unfold sd_check_two at h; split at h
  · rename_i d e
    obtain ⟨hp, hq, h1, h2⟩ := h
    simp [t_check_two, hp, hq]
    exact ⟨fun z => ⟨fun y => h1 z y, fun y => h2 (.inr y)⟩, fun z => h2 (.inl z)⟩
  · exact h.elim
/-- the things in which two signs differ -/
def unlikeL (s t : Sgn) : List Int := (if s.sh = t.sh then [] else [0]) ++ (if s.tn = t.tn then [] else [1]) ++ (if s.mv = t.mv then [] else [2]) ++ (if s.pl = t.pl then [] else [3]) ++ (if s.sc = t.sc then [] else [4])
@[simp] def sd_unlike_in : SpD := fun ds P _ => ∃ s t : Sgn, ds = [s.d, t.d] ∧ P (.lst ((unlikeL s t).map .int))
theorem len_unlike_in : ∀ ds P R, sd_unlike_in ds P R → ds.length = 2 := fun ds P R h => by
  obtain ⟨_, _, rfl, _⟩ := h; rfl
def t_unlike_in : DST :=
    (sRet (dOfL (dLc (dRange (dC (.int 5))) (gN 2) (qV (dOp fNe (dOp fIx (dV 0) (dV 2)) (dOp fIx (dV 1) (dV 2)))) (dV 2) [2])))
theorem range5 : rangeD 0 5 = [.int 0, .int 1, .int 2, .int 3, .int 4] := rfl
theorem pl_eq (a b : Plc) : (a.i == b.i) = (a == b) := by cases a <;> cases b <;> decide +kernel
theorem sc_eq (a b : Sec) : eqD a.d b.d = decide (a = b) := by
  cases a with
  | non => cases b <;> simp [Sec.d, eqD, D.py, PyData.eqv]
  | m => cases b with
    | non => simp [Sec.d, eqD, D.py, PyData.eqv]
    | m => simp [Sec.d, eqD, D.py, PyData.eqv, mm]
    | hand s t => simp [Sec.d, eqD, D.py, PyData.eqv]
  | hand s t => cases b with
    | non => simp [Sec.d, eqD, D.py, PyData.eqv]
    | m => simp [Sec.d, eqD, D.py, PyData.eqv]
    | hand u v =>
      simp only [Sec.d, eqD, D.py, D.pyA, PyData.eqv, PyData.eqvAll, sh_eq, tn_eq]
      cases s <;> cases t <;> cases u <;> cases v <;> decide
theorem vc_unlike_in : ∀ ds P R, sd_unlike_in ds P R → t_unlike_in (startR ["one", "other", "thing"] ds) ⟨fun _ => P .non, P, fun _ => False, fun _ => False, R⟩ := fun ds P R h => by
  obtain ⟨s, t, rfl, h⟩ := h
  simp [t_unlike_in, range5, Sgn.d, sh_eq, tn_eq, mv_eq, pl_eq, sc_eq]
  unfold unlikeL at h
  by_cases h1 : s.sh = t.sh <;> by_cases h2 : s.tn = t.tn <;> by_cases h3 : s.mv = t.mv <;> by_cases h4 : s.pl = t.pl <;> by_cases h5 : s.sc = t.sc <;> simp [h1, h2, h3, h4, h5] at h ⊢ <;> exact h
@[simp] def sd_differences : SpD := fun ds P R => match ds with
  | [d, e] => d.plain = true ∧ e.plain = true ∧ (∀ s : Sgn, d = s.d → ∀ t : Sgn, e = t.d → s.good = true → t.good = true → P (.tup ((unlikeL s t).map .int))) ∧ (isSignD d = false ∨ isSignD e = false → R "InvalidSign")
  | _ => False
theorem len_differences : ∀ ds P R, sd_differences ds P R → ds.length = 2 := fun ds P R h => by
  unfold sd_differences at h; split at h
  · rfl
  · exact h.elim
def t_differences : DST :=
    (sSeq (sDrop (dCall sd_check_two (dCons (dV 0) (dCons (dV 1) dNil))))
    (sRet (dTuple (dCall sd_unlike_in (dCons (dV 0) (dCons (dV 1) dNil))))))
theorem vc_differences : ∀ ds P R, sd_differences ds P R → t_differences (startR ["one", "other"] ds) ⟨fun _ => P .non, P, fun _ => False, fun _ => False, R⟩ := fun ds P R h => by
  unfold sd_differences at h; split at h
  · rename_i d e
    obtain ⟨hp, hq, h1, h2⟩ := h
    simp [t_differences, hp, hq]
    refine ⟨fun z y => ?_, h2⟩
    obtain ⟨s, gs, rfl⟩ := isSign_iff.mp z
    obtain ⟨t, gt, rfl⟩ := isSign_iff.mp y
    refine ⟨s, t, ⟨rfl, rfl⟩, ?_⟩
    have := h1 s rfl t rfl gs gt
    simpa using this
  · exact h.elim
/-! ### mirrored signs -/
def swp (x : Str) : Str := if x = "l" then "r" else if x = "r" then "l" else x
@[simp] def sd_swapped : SpD := fun ds P _ => match ds with
  | [.str x] => P (.str (swp x))
  | _ => False
def Trn.mir : Trn → Trn | .i => .i | .o => .o | .l => .r | .r => .l
def Mov.mir : Mov → Mov | .n => .n | .u => .u | .w => .w | .l => .r | .r => .l
def Sec.mir : Sec → Sec | .non => .non | .m => .m | .hand s t => .hand s t.mir
def Sgn.mir (s : Sgn) : Sgn := ⟨s.sh, s.tn.mir, s.mv.mir, s.pl, s.sc.mir⟩
@[simp] theorem swp_tn (t : Trn) : swp t.s = t.mir.s := by cases t <;> decide +kernel
@[simp] theorem swp_mv (t : Mov) : swp t.s = t.mir.s := by cases t <;> decide +kernel
@[simp] def sd_turned_over : SpD := fun ds P _ => ∃ s : Sgn, ds = [s.d] ∧ P s.mir.d
theorem len_turned_over : ∀ ds P R, sd_turned_over ds P R → ds.length = 1 := fun ds P R h => by
  obtain ⟨_, rfl, _⟩ := h; rfl
def t_turned_over : DST :=
    (sSeq (sAsg (dV 0) (gT 5 (gsCons (gN 1) (gsCons (gN 2) (gsCons (gN 3) (gsCons (gN 4) (gsCons (gN 5) gsNil)))))))
    (sSeq (sIf (qV (dIsT isTupD (dV 5)))
      (sAsg (dTup (dCons (dOp fIx (dV 5) (dC (.int 0))) (dCons (dCall sd_swapped (dCons (dOp fIx (dV 5) (dC (.int 1))) dNil)) dNil))) (gN 5))
      sNext)
    (sRet (dTup (dCons (dV 1) (dCons (dCall sd_swapped (dCons (dV 2) dNil)) (dCons (dCall sd_swapped (dCons (dV 3) dNil)) (dCons (dV 4) (dCons (dV 5) dNil)))))))))
theorem vc_turned_over : ∀ ds P R, sd_turned_over ds P R → t_turned_over (startR ["sign", "shape", "turn", "move", "place", "second"] ds) ⟨fun _ => P .non, P, fun _ => False, fun _ => False, R⟩ := fun ds P R h => by
  obtain ⟨s, rfl, h⟩ := h
  obtain ⟨a, b, c, p, q⟩ := s
  cases q <;> simp [t_turned_over, Sgn.d, Sec.d] <;> exact h
@[simp] def sd_mirrored : SpD := fun ds P R => match ds with
  | [d] => d.plain = true ∧ (∀ s : Sgn, d = s.d → s.good = true → P s.mir.d) ∧ (isSignD d = false → R "InvalidSign")
  | _ => False
theorem len_mirrored : ∀ ds P R, sd_mirrored ds P R → ds.length = 1 := fun ds P R h => by
  unfold sd_mirrored at h; split at h
  · rfl
  · exact h.elim
def t_mirrored : DST :=
    (sSeq (sDrop (dCall sd_check_sign (dCons (dV 0) dNil)))
    (sRet (dCall sd_turned_over (dCons (dV 0) dNil))))
theorem vc_mirrored : ∀ ds P R, sd_mirrored ds P R → t_mirrored (startR ["sign"] ds) ⟨fun _ => P .non, P, fun _ => False, fun _ => False, R⟩ := fun ds P R h => by
  unfold sd_mirrored at h; split at h
  · rename_i d
    obtain ⟨hp, h1, h2⟩ := h
    simp [t_mirrored, hp]
    refine ⟨fun z => ?_, h2⟩
    obtain ⟨s, gs, rfl⟩ := isSign_iff.mp z
    exact ⟨s, rfl, h1 s rfl gs⟩
  · exact h.elim
end DL
namespace DL
open PySem PySem.Spec PyProof.Rows L2
/-! ### one statement at a time -/
section
variable {t : DT} {q : DTQ} {ti : DTA} {i : Nat} {u s s1 s2 : DST} {ρ : Rho} {De : DEnds} {g : GD}
/-- x = e, e is known -/
theorem seq_asg (d : D) (h : ∀ P : D → Prop, P d → t ρ P De.xc) (k : u (ρ.set i (.val d)) De) : sSeq (sAsg t (gN i)) u ρ De := h _ k
/-- x = e, e is one of S -/
theorem seq_any (S : D → Prop) (h : ∀ P : D → Prop, (∀ d, S d → P d) → t ρ P De.xc) (k : ∀ d, S d → u (ρ.set i (.val d)) De) : sSeq (sAsg t (gN i)) u ρ De := h _ k
/-- e, for its own sake -/
theorem seq_drop (h : ∀ P : D → Prop, (∀ d, P d) → t ρ P De.xc) (k : u ρ De) : sSeq (sDrop t) u ρ De := h _ fun _ => k
/-- if e: return v -- e is false -/
theorem seq_chk {v : DT} (h : ∀ P : Bool → Prop, P false → q ρ P De.xc) (k : u ρ De) : sSeq (sIf q (sRet v) sNext) u ρ De := h _ k
/-- the same as the last statement of a block -/
theorem one_chk {v : DT} (h : ∀ P : Bool → Prop, P false → q ρ P De.xc) (k : De.nx ρ) : sIf q (sRet v) sNext ρ De := h _ k
/-- if e: s1 else: s2, e is b -/
theorem seq_if (b : Bool) (h : ∀ P : Bool → Prop, P b → q ρ P De.xc) (k1 : b = true → sSeq s1 u ρ De) (k2 : b = false → sSeq s2 u ρ De) : sSeq (sIf q s1 s2) u ρ De := by
  refine h (fun b => if b = true then _ else _) ?_
  cases b
  · exact k2 rfl
  · exact k1 rfl
theorem one_if (b : Bool) (h : ∀ P : Bool → Prop, P b → q ρ P De.xc) (k1 : b = true → s1 ρ De) (k2 : b = false → s2 ρ De) : sIf q s1 s2 ρ De := by
  refine h (fun b => if b = true then _ else _) ?_
  cases b
  · exact k2 rfl
  · exact k1 rfl
theorem seq_next (k : u ρ De) : sSeq sNext u ρ De := k
theorem seq_seq {v : DST} (k : sSeq s (sSeq u v) ρ De) : sSeq (sSeq s u) v ρ De := k
theorem seq_for (ds : List D) (h : ∀ P : List D → Prop, P ds → ti ρ P De.xc) (k : forGo g s { De with nx := fun ρ' => u ρ' De } ds ρ) : sSeq (sFor ti g s) u ρ De := h _ k
theorem one_for (ds : List D) (h : ∀ P : List D → Prop, P ds → ti ρ P De.xc) (k : forGo g s De ds ρ) : sFor ti g s ρ De := h _ k
theorem go_nil (k : De.nx ρ) : forGo g s De [] ρ := k
theorem go_cons {d : D} {ds : List D} (k : s (ρ.set i (.val d)) { De with nx := forGo (gN i) s De ds, ct := forGo (gN i) s De ds, bk := De.nx }) : forGo (gN i) s De (d :: ds) ρ := k
theorem one_ret (d : D) (h : ∀ P : D → Prop, P d → t ρ P De.xc) (k : De.rt d) : sRet t ρ De := h _ k
theorem seq_app {d : D} {ds : List D} (e : ρ[i]? = some (.own ds)) (h : ∀ P : D → Prop, P d → t ρ P De.xc) (l : ds.length < sizeLine) (k : u (ρ.set i (.own (ds ++ [d]))) De) : sSeq (sApp i t) u ρ De := by
  unfold sSeq sApp
  rw [e]
  exact h _ ⟨l, k⟩
theorem one_app {d : D} {ds : List D} (e : ρ[i]? = some (.own ds)) (h : ∀ P : D → Prop, P d → t ρ P De.xc) (l : ds.length < sizeLine) (k : De.nx (ρ.set i (.own (ds ++ [d])))) : sApp i t ρ De := by
  unfold sApp
  rw [e]
  exact h _ ⟨l, k⟩
theorem seq_ext {ds es : List D} (e : ρ[i]? = some (.own ds)) (h : ∀ P : D → Prop, P (.lst es) → t ρ P De.xc) (l : ds.length + es.length ≤ sizeLine) (k : u (ρ.set i (.own (ds ++ es))) De) : sSeq (sExt i t) u ρ De := by
  unfold sSeq sExt
  rw [e]
  exact h _ ⟨l, k⟩
theorem one_ext {ds es : List D} (e : ρ[i]? = some (.own ds)) (h : ∀ P : D → Prop, P (.lst es) → t ρ P De.xc) (l : ds.length + es.length ≤ sizeLine) (k : De.nx (ρ.set i (.own (ds ++ es)))) : sExt i t ρ De := by
  unfold sExt
  rw [e]
  exact h _ ⟨l, k⟩
theorem seq_par {j : Nat} {tA : DTA} (d d' : D) (h : ∀ P : List D → Prop, P [d, d'] → tA ρ P De.xc) (k : u ((ρ.set i (.val d)).set j (.val d')) De) : sSeq (sPar i j tA) u ρ De := h _ k
theorem seq_par3 {j l : Nat} {tA : DTA} (d d' d'' : D) (h : ∀ P : List D → Prop, P [d, d', d''] → tA ρ P De.xc) (k : u (((ρ.set i (.val d)).set j (.val d')).set l (.val d'')) De) : sSeq (sPar3 i j l tA) u ρ De := h _ k
theorem seq_new (ds : List D) {tA : DTA} (h : ∀ P : List D → Prop, P ds → tA ρ P De.xc) (k : u (ρ.set i (.own ds)) De) : sSeq (sNew i tA) u ρ De := h _ k
theorem seq_asgL (ds : List D) {tA : DTA} (h : ∀ P : List D → Prop, P ds → tA ρ P De.xc) (k : u (ρ.set i (.val (.lst ds))) De) : sSeq (sAsgL i tA) u ρ De := h _ k
theorem give_at {ds : List D} (e : ρ[i]? = some (.own ds)) (k : s (ρ.set i (.val (.lst ds))) De) : sGive i s ρ De := by
  unfold sGive
  rw [e]
  exact k
end
/-! ### comprehensions -/
theorem lc_genG {α : Type} {g : GD} {q : DTQ} {t : DT} {ρ : Rho} {P : List D → Prop} (f : α → D) (ρx : α → Rho) (p : α → Bool) (e : α → D) : ∀ (l : List α) (acc : List D),
    (∀ x ∈ l, ∀ K : Rho → Prop, K (ρx x) → g (f x) ρ K) → (∀ x ∈ l, ∀ K : Bool → Prop, K (p x) → q (ρx x) K (fun _ => False)) →
    (∀ x ∈ l, p x = true → ∀ K : D → Prop, K (e x) → t (ρx x) K (fun _ => False)) → P (acc ++ (l.filter p).map e) → lcGo g q t ρ P (l.map f) acc
  | [], acc, _, _, _, h => by simpa using h
  | x :: l, acc, hg, hq, ht, h => by
    rw [List.map_cons]
    unfold lcGo
    refine hg x (by simp) _ (hq x (by simp) _ ?_)
    have rest : ∀ acc', P (acc' ++ (l.filter p).map e) → lcGo g q t ρ P (l.map f) acc' := fun acc' h' =>
      lc_genG f ρx p e l acc' (fun y hy => hg y (List.mem_cons_of_mem _ hy)) (fun y hy => hq y (List.mem_cons_of_mem _ hy)) (fun y hy => ht y (List.mem_cons_of_mem _ hy)) h'
    cases hp : p x with
    | true =>
      rw [if_pos rfl]
      refine ht x (by simp) hp _ (rest _ ?_)
      rw [List.filter_cons_of_pos hp, List.map_cons] at h
      simpa using h
    | false =>
      rw [if_neg (by decide)]
      refine rest _ ?_
      rw [List.filter_cons_of_neg (by simp [hp])] at h
      exact h
theorem lc_gen {α : Type} {i : Nat} {q : DTQ} {t : DT} {ρ : Rho} {P : List D → Prop} (f : α → D) (p : α → Bool) (e : α → D) (l : List α) 
    (hq : ∀ x ∈ l, ∀ K : Bool → Prop, K (p x) → q (ρ.set i (.val (f x))) K (fun _ => False))
    (ht : ∀ x ∈ l, p x = true → ∀ K : D → Prop, K (e x) → t (ρ.set i (.val (f x))) K (fun _ => False)) (h : P ((l.filter p).map e)) : lcGo (gN i) q t ρ P (l.map f) [] :=
  lc_genG f (fun x => ρ.set i (.val (f x))) p e l [] (fun _ _ _ h => h) hq ht (by simpa using h)
theorem lc_map {α : Type} {i : Nat} {t : DT} {ρ : Rho} {P : List D → Prop} (f e : α → D) (l : List α)
    (ht : ∀ x ∈ l, ∀ K : D → Prop, K (e x) → t (ρ.set i (.val (f x))) K (fun _ => False)) (h : P (l.map e)) : lcGo (gN i) qYes t ρ P (l.map f) [] :=
  lc_gen f (fun _ => true) e l (fun _ _ _ h => h) (fun x hx _ => ht x hx) (by rw [List.filter_eq_self.mpr (fun _ _ => rfl)]; exact h)
/-! ### a law -/
@[simp] def sd_law : SpD := fun ds P _ => ds = [.scr] ∧ P (.bl true)
theorem len_law : ∀ ds P R, sd_law ds P R → ds.length = 1 := fun ds P R h => by obtain ⟨rfl, _⟩ := h; rfl
def spLaw (K : PySem.W.Frag) (T : Tb) : Sp := fun vs H Q _ => ∃ (a : Addr) (ns : List Int), vs = [.ref a] ∧ SqL K H a (ns.map V.int) ∧ ns.length ≤ 63 ∧ LamX.Tabs T H ∧ ∀ H', Q (.bl true) H'
theorem law_ok {P : Program} {w : World} {K : PySem.W.Frag} {mg : Str → Option Value} {base : Heap} {J : Jd} {k : Nat} {f : Addr} {fd : FuncData} {x : Str}
    (F : FnOk P w K mg base (L2.CX P w) k f fd [x] (Lift ⟨P, w, K⟩ J sd_law)) : FnOk P w K mg base L2.CX0 k f fd [x] (spLaw K J.T) := by
  refine ⟨fun vs H Q E h => ?_, fun A outer s H args us vs Q E hr env hb hv h => ?_⟩
  · obtain ⟨a, ns, rfl, _⟩ := h; rfl
  obtain ⟨a, ns, rfl, hs, hn, htb, h⟩ := h
  have hd : Dp ⟨P, w, K⟩ (fun _ => False) H (.ref a) .scr := by
    refine ⟨a, ns, rfl, ?_, hn⟩
    rcases hs with hs | hs
    · exact .inl ⟨id, hs⟩
    · exact .inr (.inr hs)
  refine codeAny_mono (F.run A outer s H args us _ (fun v _ => v = .bl true) (fun _ _ _ => False) hr env hb hv
    ⟨fun _ => False, [.scr], fun d => d = .bl true, fun _ => False, fun a z => z.elim, htb, ⟨hd, trivial⟩, ⟨rfl, rfl⟩, fun v H' d _ hv e => by cases e; exact hv, fun nm H' _ z => z.elim⟩) fun rr s' hq => ?_
  cases rr with
  | error e =>
    obtain ⟨_, _, _, _, _, _, _, _, _, _, _, _, z⟩ := hq
    exact z.elim
  | ok fl =>
    cases fl with
    | ret u =>
      obtain ⟨v, H', os, bare, un, hok, rv, rfl⟩ := hq
      exact ⟨.bl true, H', os, bare, un, hok, rv, h H'⟩
    | next => exact hq.elim
    | brk => exact hq.elim
    | cont => exact hq.elim
end DL
namespace DL
open PySem PySem.Spec PyProof.Rows L2
/-! ### what the laws' own helpers promise -/
theorem ix_sh {P : D → Prop} (h : ∀ s : Shp, P (.str s.s)) {i : Int} (h0 : 0 ≤ i) (h1 : i < 4) : fIx (.str "abcd") (.int i) P := by
  rcases (by omega : i = 0 ∨ i = 1 ∨ i = 2 ∨ i = 3) with rfl | rfl | rfl | rfl
  · exact ⟨by decide +kernel, h .a⟩
  · exact ⟨by decide +kernel, h .b⟩
  · exact ⟨by decide +kernel, h .c⟩
  · exact ⟨by decide +kernel, h .d⟩
theorem ix_tn {P : D → Prop} (h : ∀ s : Trn, P (.str s.s)) {i : Int} (h0 : 0 ≤ i) (h1 : i < 4) : fIx (.str "iolr") (.int i) P := by
  rcases (by omega : i = 0 ∨ i = 1 ∨ i = 2 ∨ i = 3) with rfl | rfl | rfl | rfl
  · exact ⟨by decide +kernel, h .i⟩
  · exact ⟨by decide +kernel, h .o⟩
  · exact ⟨by decide +kernel, h .l⟩
  · exact ⟨by decide +kernel, h .r⟩
theorem ix_mv {P : D → Prop} (h : ∀ s : Mov, P (.str s.s)) {i : Int} (h0 : 0 ≤ i) (h1 : i < 5) : fIx (.str "nuwlr") (.int i) P := by
  rcases (by omega : i = 0 ∨ i = 1 ∨ i = 2 ∨ i = 3 ∨ i = 4) with rfl | rfl | rfl | rfl | rfl
  · exact ⟨by decide +kernel, h .n⟩
  · exact ⟨by decide +kernel, h .u⟩
  · exact ⟨by decide +kernel, h .w⟩
  · exact ⟨by decide +kernel, h .l⟩
  · exact ⟨by decide +kernel, h .r⟩
theorem pl_of {P : D → Prop} (h : ∀ s : Plc, P (.int s.i)) {i : Int} (h0 : 0 ≤ i) (h1 : i < 3) : P (.int i) := by
  rcases (by omega : i = 0 ∨ i = 1 ∨ i = 2) with rfl | rfl | rfl
  · exact h .p0
  · exact h .p1
  · exact h .p2
theorem pl_ex {i : Int} (h0 : 0 ≤ i) (h1 : i < 3) : ∃ s : Plc, i = s.i := by
  rcases (by omega : i = 0 ∨ i = 1 ∨ i = 2) with rfl | rfl | rfl
  · exact ⟨.p0, rfl⟩
  · exact ⟨.p1, rfl⟩
  · exact ⟨.p2, rfl⟩
@[simp] theorem c5_4 (a b c p q : D) : cutD [a, b, c, p, q] none (some 4) = [a, b, c, p] := rfl
@[simp] theorem c5_0 (a b c p q : D) : cutD [a, b, c, p, q] none (some 0) = [] := rfl
@[simp] theorem c5_1 (a b c p q : D) : cutD [a, b, c, p, q] none (some 1) = [a] := rfl
@[simp] theorem c5_2 (a b c p q : D) : cutD [a, b, c, p, q] none (some 2) = [a, b] := rfl
@[simp] theorem c5_3 (a b c p q : D) : cutD [a, b, c, p, q] none (some 3) = [a, b, c] := rfl
@[simp] theorem d5_1 (a b c p q : D) : cutD [a, b, c, p, q] (some 1) none = [b, c, p, q] := rfl
@[simp] theorem d5_2 (a b c p q : D) : cutD [a, b, c, p, q] (some 2) none = [c, p, q] := rfl
@[simp] theorem d5_3 (a b c p q : D) : cutD [a, b, c, p, q] (some 3) none = [p, q] := rfl
@[simp] theorem d5_4 (a b c p q : D) : cutD [a, b, c, p, q] (some 4) none = [q] := rfl
@[simp] theorem d5_5 (a b c p q : D) : cutD [a, b, c, p, q] (some 5) none = [] := rfl
@[simp] theorem fSl_S (s : Sgn) (lo hi : Option Int) (P : D → Prop) : fSl s.d lo hi P = P (.tup (cutD [.str s.sh.s, .str s.tn.s, .str s.mv.s, .int s.pl.i, s.sc.d] lo hi)) := rfl
theorem mkd_h (a : Shp) (b : Trn) (c : Mov) (p : Plc) (x : Shp) (y : Trn) : D.tup [.str a.s, .str b.s, .str c.s, .int p.i, .tup [.str x.s, .str y.s]] = Sgn.d ⟨a, b, c, p, .hand x y⟩ := rfl
theorem mkd_n (a : Shp) (b : Trn) (c : Mov) (p : Plc) : D.tup [.str a.s, .str b.s, .str c.s, .int p.i, .non] = Sgn.d ⟨a, b, c, p, .non⟩ := rfl
theorem mkd_m (a : Shp) (b : Trn) (c : Mov) (p : Plc) : D.tup [.str a.s, .str b.s, .str c.s, .int p.i, .str "m"] = Sgn.d ⟨a, b, c, p, .m⟩ := rfl
theorem mkd_q (a : Shp) (b : Trn) (c : Mov) (p : Plc) (q : Sec) : D.tup [.str a.s, .str b.s, .str c.s, .int p.i, q.d] = Sgn.d ⟨a, b, c, p, q⟩ := rfl
@[simp] theorem isSign_S (s : Sgn) : isSignD s.d = s.good := isSign_d s
@[simp 2000] theorem fS0 (s : Sgn) (P : D → Prop) : fIx s.d (.int 0) P = P (.str s.sh.s) := by simp [Sgn.d]
@[simp 2000] theorem fS1 (s : Sgn) (P : D → Prop) : fIx s.d (.int 1) P = P (.str s.tn.s) := by simp [Sgn.d]
@[simp 2000] theorem fS2 (s : Sgn) (P : D → Prop) : fIx s.d (.int 2) P = P (.str s.mv.s) := by simp [Sgn.d]
@[simp 2000] theorem fS3 (s : Sgn) (P : D → Prop) : fIx s.d (.int 3) P = P (.int s.pl.i) := by simp [Sgn.d]
@[simp 2000] theorem fS4 (s : Sgn) (P : D → Prop) : fIx s.d (.int 4) P = P s.sc.d := by simp [Sgn.d]
@[simp] theorem d_eq (s t : Sgn) : (s.d = t.d) = (s = t) := propext ⟨Sgn.d_inj, fun h => by rw [h]⟩
/-- equal data -/
theorem eqvAll_refl : ∀ ds : List D, (∀ d ∈ ds, eqD d d = true) → PyData.eqvAll (D.pyA ds) (D.pyA ds) = true
  | [], _ => by simp [D.pyA, PyData.eqvAll]
  | d :: ds, h => by
    have h1 : PyData.eqv d.py d.py = true := h d (by simp)
    have h2 := eqvAll_refl ds fun e he => h e (List.mem_cons_of_mem _ he)
    simp [D.pyA, PyData.eqvAll, h1, h2]
theorem eqD_refl_tup {ds : List D} (h : ∀ d ∈ ds, eqD d d = true) : eqD (.tup ds) (.tup ds) = true := by
  rw [eqD_tup]; exact eqvAll_refl ds h
theorem eqD_lst (ds es : List D) : eqD (.lst ds) (.lst es) = PyData.eqvAll (D.pyA ds) (D.pyA es) := by simp [eqD, D.py, PyData.eqv]
theorem eqD_refl_lst {ds : List D} (h : ∀ d ∈ ds, eqD d d = true) : eqD (.lst ds) (.lst ds) = true := by
  rw [eqD_lst]; exact eqvAll_refl ds h
theorem eqD_refl_str (x : Str) : eqD (.str x) (.str x) = true := by simp
theorem eqD_refl_int (x : Int) : eqD (.int x) (.int x) = true := by simp
theorem eqD_refl_bl (x : Bool) : eqD (.bl x) (.bl x) = true := by simp
theorem eqD_refl_Sc (x : Sec) : eqD x.d x.d = true := by rw [sc_eq]; simp
theorem eqD_S (s t : Sgn) : eqD s.d t.d = decide (s = t) := by
  obtain ⟨a, b, c, p, q⟩ := s
  obtain ⟨a', b', c', p', q'⟩ := t
  have h5 : PyData.eqv q.d.py q'.d.py = decide (q = q') := sc_eq q q'
  simp only [Sgn.d, eqD_tup, D.pyA, PyData.eqvAll, h5, D.py, PyData.eqv, sh_eq, tn_eq, mv_eq, pl_eq, Sgn.mk.injEq]
  by_cases h1 : a = a' <;> by_cases h2 : b = b' <;> by_cases h3 : c = c' <;> by_cases h4 : p = p' <;> by_cases h5 : q = q' <;> simp [h1, h2, h3, h4, h5]
@[simp] theorem shp_ints (ns : List Int) : shp (.tup (ns.map .int)) = true := (shn_tup (n := 0) (by simp [shn_int])).shp
@[simp] theorem shp_intsL (ns : List Int) : shp (.lst (ns.map .int)) = true := (shn_lst (n := 0) (by simp [shn_int])).shp
theorem eqD_ints (ns ms : List Int) : eqD (.tup (ns.map .int)) (.tup (ms.map .int)) = decide (ns = ms) := by
  rw [eqD_tup]
  induction ns generalizing ms with
  | nil => cases ms <;> simp [D.pyA, PyData.eqvAll]
  | cons n ns ih =>
    cases ms with
    | nil => simp [D.pyA, PyData.eqvAll]
    | cons m ms =>
      have := ih ms
      simp only [List.map_cons, D.pyA, PyData.eqvAll, D.py, PyData.eqv, this]
      by_cases h1 : n = m <;> by_cases h2 : ns = ms <;> simp [h1, h2]
@[simp] theorem eqvAll_ints (ns ms : List Int) : PyData.eqvAll (D.pyA (ns.map .int)) (D.pyA (ms.map .int)) = decide (ns = ms) := by
  rw [← eqD_tup]; exact eqD_ints ns ms
theorem len_swapped : ∀ ds P R, sd_swapped ds P R → ds.length = 1 := fun ds P R h => by
  unfold sd_swapped at h; split at h
  · rfl
  · exact h.elim
def t_swapped : DST :=
    (sRet (dGet2 "l" "r" "r" "l" (dV 0) (dV 0)))

theorem lr_ne : ¬ ("l" : Str) = "r" := by decide +kernel
theorem vc_swapped : ∀ ds P R, sd_swapped ds P R → t_swapped (startR ["letter"] ds) ⟨fun _ => P .non, P, fun _ => False, fun _ => False, R⟩ := fun ds P R h => by
  unfold sd_swapped at h; split at h
  · rename_i x
    have h : P (.str (swp x)) := h
    unfold swp at h
    simp [t_swapped]
    by_cases e1 : x = "l"
    · rw [if_pos e1] at h; rw [if_pos e1.symm]; exact h
    · rw [if_neg e1] at h; rw [if_neg (Ne.symm e1)]
      by_cases e2 : x = "r"
      · rw [if_pos e2] at h; rw [if_pos e2.symm]; exact h
      · rw [if_neg e2] at h; rw [if_neg (Ne.symm e2)]; exact h
  · exact h.elim
@[simp] def sd_law_sign : SpD := fun ds P _ => ds = [.scr, .town] ∧ ∀ s : Sgn, s.good = true → P s.d
theorem len_law_sign : ∀ ds P R, sd_law_sign ds P R → ds.length = 2 := fun ds P R h => by obtain ⟨rfl, _⟩ := h; rfl
def t_law_sign : DST :=
    (sSeq (sAsg (dOp fIx (dC (.str "abcd")) (dCall sd_law_draw (dCons (dV 0) (dCons (dV 1) (dCons (dC (.int 4)) dNil))))) (gN 2))
    (sSeq (sAsg (dOp fIx (dC (.str "iolr")) (dCall sd_law_draw (dCons (dV 0) (dCons (dV 1) (dCons (dC (.int 4)) dNil))))) (gN 3))
    (sSeq (sAsg (dOp fIx (dC (.str "nuwlr")) (dCall sd_law_draw (dCons (dV 0) (dCons (dV 1) (dCons (dC (.int 5)) dNil))))) (gN 4))
    (sSeq (sAsg (dCall sd_law_draw (dCons (dV 0) (dCons (dV 1) (dCons (dC (.int 3)) dNil)))) (gN 5))
    (sSeq (sAsg (dCall sd_law_draw (dCons (dV 0) (dCons (dV 1) (dCons (dC (.int 4)) dNil)))) (gN 6))
    (sSeq (sIf (qAnd (qV (dOp fEq (dV 6) (dC (.int 0)))) (qV (dOp fNe (dV 4) (dC (.str "n")))))
      (sRet (dTup (dCons (dV 2) (dCons (dV 3) (dCons (dV 4) (dCons (dV 5) (dCons (dC (.str "m")) dNil)))))))
      sNext)
    (sSeq (sIf (qV (dOp fLt (dV 6) (dC (.int 2))))
      (sRet (dTup (dCons (dV 2) (dCons (dV 3) (dCons (dV 4) (dCons (dV 5) (dCons (dC .non) dNil)))))))
      sNext)
    (sSeq (sAsg (dOp fIx (dTup (dCons (dC (.str "a")) (dCons (dC (.str "b")) (dCons (dV 2) dNil)))) (dCall sd_law_draw (dCons (dV 0) (dCons (dV 1) (dCons (dC (.int 3)) dNil))))) (gN 7))
    (sRet (dTup (dCons (dV 2) (dCons (dV 3) (dCons (dV 4) (dCons (dV 5) (dCons (dTup (dCons (dV 7) (dCons (dOp fIx (dC (.str "iolr")) (dCall sd_law_draw (dCons (dV 0) (dCons (dV 1) (dCons (dC (.int 4)) dNil))))) dNil))) dNil)))))))))))))))

theorem vc_law_sign : ∀ ds P R, sd_law_sign ds P R → t_law_sign (startR ["_law_script", "_law_town", "_law_shape", "_law_turn", "_law_move", "_law_spot", "_law_way", "_law_rest"] ds) ⟨fun _ => P .non, P, fun _ => False, fun _ => False, R⟩ := fun ds P R h => by
  obtain ⟨rfl, h⟩ := h
  simp [t_law_sign]
  intro i h0 h1
  refine ix_sh (fun sh => ?_) h0 h1
  intro i h0 h1
  refine ix_tn (fun tn => ?_) h0 h1
  intro i h0 h1
  refine ix_mv (fun mv => ?_) h0 h1
  intro i h0 h1
  obtain ⟨pl, rfl⟩ := pl_ex h0 h1
  intro j j0 j1
  have two : ∀ {q : D → Prop} {a : Shp}, (∀ s : Shp, (s = .a ∨ s = .b ∨ s = a) → q (.str s.s)) → ∀ k : Int, 0 ≤ k → k < 3 → fIx (.tup [.str "a", .str "b", .str a.s]) (.int k) q := fun {q a} hq k k0 k1 => by
    rcases (by omega : k = 0 ∨ k = 1 ∨ k = 2) with rfl | rfl | rfl
    · simp; exact hq .a (.inl rfl)
    · simp; exact hq .b (.inr (.inl rfl))
    · simp; exact hq a (.inr (.inr rfl))
  have last : ∀ i_2 : Int, 0 ≤ i_2 → i_2 < 3 → fIx (.tup [.str "a", .str "b", .str sh.s]) (.int i_2) fun d_3 => ∀ i_3 : Int, 0 ≤ i_3 → i_3 < 4 → fIx (.str "iolr") (.int i_3) fun d_4 => P (.tup [.str sh.s, .str tn.s, .str mv.s, .int pl.i, .tup [d_3, d_4]]) :=
    two fun s hs i i0 i1 => ix_tn (fun t => h ⟨sh, tn, mv, pl, .hand s t⟩ (by rcases hs with rfl | rfl | rfl <;> simp [Sgn.good, goTog])) i0 i1
  have hn : P (.tup [.str sh.s, .str tn.s, .str mv.s, .int pl.i, .non]) := h ⟨sh, tn, mv, pl, .non⟩ rfl
  by_cases z : j = 0
  · subst z
    simp
    by_cases y : (mv.s == "n") = true
    · rw [if_pos (by simpa using y)]; exact hn
    · rw [if_neg (by simpa using y)]
      exact h ⟨sh, tn, mv, pl, .m⟩ (by rw [mv_n] at y; simpa [Sgn.good, goTog] using y)
  · rw [if_neg z]
    by_cases y : j < 2
    · rw [if_pos y]; exact hn
    · rw [if_neg y]; exact last
@[simp] def sd_law_good : SpD := fun ds P _ => ∃ s : Sgn, ds = [s.d] ∧ P (.bl s.good)
theorem len_law_good : ∀ ds P R, sd_law_good ds P R → ds.length = 1 := fun ds P R h => by obtain ⟨_, rfl, _⟩ := h; rfl
def t_law_good : DST :=
    (sSeq (sIf (qV (dOp fIsN (dOp fIx (dV 0) (dC (.int 4))) (dC .non)))
      (sRet (dC (.bl true)))
      sNext)
    (sSeq (sIf (qV (dOp fEq (dOp fIx (dV 0) (dC (.int 4))) (dC (.str "m"))))
      (sRet (dOp fNe (dOp fIx (dV 0) (dC (.int 2))) (dC (.str "n"))))
      sNext)
    (sRet (dOr (dOp (fIn false) (dOp fIx (dOp fIx (dV 0) (dC (.int 4))) (dC (.int 0))) (dTup (dCons (dC (.str "a")) (dCons (dC (.str "b")) dNil)))) (dOp fEq (dOp fIx (dOp fIx (dV 0) (dC (.int 4))) (dC (.int 0))) (dOp fIx (dV 0) (dC (.int 0))))))))

theorem vc_law_good : ∀ ds P R, sd_law_good ds P R → t_law_good (startR ["_law_one_here"] ds) ⟨fun _ => P .non, P, fun _ => False, fun _ => False, R⟩ := fun ds P R h => by
  obtain ⟨s, rfl, h⟩ := h
  obtain ⟨a, b, c, p, q⟩ := s
  cases q with
  | non => simp [t_law_good, Sgn.d, Sec.d]; exact h
  | m =>
    have h : P (.bl (c != .n)) := h
    simp [t_law_good, Sgn.d, Sec.d, mv_n]
    exact h
  | hand s t =>
    have h : P (.bl (s == .a || s == .b || s == a)) := h
    have e1 := shp_Sc (.hand s t)
    simp only [Sec.d] at e1
    simp [t_law_good, Sgn.d, Sec.d, sh_eq, e1]
    refine ⟨by decide +kernel, ?_⟩
    have e2 : inL (.str s.s) [.str "a", .str "b"] = (s == .a || s == .b) := by cases s <;> decide +kernel
    rw [e2]
    cases z : (s == Shp.a || s == Shp.b)
    · rw [z] at h; exact h
    · rw [z] at h; exact h
@[simp] def sd_law_near : SpD := fun ds P _ => ∃ s : Sgn, ds = [.scr, .town, s.d] ∧ s.good = true ∧ ∀ s : Sgn, s.good = true → P s.d
theorem len_law_near : ∀ ds P R, sd_law_near ds P R → ds.length = 3 := fun ds P R h => by obtain ⟨_, rfl, _⟩ := h; rfl
def t_law_near : DST :=
    (sSeq (sPar 3 4 (dCons (dCall sd_law_draw (dCons (dV 0) (dCons (dV 1) (dCons (dC (.int 6)) dNil)))) (dCons (dCall sd_law_sign (dCons (dV 0) (dCons (dV 1) dNil))) dNil)))
    (sSeq (sIf (qV (dOp fEq (dV 3) (dC (.int 5))))
      (sAsg (dOp fAdd (dSl (dV 2) dNoP (dP (dC (.int 4)))) (dTup (dCons (dC .non) dNil))) (gN 5))
      (sAsg (dOp fAdd (dOp fAdd (dSl (dV 2) dNoP (dP (dV 3))) (dTup (dCons (dOp fIx (dV 4) (dV 3)) dNil))) (dSl (dV 2) (dP (dOp fAdd (dV 3) (dC (.int 1)))) dNoP)) (gN 5)))
    (sRet (dIf (qV (dCall sd_law_good (dCons (dV 5) dNil))) (dV 5) (dV 4)))))

theorem vc_law_near : ∀ ds P R, sd_law_near ds P R → t_law_near (startR ["_law_script", "_law_town", "_law_one_here", "_law_thing", "_law_other_here", "_law_there"] ds) ⟨fun _ => P .non, P, fun _ => False, fun _ => False, R⟩ := fun ds P R h => by
  obtain ⟨s, rfl, hs, h⟩ := h
  obtain ⟨a, b, c, p, q⟩ := s
  simp [t_law_near]
  intro i h0 h1 u gu
  obtain ⟨a', b', c', p', q'⟩ := u
  have fin : ∀ v : Sgn, (if v.good = true then P v.d else P (Sgn.d ⟨a', b', c', p', q'⟩)) := fun v => by
    by_cases z : v.good = true
    · rw [if_pos z]; exact h v z
    · rw [if_neg z]; exact h _ gu
  rcases (by omega : i = 0 ∨ i = 1 ∨ i = 2 ∨ i = 3 ∨ i = 4 ∨ i = 5) with rfl | rfl | rfl | rfl | rfl | rfl
  · simp [Sgn.d, c5_0, d5_1]
    exact ⟨⟨a', b, c, p, q⟩, ⟨rfl, rfl, rfl, rfl, rfl⟩, fin ⟨a', b, c, p, q⟩⟩
  · simp [Sgn.d, c5_1, d5_2]
    exact ⟨⟨a, b', c, p, q⟩, ⟨rfl, rfl, rfl, rfl, rfl⟩, fin ⟨a, b', c, p, q⟩⟩
  · simp [Sgn.d, c5_2, d5_3]
    exact ⟨⟨a, b, c', p, q⟩, ⟨rfl, rfl, rfl, rfl, rfl⟩, fin ⟨a, b, c', p, q⟩⟩
  · simp [Sgn.d, c5_3, d5_4]
    exact ⟨⟨a, b, c, p', q⟩, ⟨rfl, rfl, rfl, rfl, rfl⟩, fin ⟨a, b, c, p', q⟩⟩
  · simp [Sgn.d, c5_4, d5_5]
    exact ⟨⟨a, b, c, p, q'⟩, ⟨rfl, rfl, rfl, rfl, rfl⟩, fin ⟨a, b, c, p, q'⟩⟩
  · simp [Sgn.d, c5_4]
    exact ⟨⟨a, b, c, p, .non⟩, ⟨rfl, rfl, rfl, rfl, rfl⟩, fin ⟨a, b, c, p, .non⟩⟩
end DL
namespace DL
open PySem PySem.Spec PyProof.Rows L2
/-! ### resting hands -/
@[simp] def sd_can_hold : SpD := fun ds P _ => ∃ (s : Sgn) (q : Sec), ds = [s.d, q.d] ∧ P (.bl (goTog s.sh s.mv q))
theorem len_can_hold : ∀ ds P R, sd_can_hold ds P R → ds.length = 2 := fun ds P R h => by obtain ⟨_, _, rfl, _⟩ := h; rfl
def t_can_hold : DST :=
    (sRet (dCall sd_do_go_together (dCons (dOp fIx (dV 0) (dC (.int 0))) (dCons (dOp fIx (dV 0) (dC (.int 2))) (dCons (dV 1) dNil)))))

theorem vc_can_hold : ∀ ds P R, sd_can_hold ds P R → t_can_hold (startR ["sign", "hand"] ds) ⟨fun _ => P .non, P, fun _ => False, fun _ => False, R⟩ := fun ds P R h => by
  obtain ⟨s, q, rfl, h⟩ := h
  simp [t_can_hold]
  exact ⟨s.sh, s.mv, q, ⟨rfl, rfl, rfl⟩, h⟩
@[simp] theorem sh_inj (a b : Shp) : (a.s = b.s) = (a = b) := propext ⟨fun h => by have := sh_eq a b; rw [h] at this; simpa using this, fun h => by rw [h]⟩
@[simp] theorem tn_inj (a b : Trn) : (a.s = b.s) = (a = b) := propext ⟨fun h => by have := tn_eq a b; rw [h] at this; simpa using this, fun h => by rw [h]⟩
@[simp] theorem mv_inj (a b : Mov) : (a.s = b.s) = (a = b) := propext ⟨fun h => by have := mv_eq a b; rw [h] at this; simpa using this, fun h => by rw [h]⟩
@[simp] theorem pl_inj (a b : Plc) : (a.i = b.i) = (a = b) := propext ⟨fun h => by have := pl_eq a b; rw [h] at this; simpa using this, fun h => by rw [h]⟩
@[simp] theorem sc_inj (a b : Sec) : (a.d = b.d) = (a = b) := propext ⟨Sec.d_inj, fun h => by rw [h]⟩
def decHn : D → Option (Shp × Trn)
  | .tup [a, b] => (decSh a).bind fun s => (decTn b).map fun t => (s, t)
  | _ => none
theorem decHn_iff {d : D} {p : Shp × Trn} : decHn d = some p ↔ d = .tup [.str p.1.s, .str p.2.s] := by
  constructor
  · intro h
    unfold decHn at h
    split at h
    · rename_i a b
      cases ha : decSh a with
      | none => rw [ha] at h; cases h
      | some s =>
        cases hb : decTn b with
        | none => rw [ha, hb] at h; cases h
        | some t =>
          rw [ha, hb] at h
          cases h
          rw [decSh_iff.mp ha, decTn_iff.mp hb]
    · cases h
  · rintro rfl
    show ((decSh (.str p.1.s)).bind fun s => (decTn (.str p.2.s)).map fun t => (s, t)) = some p
    rw [decSh_iff.mpr rfl, decTn_iff.mpr rfl]; rfl
theorem isHand_dec (d : D) : isHandD d = (decHn d).isSome := by
  unfold decHn
  split
  · rename_i a b
    rw [isHand_pair]
    cases decSh a <;> cases decTn b <;> rfl
  · rename_i h
    unfold isHandD
    split
    · rename_i a b; exact absurd rfl (h a b)
    · rfl
theorem isHand_iff {d : D} : isHandD d = true ↔ ∃ (s : Shp) (t : Trn), d = .tup [.str s.s, .str t.s] := by
  rw [isHand_dec]
  constructor
  · intro h
    obtain ⟨p, hp⟩ := Option.isSome_iff_exists.mp h
    exact ⟨p.1, p.2, decHn_iff.mp hp⟩
  · rintro ⟨s, t, rfl⟩
    rw [decHn_iff (p := (s, t)) |>.mpr rfl]; rfl
@[simp] theorem isHand_ok (s : Shp) (t : Trn) : isHandD (.tup [.str s.s, .str t.s]) = true := isHand_iff.mpr ⟨s, t, rfl⟩
@[simp] def sd_can_rest : SpD := fun ds P R => match ds with
  | [d, e] => d.plain = true ∧ e.plain = true ∧ (∀ s : Sgn, d = s.d → s.good = true → ∀ (a : Shp) (t : Trn), e = .tup [.str a.s, .str t.s] → P (.bl (goTog s.sh s.mv (.hand a t)))) ∧
      (isSignD d = false → R "InvalidSign") ∧ (isSignD d = true → isHandD e = false → R "InvalidHand")
  | _ => False
theorem len_can_rest : ∀ ds P R, sd_can_rest ds P R → ds.length = 2 := fun ds P R h => by
  unfold sd_can_rest at h; split at h
  · rfl
  · exact h.elim
def t_can_rest : DST :=
    (sSeq (sDrop (dCall sd_check_sign (dCons (dV 0) dNil)))
    (sSeq (sIf (qNot (qV (dCall sd_is_hand (dCons (dV 1) dNil))))
      (sRaise "InvalidHand")
      sNext)
    (sRet (dCall sd_can_hold (dCons (dV 0) (dCons (dV 1) dNil))))))

theorem vc_can_rest : ∀ ds P R, sd_can_rest ds P R → t_can_rest (startR ["sign", "hand"] ds) ⟨fun _ => P .non, P, fun _ => False, fun _ => False, R⟩ := fun ds P R h => by
  unfold sd_can_rest at h; split at h
  · rename_i d e
    obtain ⟨hp, hq, h1, h2, h3⟩ := h
    simp [t_can_rest, hp, hq]
    refine ⟨fun z => ?_, h2⟩
    cases y : isHandD e with
    | false => simp; exact h3 z y
    | true =>
      simp
      obtain ⟨s, gs, rfl⟩ := isSign_iff.mp z
      obtain ⟨a, t, rfl⟩ := isHand_iff.mp y
      exact ⟨s, .hand a t, ⟨rfl, rfl⟩, h1 s rfl gs a t rfl⟩
  · exact h.elim
/-! ### mirror images -/
theorem Trn.mir_mir (t : Trn) : t.mir.mir = t := by cases t <;> rfl
theorem Mov.mir_mir (t : Mov) : t.mir.mir = t := by cases t <;> rfl
theorem Sec.mir_mir (t : Sec) : t.mir.mir = t := by cases t <;> simp [Sec.mir, Trn.mir_mir]
theorem Sgn.mir_mir (s : Sgn) : s.mir.mir = s := by simp [Sgn.mir, Trn.mir_mir, Mov.mir_mir, Sec.mir_mir]
theorem Mov.mir_n (m : Mov) : (m.mir != .n) = (m != .n) := by cases m <;> decide
theorem goTog_mir (a : Shp) (m : Mov) (q : Sec) : goTog a m.mir q.mir = goTog a m q := by cases q <;> simp [goTog, Sec.mir, Mov.mir_n]
theorem Sgn.good_mir (s : Sgn) : s.mir.good = s.good := goTog_mir _ _ _
theorem Trn.mir_inj (a b : Trn) : (a.mir = b.mir) = (a = b) := by cases a <;> cases b <;> decide
theorem Mov.mir_inj (a b : Mov) : (a.mir = b.mir) = (a = b) := by cases a <;> cases b <;> decide
theorem Sec.mir_inj (a b : Sec) : (a.mir = b.mir) = (a = b) := propext ⟨fun h => by rw [← Sec.mir_mir a, h, Sec.mir_mir], fun h => by rw [h]⟩
theorem unlike_mir (s t : Sgn) : unlikeL s.mir t.mir = unlikeL s t := by
  by_cases h2 : s.tn = t.tn <;> by_cases h3 : s.mv = t.mv <;> by_cases h5 : s.sc = t.sc <;> simp [unlikeL, Sgn.mir, Trn.mir_inj, Mov.mir_inj, Sec.mir_inj, h2, h3, h5] <;> rfl
theorem unlike_comm (s t : Sgn) : unlikeL t s = unlikeL s t := by
  have e : ∀ {α : Type} [DecidableEq α] (a b : α) (x y : List Int), (if a = b then x else y) = (if b = a then x else y) := fun a b x y => by
    by_cases h : a = b
    · rw [if_pos h, if_pos h.symm]
    · rw [if_neg h, if_neg (Ne.symm h)]
  simp only [unlikeL]
  rw [e t.sh, e t.tn, e t.mv, e t.pl, e t.sc]
theorem turned_at (t : Trn) : lookD ["l", "r", "i", "o"] [.str "r", .str "l", .str "i", .str "o"] t.s = some (.str t.mir.s) := by
  cases t <;> rfl
theorem pyA_nil : D.pyA [] = [] := rfl
theorem eqvAll_nil (ns : List Int) : PyData.eqvAll (D.pyA (ns.map .int)) (D.pyA []) = decide (ns = []) := eqvAll_ints ns []
theorem in_lr_tn (t : Trn) : inL (.str t.s) [.str "l", .str "r"] = (t == .l || t == .r) := by cases t <;> decide +kernel
theorem in_lr_mv (t : Mov) : inL (.str t.s) [.str "l", .str "r"] = (t == .l || t == .r) := by cases t <;> decide +kernel
theorem shp_lr : shp (.tup [.str "l", .str "r"]) = true := (shn_tup (n := 0) (by simp [shn_str (show PyData.strOk "l" = true by decide +kernel), shn_str (show PyData.strOk "r" = true by decide +kernel)])).shp
theorem tn_i : ("i" : Str) = Trn.i.s := rfl
theorem unlike_nil (s t : Sgn) : unlikeL s t = [] ↔ s = t := by
  obtain ⟨a, b, c, d, e⟩ := s
  obtain ⟨a', b', c', d', e'⟩ := t
  simp only [unlikeL, Sgn.mk.injEq]
  by_cases h1 : a = a' <;> by_cases h2 : b = b' <;> by_cases h3 : c = c' <;> by_cases h4 : d = d' <;> by_cases h5 : e = e' <;> simp [h1, h2, h3, h4, h5]
end DL
namespace DL
open PySem PySem.Spec PyProof.Rows L2
/-! ### the texts of signs -/
def Shp.code : Shp → Nat | .a => 97 | .b => 98 | .c => 99 | .d => 100
def Trn.code : Trn → Nat | .i => 105 | .o => 111 | .l => 108 | .r => 114
def Mov.code : Mov → Nat | .n => 110 | .u => 117 | .w => 119 | .l => 108 | .r => 114
def Plc.code : Plc → Nat | .p0 => 48 | .p1 => 49 | .p2 => 50
def Sec.k : Sec → List Nat | .non => [45] | .m => [43, 109] | .hand s t => [43, s.code, t.code]
def Sec.rest : Sec → Str | .non => "-" | .m => "+" ++ "m" | .hand s t => "+" ++ Txt.join "" [s.s, t.s]
def Sgn.txt (s : Sgn) : Str := ((((Str.empty ++ s.sh.s) ++ s.tn.s) ++ s.mv.s) ++ (toString s.pl.i : Str)) ++ s.sc.rest
def Sgn.key (s : Sgn) : List Nat := s.sh.code :: s.tn.code :: s.mv.code :: s.pl.code :: s.sc.k
theorem Str.app_cps (a b : Str) : (a ++ b).cps.toList = a.cps.toList ++ b.cps.toList := by
  show (a.cps ++ b.cps).toList = _
  exact Array.toList_append
theorem Shp.sc (s : Shp) : s.s.cps.toList = [s.code] := by cases s <;> rfl
theorem Trn.sc (s : Trn) : s.s.cps.toList = [s.code] := by cases s <;> rfl
theorem Mov.sc (s : Mov) : s.s.cps.toList = [s.code] := by cases s <;> rfl
theorem Plc.sc (s : Plc) : (toString s.i : Str).cps.toList = [s.code] := by cases s <;> decide +kernel
theorem Sec.sc (s : Sec) : s.rest.cps.toList = s.k := by
  cases s with
  | non => rfl
  | m => rfl
  | hand s t =>
    show ("+" ++ Txt.join "" [s.s, t.s]).cps.toList = _
    have e : Txt.join "" [s.s, t.s] = s.s ++ "" ++ t.s := rfl
    rw [e]
    simp only [Str.app_cps, Shp.sc, Trn.sc]
    rfl
theorem txt_key (s : Sgn) : s.txt.cps.toList = s.key := by
  unfold Sgn.txt Sgn.key
  simp only [Str.app_cps, Shp.sc, Trn.sc, Mov.sc, Plc.sc, Sec.sc]
  rfl
theorem str_ext {a b : Str} (h : a.cps.toList = b.cps.toList) : a = b := by
  obtain ⟨⟨a⟩⟩ := a
  obtain ⟨⟨b⟩⟩ := b
  have h : a = b := h
  rw [h]
theorem Sec.k_inj {s t : Sec} (h : s.k = t.k) : s = t := by
  cases s <;> cases t <;> simp [Sec.k] at h ⊢
  rename_i a b c d
  obtain ⟨h1, h2⟩ := h
  refine ⟨?_, ?_⟩
  · cases a <;> cases c <;> first | rfl | (exfalso; revert h1; decide)
  · cases b <;> cases d <;> first | rfl | (exfalso; revert h2; decide)
theorem key_inj {s t : Sgn} (h : s.key = t.key) : s = t := by
  obtain ⟨a, b, c, d, e⟩ := s
  obtain ⟨a', b', c', d', e'⟩ := t
  simp only [Sgn.key, List.cons.injEq] at h
  obtain ⟨h1, h2, h3, h4, h5⟩ := h
  have e1 : a = a' := by cases a <;> cases a' <;> first | rfl | (exfalso; revert h1; decide)
  have e2 : b = b' := by cases b <;> cases b' <;> first | rfl | (exfalso; revert h2; decide)
  have e3 : c = c' := by cases c <;> cases c' <;> first | rfl | (exfalso; revert h3; decide)
  have e4 : d = d' := by cases d <;> cases d' <;> first | rfl | (exfalso; revert h4; decide)
  have e5 : e = e' := Sec.k_inj h5
  rw [e1, e2, e3, e4, e5]
theorem txt_inj {s t : Sgn} (h : s.txt = t.txt) : s = t := key_inj (by rw [← txt_key, ← txt_key, h])
theorem key_len (s : Sgn) : s.key.length ≤ 7 := by
  unfold Sgn.key
  cases s.sc <;> simp [Sec.k]
theorem txt_len (s : Sgn) : s.txt.length ≤ 7 := by
  have : s.txt.length = s.txt.cps.toList.length := by simp [Str.length]
  rw [this, txt_key]; exact key_len s
theorem len_le {a : Str} {n : Nat} (h : a.cps.toList.length ≤ n) (k : n ≤ 1000 := by decide) : a.length ≤ sizeLine := by
  have : a.length = a.cps.toList.length := by simp [Str.length]
  rw [this]; exact Nat.le_trans (Nat.le_trans h k) (by decide)
/-! ### all signs in the order of their texts -/
def allSh : List Shp := [.a, .b, .c, .d]
def allTn : List Trn := [.i, .l, .o, .r]
def allMv : List Mov := [.l, .n, .r, .u, .w]
def allPl : List Plc := [.p0, .p1, .p2]
def allSc : List Sec := (allSh.flatMap fun s => allTn.map fun t => Sec.hand s t) ++ [.m, .non]
def allSg : List Sgn := allSh.flatMap fun a => allTn.flatMap fun b => allMv.flatMap fun c => allPl.flatMap fun p => allSc.map fun q => ⟨a, b, c, p, q⟩
theorem all_sh (a : Shp) : a ∈ allSh := by cases a <;> simp [allSh]
theorem all_tn (a : Trn) : a ∈ allTn := by cases a <;> simp [allTn]
theorem all_mv (a : Mov) : a ∈ allMv := by cases a <;> simp [allMv]
theorem all_pl (a : Plc) : a ∈ allPl := by cases a <;> simp [allPl]
theorem all_sc (a : Sec) : a ∈ allSc := by
  cases a with
  | non => simp [allSc]
  | m => simp [allSc]
  | hand s t =>
    refine List.mem_append_left _ (List.mem_flatMap.mpr ⟨s, all_sh s, List.mem_map.mpr ⟨t, all_tn t, rfl⟩⟩)
theorem all_sg (s : Sgn) : s ∈ allSg :=
  List.mem_flatMap.mpr ⟨s.sh, all_sh _, List.mem_flatMap.mpr ⟨s.tn, all_tn _, List.mem_flatMap.mpr ⟨s.mv, all_mv _, List.mem_flatMap.mpr ⟨s.pl, all_pl _, List.mem_map.mpr ⟨s.sc, all_sc _, rfl⟩⟩⟩⟩⟩
def ltN : List Nat → List Nat → Bool
  | [], [] => false
  | [], _ :: _ => true
  | _ :: _, [] => false
  | a :: as, b :: bs => if a < b then true else if b < a then false else ltN as bs
def chk : List (List Nat) → Bool
  | a :: b :: r => ltN a b && chk (b :: r)
  | _ => true
theorem ltN_iff : ∀ a b : List Nat, ltN a b = true ↔ a < b
  | [], [] => by simp [ltN]
  | [], _ :: _ => by simp [ltN]
  | _ :: _, [] => by simp [ltN]
  | a :: as, b :: bs => by
    have ih := ltN_iff as bs
    unfold ltN
    rw [List.cons_lt_cons_iff]
    by_cases h : a < b
    · simp [h]
    · rw [if_neg h]
      by_cases k : b < a
      · rw [if_pos k]; simp; omega
      · rw [if_neg k, ih]
        have : a = b := by omega
        simp [h, this]
theorem chk_pw : ∀ l : List (List Nat), chk l = true → l.Pairwise (· < ·)
  | [], _ => .nil
  | [a], _ => by simp
  | a :: b :: r, h => by
    unfold chk at h
    rw [Bool.and_eq_true] at h
    have h1 := (ltN_iff a b).mp h.1
    have ih := chk_pw (b :: r) h.2
    refine List.pairwise_cons.mpr ⟨fun x hx => ?_, ih⟩
    rcases List.mem_cons.mp hx with rfl | hx
    · exact h1
    · exact List.lt_trans h1 ((List.pairwise_cons.mp ih).1 x hx)
theorem all_sorted : (allSg.map Sgn.key).Pairwise (· < ·) := chk_pw _ (by decide +kernel)
theorem pw_unique {l1 l2 : List (List Nat)} (h1 : l1.Pairwise (· < ·)) (h2 : l2.Pairwise (· < ·)) (hm : ∀ x, x ∈ l1 ↔ x ∈ l2) : l1 = l2 := by
  induction l1 generalizing l2 with
  | nil =>
    cases l2 with
    | nil => rfl
    | cons b r => exact absurd ((hm b).mpr (by simp)) (by simp)
  | cons a l1 ih =>
    cases l2 with
    | nil => exact absurd ((hm a).mp (by simp)) (by simp)
    | cons b l2 =>
      obtain ⟨p1, q1⟩ := List.pairwise_cons.mp h1
      obtain ⟨p2, q2⟩ := List.pairwise_cons.mp h2
      have hab : a = b := by
        rcases List.mem_cons.mp ((hm a).mp (by simp)) with e | e
        · exact e
        · rcases List.mem_cons.mp ((hm b).mpr (by simp)) with e' | e'
          · exact e'.symm
          · exact absurd (List.lt_trans (p2 a e) (p1 b e')) (List.lt_irrefl _)
      subst hab
      rw [ih q1 q2 fun x => ?_]
      constructor
      · intro hx
        rcases List.mem_cons.mp ((hm x).mp (List.mem_cons_of_mem _ hx)) with e | e
        · subst e; exact absurd (p1 x hx) (List.lt_irrefl _)
        · exact e
      · intro hx
        rcases List.mem_cons.mp ((hm x).mpr (List.mem_cons_of_mem _ hx)) with e | e
        · subst e; exact absurd (p2 x hx) (List.lt_irrefl _)
        · exact e
/-- the signs of a list, each once, in the order of their texts -/
def sortSg (l : List Sgn) : List Sgn := allSg.filter fun s => decide (s ∈ l)
theorem mem_sortSg {l : List Sgn} {s : Sgn} : s ∈ sortSg l ↔ s ∈ l := by
  unfold sortSg
  rw [List.mem_filter]
  simp [all_sg]
theorem sortSg_sorted (l : List Sgn) : ((sortSg l).map Sgn.key).Pairwise (· < ·) := by
  unfold sortSg
  have h : ∀ a : List Sgn, (a.map Sgn.key).Pairwise (· < ·) → ((a.filter fun s => decide (s ∈ l)).map Sgn.key).Pairwise (· < ·) := fun a h => by
    rw [List.pairwise_map] at h ⊢
    exact h.filter _
  exact h _ all_sorted
theorem sortSg_congr {l l' : List Sgn} (h : ∀ s, s ∈ l ↔ s ∈ l') : sortSg l = sortSg l' := by
  unfold sortSg
  congr 1
  funext s
  simp [h s]
theorem ltCps_N : ∀ a b : List Nat, ltCps a b = ltN a b
  | [], [] => rfl
  | [], _ :: _ => rfl
  | _ :: _, [] => rfl
  | a :: as, b :: bs => by
    unfold ltCps ltN
    rw [ltCps_N as bs]
    by_cases h : a < b
    · simp [h]
    · by_cases k : b < a
      · have : ¬ a = b := by omega
        simp [h, k, this]
      · have : a = b := by omega
        simp [h, k, this]
theorem ltN_total : ∀ a b : List Nat, ltN b a = false → a ≠ b → ltN a b = true
  | [], [], _, n => absurd rfl n
  | [], _ :: _, _, _ => rfl
  | _ :: _, [], h, _ => by simp [ltN] at h
  | a :: as, b :: bs, h, n => by
    unfold ltN at h ⊢
    by_cases k : a < b
    · rw [if_pos k]
    · by_cases j : b < a
      · rw [if_pos j] at h; cases h
      · have e : a = b := by omega
        rw [if_neg j, if_neg k] at h
        rw [if_neg k, if_neg j]
        exact ltN_total as bs h fun z => n (by rw [e, z])
theorem rising_pw : ∀ (r : List Str) (x : Str), risingS x r = true → (x :: r).Nodup → ((x :: r).map fun z => z.cps.toList).Pairwise (· < ·)
  | [], x, _, _ => by simp
  | y :: r, x, h, n => by
    unfold risingS at h
    rw [Bool.and_eq_true, Bool.not_eq_true', ltCps_N] at h
    have ih := rising_pw r y h.2 (List.nodup_cons.mp n).2
    have hxy : x.cps.toList < y.cps.toList := (ltN_iff _ _).mp (ltN_total _ _ h.1 fun z => (List.nodup_cons.mp n).1 (by rw [str_ext z]; simp))
    rw [List.map_cons]
    refine List.pairwise_cons.mpr ⟨fun z hz => ?_, ih⟩
    rw [List.map_cons] at hz ih
    rcases List.mem_cons.mp hz with rfl | hz
    · exact hxy
    · exact List.lt_trans hxy ((List.pairwise_cons.mp ih).1 z hz)
theorem sorted_pw {ys : List Str} (h : sortedS ys = true) (n : ys.Nodup) : (ys.map fun z => z.cps.toList).Pairwise (· < ·) := by
  cases ys with
  | nil => exact .nil
  | cons x r => exact rising_pw r x h n
theorem txt_nodup {l : List Sgn} (n : l.Nodup) : (l.map Sgn.txt).Nodup := by
  induction l with
  | nil => exact List.nodup_nil
  | cons a l ih =>
    rw [List.nodup_cons] at n
    rw [List.map_cons, List.nodup_cons]
    exact ⟨fun h => by obtain ⟨b, hb, e⟩ := List.mem_map.mp h; rw [txt_inj e] at hb; exact n.1 hb, ih n.2⟩
theorem sorted_uniq {l : List Sgn} {ys : List Str} (n : l.Nodup) (hp : ys.Perm (l.map Sgn.txt)) (hs : sortedS ys = true) : ys = (sortSg l).map Sgn.txt := by
  have h1 := sorted_pw hs (hp.nodup_iff.mpr (txt_nodup n))
  have h2 : (((sortSg l).map Sgn.txt).map fun z => z.cps.toList).Pairwise (· < ·) := by
    rw [List.map_map]
    have e : ((fun z : Str => z.cps.toList) ∘ Sgn.txt) = Sgn.key := funext txt_key
    rw [e]; exact sortSg_sorted l
  have key : ys.map (fun z => z.cps.toList) = ((sortSg l).map Sgn.txt).map fun z => z.cps.toList := by
    refine pw_unique h1 h2 fun x => ?_
    have m : ∀ z, z ∈ ys ↔ z ∈ (sortSg l).map Sgn.txt := fun z => by
      rw [hp.mem_iff, List.mem_map, List.mem_map]
      constructor
      · rintro ⟨s, hs, rfl⟩; exact ⟨s, mem_sortSg.mpr hs, rfl⟩
      · rintro ⟨s, hs, rfl⟩; exact ⟨s, mem_sortSg.mp hs, rfl⟩
    rw [List.mem_map, List.mem_map]
    constructor
    · rintro ⟨z, hz, rfl⟩; exact ⟨z, (m z).mp hz, rfl⟩
    · rintro ⟨z, hz, rfl⟩; exact ⟨z, (m z).mpr hz, rfl⟩
  have inj : ∀ a b : List Str, a.map (fun z => z.cps.toList) = b.map (fun z => z.cps.toList) → a = b := fun a => by
    induction a with
    | nil => intro b h; cases b with
      | nil => rfl
      | cons _ _ => cases h
    | cons x a ih => intro b h; cases b with
      | nil => cases h
      | cons y b =>
        rw [List.map_cons, List.map_cons, List.cons.injEq] at h
        rw [str_ext h.1, ih b h.2]
  exact inj _ _ key
/-! ### dict([(text, sign), ..]) -/
def Sgn.kv (s : Sgn) : Str × D := (s.txt, s.d)
theorem put_kv (acc : List Sgn) (s : Sgn) : putG (acc.map Sgn.kv) s.txt s.d = if s ∈ acc then acc.map Sgn.kv else (acc ++ [s]).map Sgn.kv := by
  unfold putG
  have e : ((acc.map Sgn.kv).any fun kv => decide (kv.1 = s.txt)) = decide (s ∈ acc) := by
    rw [Bool.eq_iff_iff, List.any_eq_true, decide_eq_true_iff]
    constructor
    · rintro ⟨p, hp, e⟩
      obtain ⟨t, ht, rfl⟩ := List.mem_map.mp hp
      rw [← txt_inj (of_decide_eq_true e)]; exact ht
    · intro h
      exact ⟨s.kv, List.mem_map.mpr ⟨s, h, rfl⟩, decide_eq_true rfl⟩
  rw [e]
  by_cases h : s ∈ acc
  · rw [if_pos (decide_eq_true h), if_pos h, List.map_map]
    refine List.map_congr_left fun t ht => ?_
    show (if t.txt = s.txt then (t.txt, s.d) else (t.txt, t.d)) = t.kv
    by_cases k : t.txt = s.txt
    · rw [if_pos k, txt_inj k]; rfl
    · rw [if_neg k]; rfl
  · rw [if_neg (by simpa using h), if_neg h]
    simp [Sgn.kv]
theorem merge_kv : ∀ (l acc : List Sgn), acc.Nodup → ∃ l' : List Sgn, mergeG (acc.map Sgn.kv) (l.map Sgn.kv) = l'.map Sgn.kv ∧ l'.Nodup ∧ (∀ s, s ∈ l' ↔ s ∈ acc ∨ s ∈ l) ∧ l'.length ≤ acc.length + l.length
  | [], acc, n => ⟨acc, rfl, n, fun s => by simp, by simp⟩
  | s :: l, acc, n => by
    have step : mergeG (acc.map Sgn.kv) ((s :: l).map Sgn.kv) = mergeG (putG (acc.map Sgn.kv) s.txt s.d) (l.map Sgn.kv) := rfl
    rw [step, put_kv]
    by_cases h : s ∈ acc
    · rw [if_pos h]
      obtain ⟨l', e1, e2, e3, e4⟩ := merge_kv l acc n
      refine ⟨l', e1, e2, fun t => ?_, by rw [List.length_cons]; omega⟩
      rw [e3, List.mem_cons]
      constructor
      · rintro (h | h)
        · exact .inl h
        · exact .inr (.inr h)
      · rintro (h1 | rfl | h1)
        · exact .inl h1
        · exact .inl h
        · exact .inr h1
    · rw [if_neg h]
      obtain ⟨l', e1, e2, e3, e4⟩ := merge_kv l (acc ++ [s]) (List.nodup_append.mpr ⟨n, by simp, fun a ha b hb => by
        have hb : b = s := by simpa using hb
        rintro rfl; rw [hb] at ha; exact h ha⟩)
      refine ⟨l', e1, e2, fun t => ?_, by rw [List.length_append] at e4; simp only [List.length_cons, List.length_nil] at e4 ⊢; omega⟩
      rw [e3, List.mem_append, List.mem_cons]
      simp [or_assoc]
theorem pairs_kv : ∀ l : List Sgn, pairsD (l.map fun s => D.tup [.str s.txt, s.d]) = some (l.map Sgn.kv)
  | [] => rfl
  | s :: l => by
    rw [List.map_cons]
    unfold pairsD
    rw [pairs_kv l]; rfl
theorem look_kv {s : Sgn} : ∀ {l : List Sgn}, s ∈ l → lookD (l.map Sgn.txt) (l.map Sgn.d) s.txt = some s.d
  | [], h => by cases h
  | t :: l, h => by
    rw [List.map_cons, List.map_cons]
    unfold lookD
    by_cases k : t.txt = s.txt
    · rw [if_pos k, txt_inj k]
    · rw [if_neg k]
      rcases List.mem_cons.mp h with rfl | h
      · exact absurd rfl k
      · exact look_kv h
/-- the dict of a list of signs by their texts -/
theorem dct_kv (l : List Sgn) {P : D → Prop} (h : ∀ l' : List Sgn, l'.Nodup → (∀ s, s ∈ l' ↔ s ∈ l) → l'.length ≤ l.length → P (.dct (l'.map Sgn.txt) (l'.map Sgn.d))) : dctP P (.lst (l.map fun s => D.tup [.str s.txt, s.d])) := by
  show (match pairsD (l.map fun s => D.tup [.str s.txt, s.d]) with | some ps => P (.dct ((mergeG [] ps).map (·.1)) ((mergeG [] ps).map (·.2))) | none => False)
  rw [pairs_kv]
  obtain ⟨l', e1, e2, e3, e4⟩ := merge_kv l [] List.nodup_nil
  have e1 : mergeG [] (l.map Sgn.kv) = l'.map Sgn.kv := e1
  show P (.dct ((mergeG [] (l.map Sgn.kv)).map (·.1)) ((mergeG [] (l.map Sgn.kv)).map (·.2)))
  rw [e1, List.map_map, List.map_map]
  exact h l' e2 (fun s => by rw [e3]; simp) (by simpa using e4)
theorem srt_kv {l' : List Sgn} (n : l'.Nodup) (h64 : l'.length < 64) (ds : List D) {P : List D → Prop} (h : P (((sortSg l').map Sgn.txt).map .str)) : srtP P (.dct (l'.map Sgn.txt) ds) :=
  ⟨by rw [List.length_map]; exact h64, fun ys hp hs => by rw [sorted_uniq n hp hs]; exact h⟩
end DL
namespace DL
open PySem PySem.Spec PyProof.Rows L2
def allSh' : List Shp := [.a, .b, .c, .d]
def allTn' : List Trn := [.i, .o, .l, .r]
def allMv' : List Mov := [.n, .u, .w, .l, .r]
@[simp] def sd_sign_text : SpD := fun ds P _ => ∃ s : Sgn, ds = [s.d] ∧ P (.str s.txt)
theorem len_sign_text : ∀ ds P R, sd_sign_text ds P R → ds.length = 1 := fun ds P R h => by obtain ⟨_, rfl, _⟩ := h; rfl
def t_sign_text : DST :=
    (sSeq (sAsg (dV 0) (gT 5 (gsCons (gN 1) (gsCons (gN 2) (gsCons (gN 3) (gsCons (gN 4) (gsCons (gN 5) gsNil)))))))
    (sSeq (sAsg (dIf (qV (dOp fIsN (dV 5) (dC .non))) (dC (.str "-")) (dOp fAdd (dC (.str "+")) (dJoin (dC (.str "")) (dV 5)))) (gN 6))
    (sRet (dOp fAdd (dJoined (djCons (dFmt (dV 1)) (djCons (dFmt (dV 2)) (djCons (dFmt (dV 3)) (djCons (dFmt (dV 4)) djNil))))) (dV 6)))))

theorem len_cps (x : Str) : x.length = x.cps.toList.length := by simp [Str.length]
theorem big8 {n : Nat} (h : n ≤ 8) : n ≤ sizeLine := Nat.le_trans h (by decide)
theorem pre1 (a : Shp) : (Str.empty ++ a.s).length ≤ sizeLine := by rw [len_cps]; simp only [Str.app_cps, Shp.sc]; exact big8 (by simp [Str.empty])
theorem pre2 (a : Shp) (b : Trn) : (Str.empty ++ a.s ++ b.s).length ≤ sizeLine := by rw [len_cps]; simp only [Str.app_cps, Shp.sc, Trn.sc]; exact big8 (by simp [Str.empty])
theorem pre3 (a : Shp) (b : Trn) (c : Mov) : (Str.empty ++ a.s ++ b.s ++ c.s).length ≤ sizeLine := by rw [len_cps]; simp only [Str.app_cps, Shp.sc, Trn.sc, Mov.sc]; exact big8 (by simp [Str.empty])
theorem pre4e (a : Shp) (b : Trn) (c : Mov) (p : Plc) : (Str.empty ++ a.s ++ b.s ++ c.s ++ (toString p.i : Str)).length = 4 := by rw [len_cps]; simp only [Str.app_cps, Shp.sc, Trn.sc, Mov.sc, Plc.sc]; rfl
theorem pre4 (a : Shp) (b : Trn) (c : Mov) (p : Plc) : (Str.empty ++ a.s ++ b.s ++ c.s ++ (toString p.i : Str)).length ≤ sizeLine := by rw [pre4e]; exact big8 (by decide)
theorem pre5 (a : Shp) (b : Trn) (c : Mov) (p : Plc) (q : Sec) : (Str.empty ++ a.s ++ b.s ++ c.s ++ (toString p.i : Str)).length + q.rest.length ≤ sizeLine := by
  rw [pre4e, len_cps, Sec.sc]
  refine big8 ?_
  cases q <;> simp [Sec.k]
theorem plog (p : Plc) : p.i.natAbs.log2 < 1920 := by cases p <;> decide +kernel
theorem one_sh (s : Shp) : s.s.length = 1 := by rw [len_cps, Shp.sc]; rfl
theorem one_tn (s : Trn) : s.s.length = 1 := by rw [len_cps, Trn.sc]; rfl
theorem one_mv (s : Mov) : s.s.length = 1 := by rw [len_cps, Mov.sc]; rfl
theorem vc_sign_text : ∀ ds P R, sd_sign_text ds P R → t_sign_text (startR ["sign", "shape", "turn", "move", "place", "second", "rest"] ds) ⟨fun _ => P .non, P, fun _ => False, fun _ => False, R⟩ := fun ds P R h => by
  obtain ⟨s, rfl, h⟩ := h
  obtain ⟨a, b, c, p, q⟩ := s
  cases q with
  | non =>
    simp [t_sign_text, Sgn.d, Sec.d]
    exact ⟨pre1 a, pre2 a b, pre3 a b c, plog p, pre4 a b c p, pre5 a b c p .non, h⟩
  | m =>
    simp [t_sign_text, Sgn.d, Sec.d]
    exact ⟨by decide +kernel, by decide +kernel, pre1 a, pre2 a b, pre3 a b c, plog p, pre4 a b c p, pre5 a b c p .m, h⟩
  | hand s t =>
    simp [t_sign_text, Sgn.d, Sec.d]
    refine ⟨?_, ?_, pre1 a, pre2 a b, pre3 a b c, plog p, pre4 a b c p, pre5 a b c p (.hand s t), h⟩
    · have e1 := one_sh s
      have e2 := one_tn t
      have e3 : ("" : Str).length = 0 := by decide +kernel
      simp [e1, e2, e3]
    · have := pre5 a b c p (.hand s t)
      have e : ("+" : Str).length + (Txt.join "" [s.s, t.s]).length = (Sec.hand s t).rest.length := by
        show _ = ("+" ++ Txt.join "" [s.s, t.s]).length
        rw [len_cps, len_cps, len_cps ("+" ++ _), Str.app_cps, List.length_append]
      rw [e]; omega
@[simp] def sd_all_hands : SpD := fun ds P _ => ds = [] ∧ P (.lst (allSh'.flatMap fun s => allTn'.map fun t => .tup [.str s.s, .str t.s]))
theorem len_all_hands : ∀ ds P R, sd_all_hands ds P R → ds.length = 0 := fun ds P R h => by obtain ⟨rfl, _⟩ := h; rfl
def t_all_hands : DST :=
    (sSeq (sNew 0 (dLst dNil))
    (sSeq (sFor (dItems (dC (.str "abcd"))) (gN 1)
      (sExt 0 (dOfL (dLc (dItems (dC (.str "iolr"))) (gN 2) qYes (dTup (dCons (dV 1) (dCons (dV 2) dNil))) [2]))))
    (sRet (dVB 0))))

theorem chars_sh : charsD "abcd" = [.str "a", .str "b", .str "c", .str "d"] := rfl
theorem chars_tn : charsD "iolr" = [.str "i", .str "o", .str "l", .str "r"] := rfl
theorem chars_mv : charsD "nuwlr" = [.str "n", .str "u", .str "w", .str "l", .str "r"] := rfl
theorem vc_all_hands : ∀ ds P R, sd_all_hands ds P R → t_all_hands (startR ["found", "shape", "turn"] ds) ⟨fun _ => P .non, P, fun _ => False, fun _ => False, R⟩ := fun ds P R h => by
  obtain ⟨rfl, h⟩ := h
  show t_all_hands [.non, .non, .non] _
  have row : ∀ (a : Shp) (x y z : Sl) (R : RX) (K : D → Prop), K (.lst (allTn'.map fun t => .tup [.str a.s, .str t.s])) → dOfL (dLc (dItems (dC (.str "iolr"))) (gN 2) qYes (dTup (dCons (dV 1) (dCons (dV 2) dNil))) [2]) [x, .val (.str a.s), z] K R := fun a x y z R K h => by
    simp [chars_tn]
    exact ⟨by decide +kernel, h⟩
  have app : ∀ (a : Shp) (ds : List D) (x y z : Sl) (De : DEnds), ds.length ≤ 20 → De.nx [.own (ds ++ allTn'.map fun t => .tup [.str a.s, .str t.s]), .val (.str a.s), z] →
      sExt 0 (dOfL (dLc (dItems (dC (.str "iolr"))) (gN 2) qYes (dTup (dCons (dV 1) (dCons (dV 2) dNil))) [2])) [.own ds, .val (.str a.s), z] De := fun a ds x y z De hl h => by
    refine one_ext rfl (fun P h => row a _ .non _ _ P h) ?_ h
    exact Nat.le_trans (Nat.add_le_add_right hl _) (by rw [List.length_map]; decide)
  refine seq_new [] (fun P h => ⟨by decide, h⟩) ?_
  refine seq_for [.str "a", .str "b", .str "c", .str "d"] (fun P h => ⟨by decide +kernel, h⟩) ?_
  refine go_cons ?_
  refine app .a _ .non .non _ _ (Nat.zero_le _) ?_
  dsimp only
  refine go_cons ?_
  refine app .b _ .non .non _ _ (by simp [allTn']) ?_
  dsimp only
  refine go_cons ?_
  refine app .c _ .non .non _ _ (by simp [allTn']) ?_
  dsimp only
  refine go_cons ?_
  refine app .d _ .non .non _ _ (by simp [allTn']) ?_
  dsimp only
  refine go_nil ?_
  exact h
def allSc' : List Sec := [.non, .m] ++ allSh'.flatMap fun s => allTn'.map fun t => Sec.hand s t
/-- the values of a thing -/
def ents (k : Int) : List D := if k = 0 then allSh'.map (.str ·.s) else if k = 1 then allTn'.map (.str ·.s) else if k = 2 then allMv'.map (.str ·.s) else if k = 3 then [.int 0, .int 1, .int 2] else allSc'.map Sec.d
@[simp] def sd_entries : SpD := fun ds P _ => ∃ k : Int, ds = [.int k] ∧ (0 ≤ k ∧ k ≤ 4) ∧ P (.lst (ents k))
theorem len_entries : ∀ ds P R, sd_entries ds P R → ds.length = 1 := fun ds P R h => by obtain ⟨_, rfl, _⟩ := h; rfl
def t_entries : DST :=
    (sSeq (sIf (qV (dOp fEq (dV 0) (dC (.int 3))))
      (sRet (dOfL (dListRg (dC (.int 3)))))
      sNext)
    (sSeq (sIf (qV (dOp fEq (dV 0) (dC (.int 4))))
      (sRet (dOfL (dCat (dOfL (dLst (dCons (dC .non) (dCons (dC (.str "m")) dNil)))) (dCall sd_all_hands dNil))))
      sNext)
    (sRet (dOfL (dListA (dOp fIx (dTup (dCons (dC (.str "abcd")) (dCons (dC (.str "iolr")) (dCons (dC (.str "nuwlr")) dNil)))) (dV 0)))))))

theorem range3 : rangeD 0 3 = [.int 0, .int 1, .int 2] := rfl
theorem vc_entries : ∀ ds P R, sd_entries ds P R → t_entries (startR ["thing"] ds) ⟨fun _ => P .non, P, fun _ => False, fun _ => False, R⟩ := fun ds P R h => by
  obtain ⟨k, rfl, ⟨h0, h1⟩, h⟩ := h
  rcases (by omega : k = 0 ∨ k = 1 ∨ k = 2 ∨ k = 3 ∨ k = 4) with rfl | rfl | rfl | rfl | rfl
  · simp [t_entries, chars_sh]; exact ⟨by decide +kernel, h⟩
  · simp [t_entries, chars_tn]; exact ⟨by decide +kernel, h⟩
  · simp [t_entries, chars_mv]; exact ⟨by decide +kernel, h⟩
  · simp [t_entries, range3]; exact h
  · simp [t_entries]
    refine ⟨by decide, ?_⟩
    exact h
/-- one thing of a sign is another -/
@[simp] def sd_changed : SpD := fun ds P _ => ∃ (a b c p q v : D) (k : Int), ds = [.tup [a, b, c, p, q], .int k, v] ∧ (0 ≤ k ∧ k ≤ 4) ∧ P (.tup ([a, b, c, p, q].set k.toNat v))
theorem len_changed : ∀ ds P R, sd_changed ds P R → ds.length = 3 := fun ds P R h => by obtain ⟨_, _, _, _, _, _, _, rfl, _⟩ := h; rfl
def t_changed : DST :=
    (sRet (dOp fAdd (dOp fAdd (dSl (dV 0) dNoP (dP (dV 1))) (dTup (dCons (dV 2) dNil))) (dSl (dV 0) (dP (dOp fAdd (dV 1) (dC (.int 1)))) dNoP)))

theorem vc_changed : ∀ ds P R, sd_changed ds P R → t_changed (startR ["sign", "thing", "value"] ds) ⟨fun _ => P .non, P, fun _ => False, fun _ => False, R⟩ := fun ds P R h => by
  obtain ⟨a, b, c, p, q, v, k, rfl, ⟨h0, h1⟩, h⟩ := h
  rcases (by omega : k = 0 ∨ k = 1 ∨ k = 2 ∨ k = 3 ∨ k = 4) with rfl | rfl | rfl | rfl | rfl
  · simp [t_changed] at h ⊢; exact h
  · simp [t_changed] at h ⊢; exact h
  · simp [t_changed] at h ⊢; exact h
  · simp [t_changed] at h ⊢; exact h
  · simp [t_changed] at h ⊢; exact h
end DL
namespace DL
open PySem PySem.Spec PyProof.Rows L2
@[simp] def sd_sorted_signs : SpD := fun ds P _ => ∃ l : List Sgn, ds = [.lst (l.map Sgn.d)] ∧ l.length < 64 ∧ P (.lst ((sortSg l).map Sgn.d))
theorem len_sorted_signs : ∀ ds P R, sd_sorted_signs ds P R → ds.length = 1 := fun ds P R h => by obtain ⟨_, rfl, _⟩ := h; rfl
def t_sorted_signs : DST :=
    (sSeq (sAsg (dDctP (dOfL (dLc (dItems (dV 0)) (gN 2) qYes (dTup (dCons (dCall sd_sign_text (dCons (dV 2) dNil)) (dCons (dV 2) dNil))) [2]))) (gN 1))
    (sRet (dOfL (dLc (dItems (dOfL (dSrtD (dV 1)))) (gN 3) qYes (dOp fDget (dV 1) (dV 3)) [3]))))

theorem vc_sorted_signs : ∀ ds P R, sd_sorted_signs ds P R → t_sorted_signs (startR ["signs", "known", "sign", "text"] ds) ⟨fun _ => P .non, P, fun _ => False, fun _ => False, R⟩ := fun ds P R h => by
  obtain ⟨l, rfl, hl, h⟩ := h
  refine seq_any (fun d => ∃ l' : List Sgn, l'.Nodup ∧ (∀ s, s ∈ l' ↔ s ∈ l) ∧ l'.length ≤ l.length ∧ d = .dct (l'.map Sgn.txt) (l'.map Sgn.d)) (fun K hK => ?_) ?_
  · refine lc_map (P := fun ds => dctP K (.lst ds)) Sgn.d (fun s => .tup [.str s.txt, s.d]) l (fun s _ K h => ?_) ?_
    · exact ⟨s, rfl, line2, h⟩
    · exact dct_kv l fun l' n m le => hK _ ⟨l', n, m, le, rfl⟩
  rintro _ ⟨l', n, m, le, rfl⟩
  show srtP (fun ds => lcGo (gN 3) qYes (dOp fDget (dV 1) (dV 3)) [.val (.lst (l.map Sgn.d)), .val (.dct (l'.map Sgn.txt) (l'.map Sgn.d)), .non, .non] (fun ds => P (.lst ds)) ds []) (.dct (l'.map Sgn.txt) (l'.map Sgn.d))
  refine srt_kv n (by omega) _ ?_
  rw [List.map_map, sortSg_congr m]
  refine lc_map (P := fun ds => P (.lst ds)) (D.str ∘ Sgn.txt) Sgn.d (sortSg l) (fun s hs K h => ?_) h
  show (match lookD (l'.map Sgn.txt) (l'.map Sgn.d) s.txt with | some d => K d | none => False)
  rw [look_kv ((m s).mpr (mem_sortSg.mp hs))]
  exact h
/-! ### near signs -/
def Sgn.chg (s : Sgn) (k : Int) (t : Sgn) : Sgn :=
  if k = 0 then { s with sh := t.sh } else if k = 1 then { s with tn := t.tn } else if k = 2 then { s with mv := t.mv } else if k = 3 then { s with pl := t.pl } else { s with sc := t.sc }
def nearP (s t : Sgn) : Bool := t.good && decide ((unlikeL s t).length = 1)
def nearL (s : Sgn) : List Sgn := allSg.filter (nearP s)
/-- the changes of one thing that leave a sign -/
def nearK (s : Sgn) (k : Int) : List Sgn :=
  (if k = 0 then (allSh'.filter fun x => !(x == s.sh)).map fun x => { s with sh := x }
   else if k = 1 then (allTn'.filter fun x => !(x == s.tn)).map fun x => { s with tn := x }
   else if k = 2 then (allMv'.filter fun x => !(x == s.mv)).map fun x => { s with mv := x }
   else if k = 3 then (allPl.filter fun x => !(x == s.pl)).map fun x => { s with pl := x }
   else (allSc'.filter fun x => !decide (x = s.sc)).map fun x => { s with sc := x })
@[simp] def sd_near : SpD := fun ds P _ => ∃ s : Sgn, ds = [s.d] ∧ P (.lst ((nearL s).map Sgn.d))
theorem len_near : ∀ ds P R, sd_near ds P R → ds.length = 1 := fun ds P R h => by obtain ⟨_, rfl, _⟩ := h; rfl
def t_near : DST :=
    (sSeq (sNew 1 (dLst dNil))
    (sSeq (sFor (dRange (dC (.int 5))) (gN 2)
      (sSeq (sAsgL 3 (dLc (dItems (dCall sd_entries (dCons (dV 2) dNil))) (gN 4) (qV (dOp fNe (dV 4) (dOp fIx (dV 0) (dV 2)))) (dCall sd_changed (dCons (dV 0) (dCons (dV 2) (dCons (dV 4) dNil)))) [4]))
      (sExt 1 (dOfL (dLc (dItems (dV 3)) (gN 5) (qV (dCall sd_is_sign (dCons (dV 5) dNil))) (dV 5) [5])))))
    (sGive 1 (sRet (dCall sd_sorted_signs (dCons (dV 1) dNil))))))

/-- some = [changed(sign, thing, value) for value in entries(thing) if value != sign[thing]] -/
theorem near_lc (s : Sgn) (k : Int) (h0 : 0 ≤ k) (h4 : k ≤ 4) (x1 x3 x4 x5 : Sl) (P : List D → Prop) (R : RX) (h : P ((nearK s k).map Sgn.d)) :
    dLc (dItems (dCall sd_entries (dCons (dV 2) dNil))) (gN 4) (qV (dOp fNe (dV 4) (dOp fIx (dV 0) (dV 2)))) (dCall sd_changed (dCons (dV 0) (dCons (dV 2) (dCons (dV 4) dNil)))) [4]
      [.val s.d, x1, .val (.int k), x3, x4, x5] P R := by
  refine ⟨k, rfl, ⟨h0, h4⟩, ?_⟩
  rcases (by omega : k = 0 ∨ k = 1 ∨ k = 2 ∨ k = 3 ∨ k = 4) with rfl | rfl | rfl | rfl | rfl
  · refine lc_gen (fun x : Shp => D.str x.s) (fun x => !(x == s.sh)) (fun x => Sgn.d { s with sh := x }) allSh' (fun x _ K h => ?_) (fun x _ hx K h => ?_) ?_
    · simp [sh_eq]; exact h
    · exact ⟨_, _, _, _, _, _, _, rfl, by decide, h⟩
    · rw [nearK, if_pos rfl, List.map_map] at h; exact h
  · refine lc_gen (fun x : Trn => D.str x.s) (fun x => !(x == s.tn)) (fun x => Sgn.d { s with tn := x }) allTn' (fun x _ K h => ?_) (fun x _ hx K h => ?_) ?_
    · simp [tn_eq]; exact h
    · exact ⟨_, _, _, _, _, _, _, rfl, by decide, h⟩
    · rw [nearK, if_neg (by decide), if_pos rfl, List.map_map] at h; exact h
  · refine lc_gen (fun x : Mov => D.str x.s) (fun x => !(x == s.mv)) (fun x => Sgn.d { s with mv := x }) allMv' (fun x _ K h => ?_) (fun x _ hx K h => ?_) ?_
    · simp [mv_eq]; exact h
    · exact ⟨_, _, _, _, _, _, _, rfl, by decide, h⟩
    · rw [nearK, if_neg (by decide), if_neg (by decide), if_pos rfl, List.map_map] at h; exact h
  · refine lc_gen (fun x : Plc => D.int x.i) (fun x => !(x == s.pl)) (fun x => Sgn.d { s with pl := x }) allPl (fun x _ K h => ?_) (fun x _ hx K h => ?_) ?_
    · simp [pl_eq]; exact h
    · exact ⟨_, _, _, _, _, _, _, rfl, by decide, h⟩
    · rw [nearK, if_neg (by decide), if_neg (by decide), if_neg (by decide), if_pos rfl, List.map_map] at h; exact h
  · refine lc_gen Sec.d (fun x => !decide (x = s.sc)) (fun x => Sgn.d { s with sc := x }) allSc' (fun x _ K h => ?_) (fun x _ hx K h => ?_) ?_
    · simp [sc_eq]; exact h
    · exact ⟨_, _, _, _, _, _, _, rfl, by decide, h⟩
    · rw [nearK, if_neg (by decide), if_neg (by decide), if_neg (by decide), if_neg (by decide), List.map_map] at h; exact h
theorem near_is (s : Sgn) (k : Int) (h0 : 0 ≤ k) (h4 : k ≤ 4) (x1 x2 x4 x5 : Sl) (P : D → Prop) (R : RX) (h : P (.lst (((nearK s k).filter Sgn.good).map Sgn.d))) :
    dOfL (dLc (dItems (dV 3)) (gN 5) (qV (dCall sd_is_sign (dCons (dV 5) dNil))) (dV 5) [5]) [.val s.d, x1, x2, .val (.lst ((nearK s k).map Sgn.d)), x4, x5] P R := by
  refine lc_gen (P := fun ds => P (.lst ds)) Sgn.d Sgn.good Sgn.d (nearK s k) (fun x _ K h => ?_) (fun x _ hx K h => h) h
  exact ⟨plain_S x, by rw [isSign_S]; exact h⟩
theorem nearK_len (s : Sgn) (k : Int) : (nearK s k).length ≤ 18 := by
  unfold nearK
  have g : ∀ {α : Type} (l : List α) (p : α → Bool) (f : α → Sgn), l.length ≤ 18 → ((l.filter p).map f).length ≤ 18 := fun l p f h => by
    rw [List.length_map]; exact Nat.le_trans (List.length_filter_le _ _) h
  split
  · exact g _ _ _ (by decide)
  split
  · exact g _ _ _ (by decide)
  split
  · exact g _ _ _ (by decide)
  split
  · exact g _ _ _ (by decide)
  · exact g _ _ _ (by decide)
def nearAll (s : Sgn) : List Sgn := ((nearK s 0).filter Sgn.good) ++ ((nearK s 1).filter Sgn.good) ++ ((nearK s 2).filter Sgn.good) ++ ((nearK s 3).filter Sgn.good) ++ ((nearK s 4).filter Sgn.good)
theorem nearAll_mem (s t : Sgn) : t ∈ nearAll s ↔ nearP s t = true := by
  obtain ⟨a, b, c, p, q⟩ := s
  obtain ⟨a', b', c', p', q'⟩ := t
  have hq : ∀ x, x ∈ allSc' := fun x => by
    have := all_sc x
    cases x with
    | non => simp [allSc']
    | m => simp [allSc']
    | hand s t => exact List.mem_append_right _ (List.mem_flatMap.mpr ⟨s, by cases s <;> simp [allSh'], List.mem_map.mpr ⟨t, by cases t <;> simp [allTn'], rfl⟩⟩)
  have ha : ∀ x, x ∈ allSh' := fun x => by cases x <;> simp [allSh']
  have hb : ∀ x, x ∈ allTn' := fun x => by cases x <;> simp [allTn']
  have hc : ∀ x, x ∈ allMv' := fun x => by cases x <;> simp [allMv']
  have hp := all_pl
  simp only [nearAll, nearK, nearP, unlikeL, List.mem_append, List.mem_filter, List.mem_map, Bool.and_eq_true, decide_eq_true_eq]
  by_cases h1 : a = a' <;> by_cases h2 : b = b' <;> by_cases h3 : c = c' <;> by_cases h4 : p = p' <;> by_cases h5 : q = q' <;> simp [h1, h2, h3, h4, h5, ha, hb, hc, hp, hq]
  all_goals (intro _ z; first | exact h1 z.symm | exact h2 z.symm | exact h3 z.symm | exact h4 z.symm | exact h5 z.symm)
theorem nearL_sort (s : Sgn) : nearL s = sortSg (nearAll s) := by
  unfold nearL sortSg
  congr 1
  funext t
  rw [Bool.eq_iff_iff, ← nearAll_mem, decide_eq_true_iff]
theorem mem_nearL (s t : Sgn) : t ∈ nearL s ↔ nearP s t = true := by
  unfold nearL
  rw [List.mem_filter]
  simp [all_sg]
theorem vc_near : ∀ ds P R, sd_near ds P R → t_near (startR ["sign", "found", "thing", "some", "value", "one"] ds) ⟨fun _ => P .non, P, fun _ => False, fun _ => False, R⟩ := fun ds P R h => by
  obtain ⟨s, rfl, h⟩ := h
  show t_near [.val s.d, .non, .non, .non, .non, .non] _
  refine seq_new [] (fun P h => ⟨by decide, h⟩) ?_
  refine seq_for [.int 0, .int 1, .int 2, .int 3, .int 4] (fun P h => ⟨by decide, h⟩) ?_
  have fl : ∀ k, ((nearK s k).filter Sgn.good).length ≤ 18 := fun k => Nat.le_trans (List.length_filter_le _ _) (nearK_len s k)
  have body : ∀ (k : Int) (acc : List Sgn) (x3 x4 x5 : Sl) (De : DEnds), (0 ≤ k ∧ k ≤ 4) → acc.length ≤ 100 → De.nx [.val s.d, .own ((acc ++ (nearK s k).filter Sgn.good).map Sgn.d), .val (.int k), .val (.lst ((nearK s k).map Sgn.d)), x4, x5] →
      sSeq (sAsgL 3 (dLc (dItems (dCall sd_entries (dCons (dV 2) dNil))) (gN 4) (qV (dOp fNe (dV 4) (dOp fIx (dV 0) (dV 2)))) (dCall sd_changed (dCons (dV 0) (dCons (dV 2) (dCons (dV 4) dNil)))) [4]))
        (sExt 1 (dOfL (dLc (dItems (dV 3)) (gN 5) (qV (dCall sd_is_sign (dCons (dV 5) dNil))) (dV 5) [5]))) [.val s.d, .own (acc.map Sgn.d), .val (.int k), x3, x4, x5] De := fun k acc x3 x4 x5 De hk ha h => by
    refine seq_asgL _ (fun P => near_lc s k hk.1 hk.2 _ _ _ _ P _) ?_
    refine one_ext rfl (fun P => near_is s k hk.1 hk.2 _ _ _ _ P _) ?_ ?_
    · rw [List.length_map, List.length_map]
      have := fl k
      exact Nat.le_trans (Nat.add_le_add ha this) (by decide)
    · rw [List.map_append] at h; exact h
  have le : ∀ (a b : List Sgn) (n m : Nat), a.length ≤ n → b.length ≤ m → (a ++ b).length ≤ n + m := fun a b n m h1 h2 => by rw [List.length_append]; omega
  have L0 := fl 0
  have L1 := le _ _ _ _ L0 (fl 1)
  have L2 := le _ _ _ _ L1 (fl 2)
  have L3 := le _ _ _ _ L2 (fl 3)
  refine go_cons ?_
  refine body 0 [] _ _ _ _ ⟨by decide, by decide⟩ (Nat.zero_le _) ?_
  dsimp only
  refine go_cons ?_
  refine body 1 _ _ _ _ _ ⟨by decide, by decide⟩ (Nat.le_trans L0 (by decide)) ?_
  dsimp only
  refine go_cons ?_
  refine body 2 _ _ _ _ _ ⟨by decide, by decide⟩ (Nat.le_trans L1 (by decide)) ?_
  dsimp only
  refine go_cons ?_
  refine body 3 _ _ _ _ _ ⟨by decide, by decide⟩ (Nat.le_trans L2 (by decide)) ?_
  dsimp only
  refine go_cons ?_
  refine body 4 _ _ _ _ _ ⟨by decide, by decide⟩ (Nat.le_trans L3 (by decide)) ?_
  dsimp only
  refine go_nil ?_
  dsimp only
  refine give_at rfl ?_
  refine ⟨nearAll s, rfl, ?_, ?_⟩
  · have n0 : ((nearK s 0).filter Sgn.good).length ≤ 4 := by
      refine Nat.le_trans (List.length_filter_le _ _) ?_
      rw [nearK, if_pos rfl, List.length_map]; exact List.length_filter_le _ _
    have n1 : ((nearK s 1).filter Sgn.good).length ≤ 4 := by
      refine Nat.le_trans (List.length_filter_le _ _) ?_
      rw [nearK, if_neg (by decide), if_pos rfl, List.length_map]; exact List.length_filter_le _ _
    have n2 : ((nearK s 2).filter Sgn.good).length ≤ 5 := by
      refine Nat.le_trans (List.length_filter_le _ _) ?_
      rw [nearK, if_neg (by decide), if_neg (by decide), if_pos rfl, List.length_map]; exact List.length_filter_le _ _
    have n3 : ((nearK s 3).filter Sgn.good).length ≤ 3 := by
      refine Nat.le_trans (List.length_filter_le _ _) ?_
      rw [nearK, if_neg (by decide), if_neg (by decide), if_neg (by decide), if_pos rfl, List.length_map]; exact List.length_filter_le _ _
    have n4 := fl 4
    simp only [nearAll, List.length_append]; omega
  · rw [← nearL_sort]; exact h
@[simp] def sd_neighbors : SpD := fun ds P R => match ds with
  | [d] => d.plain = true ∧ (∀ s : Sgn, d = s.d → s.good = true → P (.tup ((nearL s).map Sgn.d))) ∧ (isSignD d = false → R "InvalidSign")
  | _ => False
theorem len_neighbors : ∀ ds P R, sd_neighbors ds P R → ds.length = 1 := fun ds P R h => by
  unfold sd_neighbors at h; split at h
  · rfl
  · exact h.elim
def t_neighbors : DST :=
    (sSeq (sDrop (dCall sd_check_sign (dCons (dV 0) dNil)))
    (sRet (dTuple (dCall sd_near (dCons (dV 0) dNil)))))

theorem vc_neighbors : ∀ ds P R, sd_neighbors ds P R → t_neighbors (startR ["sign"] ds) ⟨fun _ => P .non, P, fun _ => False, fun _ => False, R⟩ := fun ds P R h => by
  unfold sd_neighbors at h; split at h
  · rename_i d
    obtain ⟨hp, h1, h2⟩ := h
    simp [t_neighbors, hp]
    refine ⟨fun z => ?_, h2⟩
    obtain ⟨s, gs, rfl⟩ := isSign_iff.mp z
    exact ⟨s, rfl, h1 s rfl gs⟩
  · exact h.elim
end DL
namespace DL
open PySem PySem.Spec PyProof.Rows L2
/-- neither the shape nor the second hand can be changed first -/
def lockd (s t : Sgn) : Bool := match s.sc, t.sc with
  | .hand _ _, .hand _ _ => !(s.sh == t.sh) && (!(Sgn.good { s with sh := t.sh }) && !(Sgn.good { s with sc := t.sc }))
  | _, _ => false
@[simp] def sd_is_locked : SpD := fun ds P _ => ∃ s t : Sgn, ds = [s.d, t.d] ∧ P (.bl (lockd s t))
theorem len_is_locked : ∀ ds P R, sd_is_locked ds P R → ds.length = 2 := fun ds P R h => by obtain ⟨_, _, rfl, _⟩ := h; rfl
def t_is_locked : DST :=
    (sSeq (sIf (qOr (qNot (qV (dIsT isTupD (dOp fIx (dV 0) (dC (.int 4)))))) (qOr (qNot (qV (dIsT isTupD (dOp fIx (dV 1) (dC (.int 4)))))) (qV (dOp fEq (dOp fIx (dV 0) (dC (.int 0))) (dOp fIx (dV 1) (dC (.int 0)))))))
      (sRet (dC (.bl false)))
      sNext)
    (sRet (dAnd (dNot (dCall sd_is_sign (dCons (dCall sd_changed (dCons (dV 0) (dCons (dC (.int 0)) (dCons (dOp fIx (dV 1) (dC (.int 0))) dNil)))) dNil))) (dNot (dCall sd_is_sign (dCons (dCall sd_changed (dCons (dV 0) (dCons (dC (.int 4)) (dCons (dOp fIx (dV 1) (dC (.int 4))) dNil)))) dNil))))))

theorem vc_is_locked : ∀ ds P R, sd_is_locked ds P R → t_is_locked (startR ["one", "other"] ds) ⟨fun _ => P .non, P, fun _ => False, fun _ => False, R⟩ := fun ds P R h => by
  obtain ⟨s, t, rfl, h⟩ := h
  have e1 : ∀ K : D → Prop, K (.tup [.str t.sh.s, .str s.tn.s, .str s.mv.s, .int s.pl.i, s.sc.d]) → sd_changed [s.d, .int 0, .str t.sh.s] K R := fun K k => ⟨_, _, _, _, _, _, _, rfl, by decide, k⟩
  have e2 : ∀ K : D → Prop, K (.tup [.str s.sh.s, .str s.tn.s, .str s.mv.s, .int s.pl.i, t.sc.d]) → sd_changed [s.d, .int 4, t.sc.d] K R := fun K k => ⟨_, _, _, _, _, _, _, rfl, by decide, k⟩
  unfold lockd at h
  have g1 : (D.tup [.str t.sh.s, .str s.tn.s, .str s.mv.s, .int s.pl.i, s.sc.d]) = Sgn.d { s with sh := t.sh } := rfl
  have g2 : (D.tup [.str s.sh.s, .str s.tn.s, .str s.mv.s, .int s.pl.i, t.sc.d]) = Sgn.d { s with sc := t.sc } := rfl
  rw [g1] at e1
  rw [g2] at e2
  cases hs : s.sc with
  | non =>
    rw [hs] at h
    simp [t_is_locked, hs, Sec.d]; exact h
  | m =>
    rw [hs] at h
    simp [t_is_locked, hs, Sec.d]; exact h
  | hand a b =>
    cases ht : t.sc with
    | non =>
      rw [hs, ht] at h
      simp [t_is_locked, hs, ht, Sec.d]; exact h
    | m =>
      rw [hs, ht] at h
      simp [t_is_locked, hs, ht, Sec.d]; exact h
    | hand a' b' =>
      rw [hs, ht] at h
      simp [t_is_locked, hs, ht, Sec.d, -sd_changed]
      have e3 : ∀ K : D → Prop, K (Sgn.d { s with sc := t.sc }) → sd_changed [s.d, .int 4, .tup [.str a'.s, .str b'.s]] K R := fun K k => by
        have := e2 K k
        rw [ht] at this; exact this
      have h : P (.bl (!(s.sh == t.sh) && (!(Sgn.good { s with sh := t.sh }) && !(Sgn.good { s with sc := t.sc })))) := by rw [hs, ht]; exact h
      by_cases z : s.sh = t.sh
      · rw [if_pos z]
        have : (s.sh == t.sh) = true := beq_iff_eq.mpr z
        rw [this] at h; exact h
      · rw [if_neg z]
        have : (s.sh == t.sh) = false := beq_eq_false_iff_ne.mpr z
        rw [this] at h
        refine e1 _ ⟨plain_S _, ?_⟩
        rw [isSign_S]
        by_cases y : Sgn.good { s with sh := t.sh } = true
        · rw [if_pos y]; rw [y] at h; exact h
        · rw [if_neg y]
          have y : Sgn.good { s with sh := t.sh } = false := by simpa using y
          rw [y] at h
          refine e3 _ ⟨plain_S _, ?_⟩
          rw [isSign_S]; exact h
def stepsN (s t : Sgn) : Nat := (unlikeL s t).length + if lockd s t = true then 1 else 0
@[simp] def sd_steps : SpD := fun ds P R => match ds with
  | [d, e] => d.plain = true ∧ e.plain = true ∧ (∀ s : Sgn, d = s.d → ∀ t : Sgn, e = t.d → s.good = true → t.good = true → P (.int (stepsN s t : Nat))) ∧ (isSignD d = false ∨ isSignD e = false → R "InvalidSign")
  | _ => False
theorem len_steps : ∀ ds P R, sd_steps ds P R → ds.length = 2 := fun ds P R h => by
  unfold sd_steps at h; split at h
  · rfl
  · exact h.elim
def t_steps : DST :=
    (sSeq (sDrop (dCall sd_check_two (dCons (dV 0) (dCons (dV 1) dNil))))
    (sRet (dOp fAdd (dLen (dCall sd_unlike_in (dCons (dV 0) (dCons (dV 1) dNil)))) (dIf (qV (dCall sd_is_locked (dCons (dV 0) (dCons (dV 1) dNil)))) (dC (.int 1)) (dC (.int 0))))))

theorem vc_steps : ∀ ds P R, sd_steps ds P R → t_steps (startR ["one", "other"] ds) ⟨fun _ => P .non, P, fun _ => False, fun _ => False, R⟩ := fun ds P R h => by
  unfold sd_steps at h; split at h
  · rename_i d e
    obtain ⟨hp, hq, h1, h2⟩ := h
    simp [t_steps, hp, hq]
    refine ⟨fun z y => ?_, h2⟩
    obtain ⟨s, gs, rfl⟩ := isSign_iff.mp z
    obtain ⟨t, gt, rfl⟩ := isSign_iff.mp y
    have := h1 s rfl t rfl gs gt
    unfold stepsN at this
    refine ⟨s, t, ⟨rfl, rfl⟩, s, t, ⟨rfl, rfl⟩, ?_⟩
    cases z : lockd s t
    · rw [z] at this; simpa using this
    · rw [z] at this; simpa using this
  · exact h.elim
/-! ### the next sign of a chain -/
def nextS (s t : Sgn) : Sgn := if lockd s t = true then { s with sc := .non } else ((((unlikeL s t).map fun k => s.chg k t).filter Sgn.good).head?).getD s
theorem goTog_hand (a a' : Shp) (m m' : Mov) (x : Shp) (y y' : Trn) : goTog a m (.hand x y) = goTog a m' (.hand x y') := rfl
theorem good_tn (s : Sgn) (x : Trn) : Sgn.good { s with tn := x } = s.good := rfl
theorem good_pl (s : Sgn) (x : Plc) : Sgn.good { s with pl := x } = s.good := rfl
theorem lockd_tn (s t : Sgn) (x : Trn) : lockd { s with tn := x } t = lockd s t := rfl
theorem lockd_pl (s t : Sgn) (x : Plc) : lockd { s with pl := x } t = lockd s t := rfl
theorem lockd_mv (s t : Sgn) (x : Mov) : lockd { s with mv := x } t = lockd s t := by
  unfold lockd
  cases hs : s.sc <;> cases ht : t.sc <;> simp [hs, ht, Sgn.good, goTog]
theorem lockd_sh (s t : Sgn) : lockd { s with sh := t.sh } t = false := by
  unfold lockd
  cases hs : s.sc <;> cases ht : t.sc <;> simp [hs, ht]
theorem lockd_sc (s t : Sgn) (h : Sgn.good { s with sc := t.sc } = true) : lockd { s with sc := t.sc } t = false := by
  unfold lockd
  cases ht : t.sc with
  | non => rfl
  | m => rfl
  | hand a b => rw [ht] at h; simp [h]
theorem lockd_self (s : Sgn) : lockd s s = false := by
  unfold lockd
  cases s.sc <;> simp
theorem unlike_self (s : Sgn) : unlikeL s s = [] := (unlike_nil s s).mpr rfl
/-- some single change is good, unless both shape and second hand are locked -/
theorem some_good (s t : Sgn) (gs : s.good = true) (gt : t.good = true) (hne : s ≠ t) (hl : lockd s t = false) : ∃ k ∈ unlikeL s t, (s.chg k t).good = true := by
  obtain ⟨a, b, c, p, q⟩ := s
  obtain ⟨a', b', c', p', q'⟩ := t
  by_cases h2 : b = b'
  · by_cases h4 : p = p'
    · subst h2 h4
      by_cases h1 : Sgn.good ⟨a', b, c, p, q⟩ = true ∧ a ≠ a'
      · exact ⟨0, by simp [unlikeL, h1.2], h1.1⟩
      · by_cases h3 : Sgn.good ⟨a, b, c', p, q⟩ = true ∧ c ≠ c'
        · exact ⟨2, by simp [unlikeL, h3.2], h3.1⟩
        · by_cases h5 : Sgn.good ⟨a, b, c, p, q'⟩ = true ∧ q ≠ q'
          · exact ⟨4, by simp [unlikeL, h5.2], h5.1⟩
          · exfalso
            simp only [Sgn.good] at h1 h3 h5 gs gt
            have hne : ¬ (a = a' ∧ c = c' ∧ q = q') := fun z => hne (by rw [z.1, z.2.1, z.2.2])
            unfold lockd at hl
            cases q with
            | non =>
              have c1 : c = c' := Classical.byContradiction fun z => h3 ⟨rfl, z⟩
              have c2 : a = a' := Classical.byContradiction fun z => h1 ⟨rfl, z⟩
              subst c1 c2
              exact h5 ⟨gt, fun z => hne ⟨rfl, rfl, z⟩⟩
            | m =>
              have c2 : a = a' := Classical.byContradiction fun z => h1 ⟨gs, z⟩
              subst c2
              by_cases c1 : c' = .n
              · subst c1
                have hc : goTog a c q' = true := by
                  cases q' with
                  | non => rfl
                  | m => exact gs
                  | hand x y => exact gt
                have hq : Sec.m = q' := Classical.byContradiction fun z => h5 ⟨hc, z⟩
                subst hq
                exact absurd gt (by simp [goTog])
              · have hc : goTog a c' .m = true := by simpa [goTog] using c1
                have e : c = c' := Classical.byContradiction fun z => h3 ⟨hc, z⟩
                subst e
                exact h5 ⟨gt, fun z => hne ⟨rfl, rfl, z⟩⟩
            | hand x y =>
              have e : c = c' := Classical.byContradiction fun z => h3 ⟨gs, z⟩
              subst e
              cases q' with
              | non => exact h5 ⟨rfl, fun z => by cases z⟩
              | m => exact h5 ⟨gt, fun z => by cases z⟩
              | hand x' y' =>
                by_cases c2 : a = a'
                · subst c2
                  exact h5 ⟨gt, fun z => hne ⟨rfl, rfl, z⟩⟩
                · have k1 : goTog a' c (.hand x y) = false := by
                    cases k : goTog a' c (.hand x y) with
                    | false => rfl
                    | true => exact absurd ⟨k, c2⟩ h1
                  have k2 : goTog a c (.hand x' y') = false := by
                    cases k : goTog a c (.hand x' y') with
                    | false => rfl
                    | true =>
                      have : Sec.hand x y = Sec.hand x' y' := Classical.byContradiction fun z => h5 ⟨k, z⟩
                      rw [this, gt] at k1; cases k1
                  have c3 : (a == a') = false := beq_eq_false_iff_ne.mpr c2
                  simp [Sgn.good, k1, k2, c3] at hl
    · exact ⟨3, by simp [unlikeL, h4], gs⟩
  · exact ⟨1, by simp [unlikeL, h2], gs⟩
theorem chg_unlike (s t : Sgn) : ∀ k ∈ unlikeL s t, unlikeL (s.chg k t) t = (unlikeL s t).filter (fun j => !(j == k)) ∧ unlikeL s (s.chg k t) = [k] := by
  obtain ⟨a, b, c, p, q⟩ := s
  obtain ⟨a', b', c', p', q'⟩ := t
  intro k hk
  have h : (k = 0 ∧ ¬ a = a') ∨ (k = 1 ∧ ¬ b = b') ∨ (k = 2 ∧ ¬ c = c') ∨ (k = 3 ∧ ¬ p = p') ∨ (k = 4 ∧ ¬ q = q') := by
    unfold unlikeL at hk
    by_cases h1 : a = a' <;> by_cases h2 : b = b' <;> by_cases h3 : c = c' <;> by_cases h4 : p = p' <;> by_cases h5 : q = q' <;> simp [h1, h2, h3, h4, h5] at hk ⊢ <;> exact hk
  rcases h with ⟨rfl, h⟩ | ⟨rfl, h⟩ | ⟨rfl, h⟩ | ⟨rfl, h⟩ | ⟨rfl, h⟩
  · refine ⟨?_, by simp [unlikeL, Sgn.chg, h]⟩
    by_cases h2 : b = b' <;> by_cases h3 : c = c' <;> by_cases h4 : p = p' <;> by_cases h5 : q = q' <;> simp [unlikeL, Sgn.chg, h, h2, h3, h4, h5]
  · refine ⟨?_, by simp [unlikeL, Sgn.chg, h]⟩
    by_cases h2 : a = a' <;> by_cases h3 : c = c' <;> by_cases h4 : p = p' <;> by_cases h5 : q = q' <;> simp [unlikeL, Sgn.chg, h, h2, h3, h4, h5]
  · refine ⟨?_, by simp [unlikeL, Sgn.chg, h]⟩
    by_cases h2 : b = b' <;> by_cases h3 : a = a' <;> by_cases h4 : p = p' <;> by_cases h5 : q = q' <;> simp [unlikeL, Sgn.chg, h, h2, h3, h4, h5]
  · refine ⟨?_, by simp [unlikeL, Sgn.chg, h]⟩
    by_cases h2 : b = b' <;> by_cases h3 : c = c' <;> by_cases h4 : a = a' <;> by_cases h5 : q = q' <;> simp [unlikeL, Sgn.chg, h, h2, h3, h4, h5]
  · refine ⟨?_, by simp [unlikeL, Sgn.chg, h]⟩
    by_cases h2 : b = b' <;> by_cases h3 : c = c' <;> by_cases h4 : p = p' <;> by_cases h5 : a = a' <;> simp [unlikeL, Sgn.chg, h, h2, h3, h4, h5]
theorem unlike_nodup (s t : Sgn) : (unlikeL s t).Nodup := by
  unfold unlikeL
  by_cases h1 : s.sh = t.sh <;> by_cases h2 : s.tn = t.tn <;> by_cases h3 : s.mv = t.mv <;> by_cases h4 : s.pl = t.pl <;> by_cases h5 : s.sc = t.sc <;> simp [h1, h2, h3, h4, h5]
theorem unlike_mem (s t : Sgn) {k : Int} (h : k ∈ unlikeL s t) : 0 ≤ k ∧ k ≤ 4 := by
  unfold unlikeL at h
  by_cases h1 : s.sh = t.sh <;> by_cases h2 : s.tn = t.tn <;> by_cases h3 : s.mv = t.mv <;> by_cases h4 : s.pl = t.pl <;> by_cases h5 : s.sc = t.sc <;> simp [h1, h2, h3, h4, h5] at h <;> omega
theorem filter_len {k : Int} : ∀ {l : List Int}, l.Nodup → k ∈ l → (l.filter fun j => !(j == k)).length + 1 = l.length
  | [], _, h => by cases h
  | a :: l, n, h => by
    rw [List.nodup_cons] at n
    by_cases e : a = k
    · subst e
      rw [List.filter_cons_of_neg (by simp)]
      have : l.filter (fun j => !(j == a)) = l := List.filter_eq_self.mpr fun j hj => by
        have : ¬ j = a := fun z => n.1 (z ▸ hj)
        simpa using this
      rw [this]; rfl
    · rw [List.filter_cons_of_pos (by simpa using e)]
      rcases List.mem_cons.mp h with z | z
      · exact absurd z.symm e
      · have := filter_len n.2 z
        simp only [List.length_cons]; omega
theorem lockd_chg (s t : Sgn) (k : Int) (hk : 0 ≤ k ∧ k ≤ 4) (hl : lockd s t = false) (hg : (s.chg k t).good = true) : lockd (s.chg k t) t = false := by
  rcases (by omega : k = 0 ∨ k = 1 ∨ k = 2 ∨ k = 3 ∨ k = 4) with rfl | rfl | rfl | rfl | rfl
  · exact lockd_sh s t
  · exact hl
  · have := lockd_mv s t t.mv
    rw [hl] at this; exact this
  · exact hl
  · exact lockd_sc s t hg
/-- one step of led -/
theorem next_step (s t : Sgn) (gs : s.good = true) (gt : t.good = true) (hne : s ≠ t) : (nextS s t).good = true ∧ stepsN (nextS s t) t + 1 = stepsN s t ∧ (unlikeL s (nextS s t)).length = 1 := by
  cases hl : lockd s t with
  | true =>
    have e : nextS s t = { s with sc := .non } := by unfold nextS; rw [if_pos hl]
    rw [e]
    obtain ⟨a, b, c, p, q⟩ := s
    obtain ⟨a', b', c', p', q'⟩ := t
    unfold lockd at hl
    cases q with
    | non => cases hl
    | m => cases hl
    | hand x y =>
      cases q' with
      | non => cases hl
      | m => cases hl
      | hand x' y' =>
        have hq : ¬ (Sec.hand x y = Sec.hand x' y') := fun z => by
          have hl : (!(a == a') && (!(goTog a' c (.hand x y)) && !(goTog a c (.hand x' y')))) = true := hl
          rw [← z] at hl
          have gs : goTog a c (.hand x y) = true := gs
          rw [gs] at hl; simp at hl
        refine ⟨rfl, ?_, by simp [unlikeL]⟩
        have l2 : lockd ⟨a, b, c, p, .non⟩ ⟨a', b', c', p', .hand x' y'⟩ = false := rfl
        have l1 : lockd ⟨a, b, c, p, .hand x y⟩ ⟨a', b', c', p', .hand x' y'⟩ = true := hl
        unfold stepsN
        rw [l1, l2]
        simp [unlikeL, hq]
  | false =>
    obtain ⟨k, hk, hg⟩ := some_good s t gs gt hne hl
    have e : ∃ j ∈ unlikeL s t, nextS s t = s.chg j t ∧ (s.chg j t).good = true := by
      unfold nextS
      rw [hl, if_neg (by decide)]
      cases z : (((unlikeL s t).map fun k => s.chg k t).filter Sgn.good).head? with
      | none =>
        rw [List.head?_eq_none_iff] at z
        have : s.chg k t ∈ (((unlikeL s t).map fun k => s.chg k t).filter Sgn.good) := List.mem_filter.mpr ⟨List.mem_map.mpr ⟨k, hk, rfl⟩, hg⟩
        rw [z] at this; cases this
      | some n =>
        have := List.mem_of_mem_head? z
        obtain ⟨h1, h2⟩ := List.mem_filter.mp this
        obtain ⟨j, hj, rfl⟩ := List.mem_map.mp h1
        exact ⟨j, hj, rfl, h2⟩
    obtain ⟨j, hj, e, hg⟩ := e
    rw [e]
    obtain ⟨u1, u2⟩ := chg_unlike s t j hj
    refine ⟨hg, ?_, by rw [u2]; rfl⟩
    unfold stepsN
    rw [hl, lockd_chg s t j (unlike_mem s t hj) hl hg, u1]
    have := filter_len (unlike_nodup s t) hj
    simpa using this
theorem steps_zero (s t : Sgn) : stepsN s t = 0 ↔ s = t := by
  constructor
  · intro h
    unfold stepsN at h
    have : (unlikeL s t).length = 0 := by omega
    exact (unlike_nil s t).mp (List.eq_nil_of_length_eq_zero this)
  · rintro rfl
    unfold stepsN
    rw [unlike_self, lockd_self]; rfl
/-- the chain that led makes -/
def pathS : Nat → Sgn → Sgn → List Sgn
  | 0, s, _ => [s]
  | n + 1, s, t => s :: pathS n (nextS s t) t
def chainL (s t : Sgn) : List Sgn := pathS (stepsN s t) s t
theorem path_len : ∀ (n : Nat) (s t : Sgn), (pathS n s t).length = n + 1
  | 0, _, _ => rfl
  | n + 1, s, t => by unfold pathS; rw [List.length_cons, path_len n]
@[simp] def sd_led : SpD := fun ds P _ => ∃ s t : Sgn, ds = [s.d, t.d] ∧ s.good = true ∧ t.good = true ∧ P (.lst ((chainL s t).map Sgn.d))
theorem len_led : ∀ ds P R, sd_led ds P R → ds.length = 2 := fun ds P R h => by obtain ⟨_, _, rfl, _⟩ := h; rfl
def t_led : DST :=
    (sSeq (sNew 2 (dLst (dCons (dV 0) dNil)))
    (sSeq (sWhile (qV (dOp fNe (dOp fIx (dVB 2) (dNeg (dC (.int 1)))) (dV 1)))
      (sSeq (sAsg (dOp fIx (dVB 2) (dNeg (dC (.int 1)))) (gN 3))
      (sSeq (sIf (qV (dCall sd_is_locked (dCons (dV 3) (dCons (dV 1) dNil))))
        (sSeq (sApp 2 (dCall sd_changed (dCons (dV 3) (dCons (dC (.int 4)) (dCons (dC .non) dNil)))))
        sCnt)
        sNext)
      (sSeq (sAsgL 4 (dLc (dItems (dCall sd_unlike_in (dCons (dV 3) (dCons (dV 1) dNil)))) (gN 5) qYes (dCall sd_changed (dCons (dV 3) (dCons (dV 5) (dCons (dOp fIx (dV 1) (dV 5)) dNil)))) [5]))
      (sSeq (sAsgL 6 (dLc (dItems (dV 4)) (gN 7) (qV (dCall sd_is_sign (dCons (dV 7) dNil))) (dV 7) [7]))
      (sApp 2 (dOp fIx (dV 6) (dC (.int 0)))))))))
    (sRet (dVB 2))))

theorem atI_last {α : Type} (l : List α) (x : α) : atI (l ++ [x]) (-1) = some x := by
  unfold atI ixN
  have h : ((l ++ [x]).length : Int) = (l.length : Int) + 1 := by simp
  rw [if_neg (by omega), if_pos (by omega)]
  show (l ++ [x])[((-1 : Int) + ((l ++ [x]).length : Nat)).toNat]? = _
  have e : ((-1 : Int) + ((l ++ [x]).length : Nat)).toNat = l.length := by omega
  rw [e]; simp
theorem isB_yes {A B : Prop} (h : A) : isB (fun b => if b = true then A else B) (.bl true) := by
  show (if true = true then A else B)
  rw [if_pos rfl]; exact h
theorem vc_led : ∀ ds P R, sd_led ds P R → t_led (startR ["one", "other", "found", "here", "some", "thing", "good", "sign"] ds) ⟨fun _ => P .non, P, fun _ => False, fun _ => False, R⟩ := fun ds P R h => by
  obtain ⟨s, t, rfl, gs, gt, h⟩ := h
  show t_led [.val s.d, .val t.d, .non, .non, .non, .non, .non, .non] _
  refine seq_new [s.d] (fun P h => ⟨line1, h⟩) ?_
  have last : ∀ (l : List Sgn) (x : Sgn) (x3 x4 x5 x6 x7 : Sl) (K : D → Prop) (R : RX), K x.d → dOp fIx (dVB 2) (dNeg (dC (.int 1))) [.val s.d, .val t.d, .own ((l ++ [x]).map Sgn.d), x3, x4, x5, x6, x7] K R := fun l x x3 x4 x5 x6 x7 K R k => by
    show atD ((l ++ [x]).map Sgn.d) (-1) K
    unfold atD
    rw [List.map_append, List.map_cons, List.map_nil, atI_last]
    exact k
  refine ⟨fun m ρ => ∃ (l : List Sgn) (x : Sgn) (x3 x4 x5 x6 x7 : Sl), ρ = [.val s.d, .val t.d, .own ((l ++ [x]).map Sgn.d), x3, x4, x5, x6, x7] ∧ x.good = true ∧ stepsN x t = m ∧ l ++ pathS m x t = chainL s t ∧ l.length + m ≤ 100,
    ⟨stepsN s t, [], s, _, _, _, _, _, rfl, gs, rfl, rfl, ?_⟩, ?_⟩
  · have h1 : (unlikeL s t).length ≤ 5 := by
      unfold unlikeL
      simp only [List.length_append]
      have : ∀ {p : Prop} [Decidable p] (a : Int), (if p then ([] : List Int) else [a]).length ≤ 1 := fun {p} _ a => by split <;> simp
      have a1 := this (p := s.sh = t.sh) 0
      have a2 := this (p := s.tn = t.tn) 1
      have a3 := this (p := s.mv = t.mv) 2
      have a4 := this (p := s.pl = t.pl) 3
      have a5 := this (p := s.sc = t.sc) 4
      omega
    unfold stepsN
    simp only [List.length_nil]
    split <;> omega
  rintro m _ ⟨l, x, x3, x4, x5, x6, x7, rfl, gx, hm, hp, hb⟩
  refine last l x _ _ _ _ _ _ _ ⟨shp_S _, shp_S _, ?_⟩
  rw [eqD_S]
  by_cases e : x = t
  · subst e
    have : m = 0 := by rw [← hm]; exact (steps_zero x x).mpr rfl
    subst this
    rw [decide_eq_true rfl]
    show P (.lst ((l ++ [x]).map Sgn.d))
    have hp : l ++ [x] = chainL s x := hp
    rw [hp]; exact h
  · rw [decide_eq_false e]
    obtain ⟨n1, n2, n3⟩ := next_step x t gx gt e
    obtain ⟨m', rfl⟩ : ∃ m', m = m' + 1 := ⟨stepsN (nextS x t) t, by omega⟩
    have hm' : stepsN (nextS x t) t = m' := by omega
    have hp' : (l ++ [x]) ++ pathS m' (nextS x t) t = chainL s t := by
      rw [List.append_assoc]; exact hp
    have fin : ∀ (x3 x4 x5 x6 x7 : Sl), ∃ k, k < m' + 1 ∧ ∃ (l' : List Sgn) (y : Sgn) (y3 y4 y5 y6 y7 : Sl), ([.val s.d, .val t.d, .own ((l ++ [x]).map Sgn.d ++ [(nextS x t).d]), x3, x4, x5, x6, x7] : Rho) = [.val s.d, .val t.d, .own ((l' ++ [y]).map Sgn.d), y3, y4, y5, y6, y7] ∧ y.good = true ∧ stepsN y t = k ∧ l' ++ pathS k y t = chainL s t ∧ l'.length + k ≤ 100 :=
      fun x3 x4 x5 x6 x7 => ⟨m', by omega, l ++ [x], nextS x t, x3, x4, x5, x6, x7, by simp, n1, hm', hp', by rw [List.length_append]; simp only [List.length_cons, List.length_nil]; omega⟩
    have hlen : ((l ++ [x]).map Sgn.d).length < sizeLine := by
      rw [List.length_map, List.length_append]
      exact Nat.lt_of_le_of_lt (show _ ≤ 101 by simp only [List.length_cons, List.length_nil]; omega) (by decide)
    rw [Bool.not_false]
    refine isB_yes ?_
    refine seq_asg x.d (fun P k => last l x _ _ _ _ _ P _ k) ?_
    simp only [List.set_cons_succ, List.set_cons_zero]
    refine seq_if (lockd x t) (fun P k => ⟨x, t, rfl, k⟩) (fun hl => ?_) fun hl => ?_
    · have en : nextS x t = { x with sc := .non } := by unfold nextS; rw [if_pos hl]
      refine seq_seq (seq_app (d := (nextS x t).d) rfl (fun P k => ?_) hlen ?_)
      · rw [en] at k
        exact ⟨_, _, _, _, _, _, _, rfl, by decide, k⟩
      · exact fin _ _ _ _ _
    · refine seq_next ?_
      have cl : ∀ (x2 x3 x4 x5 x6 x7 : Sl) (K : List D → Prop) (R : RX), K (((unlikeL x t).map fun k => x.chg k t).map Sgn.d) →
          dLc (dItems (dCall sd_unlike_in (dCons (dV 3) (dCons (dV 1) dNil)))) (gN 5) qYes (dCall sd_changed (dCons (dV 3) (dCons (dV 5) (dCons (dOp fIx (dV 1) (dV 5)) dNil)))) [5] [.val s.d, .val t.d, x2, .val x.d, x4, x5, x6, x7] K R := fun x2 x3 x4 x5 x6 x7 K R k => by
        refine ⟨x, t, rfl, ?_⟩
        refine lc_map D.int (fun k => (x.chg k t).d) (unlikeL x t) (fun j hj K k => ?_) (by rw [List.map_map] at k; exact k)
        obtain ⟨j0, j4⟩ := unlike_mem x t hj
        rcases (by omega : j = 0 ∨ j = 1 ∨ j = 2 ∨ j = 3 ∨ j = 4) with rfl | rfl | rfl | rfl | rfl
        · exact ⟨_, _, _, _, _, _, _, rfl, by decide, k⟩
        · exact ⟨_, _, _, _, _, _, _, rfl, by decide, k⟩
        · exact ⟨_, _, _, _, _, _, _, rfl, by decide, k⟩
        · exact ⟨_, _, _, _, _, _, _, rfl, by decide, k⟩
        · exact ⟨_, _, _, _, _, _, _, rfl, by decide, k⟩
      refine seq_asgL _ (fun P k => cl _ .non _ _ _ _ P _ k) ?_
      simp only [List.set_cons_succ, List.set_cons_zero]
      refine seq_asgL ((((unlikeL x t).map fun k => x.chg k t).filter Sgn.good).map Sgn.d) (fun P k => ?_) ?_
      · refine lc_gen Sgn.d Sgn.good Sgn.d _ (fun y _ K h => ?_) (fun y _ hx K h => h) k
        exact ⟨plain_S y, by rw [isSign_S]; exact h⟩
      simp only [List.set_cons_succ, List.set_cons_zero]
      refine one_app (d := (nextS x t).d) rfl (fun P k => ?_) hlen ?_
      · obtain ⟨j, hj, hg⟩ := some_good x t gx gt e hl
        have en : nextS x t = ((((unlikeL x t).map fun k => x.chg k t).filter Sgn.good).head?).getD x := by unfold nextS; rw [hl, if_neg (by decide)]
        cases z : (((unlikeL x t).map fun k => x.chg k t).filter Sgn.good) with
        | nil =>
          have : x.chg j t ∈ (((unlikeL x t).map fun k => x.chg k t).filter Sgn.good) := List.mem_filter.mpr ⟨List.mem_map.mpr ⟨j, hj, rfl⟩, hg⟩
          rw [z] at this; cases this
        | cons n r =>
          rw [en, z] at k
          show atD ((n :: r).map Sgn.d) 0 P
          unfold atD
          rw [List.map_cons, atI0]
          exact k
      · exact fin _ _ _ _ _
end DL
namespace DL
open PySem PySem.Spec PyProof.Rows L2
@[simp] def sd_chain : SpD := fun ds P R => match ds with
  | [d, e] => d.plain = true ∧ e.plain = true ∧ (∀ s : Sgn, d = s.d → ∀ t : Sgn, e = t.d → s.good = true → t.good = true → P (.tup ((chainL s t).map Sgn.d))) ∧ (isSignD d = false ∨ isSignD e = false → R "InvalidSign")
  | _ => False
theorem len_chain : ∀ ds P R, sd_chain ds P R → ds.length = 2 := fun ds P R h => by
  unfold sd_chain at h; split at h
  · rfl
  · exact h.elim
def t_chain : DST :=
    (sSeq (sDrop (dCall sd_check_two (dCons (dV 0) (dCons (dV 1) dNil))))
    (sRet (dTuple (dCall sd_led (dCons (dV 0) (dCons (dV 1) dNil))))))

theorem vc_chain : ∀ ds P R, sd_chain ds P R → t_chain (startR ["one", "other"] ds) ⟨fun _ => P .non, P, fun _ => False, fun _ => False, R⟩ := fun ds P R h => by
  unfold sd_chain at h; split at h
  · rename_i d e
    obtain ⟨hp, hq, h1, h2⟩ := h
    simp [t_chain, hp, hq]
    refine ⟨fun z y => ?_, h2⟩
    obtain ⟨s, gs, rfl⟩ := isSign_iff.mp z
    obtain ⟨t, gt, rfl⟩ := isSign_iff.mp y
    exact ⟨s, t, ⟨rfl, rfl⟩, gs, gt, h1 s rfl t rfl gs gt⟩
  · exact h.elim
theorem isB_ite {b : Bool} {A B : Prop} (hA : b = true → A) (hB : b = false → B) : isB (fun k => if k = true then A else B) (.bl b) := by
  show (if b = true then A else B)
  cases b
  · rw [if_neg (by decide)]; exact hB rfl
  · rw [if_pos rfl]; exact hA rfl
/-! ### what is a chain -/
def adjL : List Sgn → Bool
  | a :: b :: r => decide ((unlikeL a b).length = 1) && adjL (b :: r)
  | _ => true
def chainP (s t : Sgn) (l : List Sgn) : Bool := decide (l.head? = some s) && (decide (l.getLast? = some t) && adjL l)
/-- data as good signs -/
def decGs : List D → Option (List Sgn)
  | [] => some []
  | d :: ds => if isSignD d = true then (decSg d).bind fun s => (decGs ds).map (s :: ·) else none
def isChainD (s t : Sgn) : D → Bool
  | .tup ds => (match decGs ds with | some l => chainP s t l | none => false)
  | _ => false
theorem decGs_iff : ∀ {ds : List D} {l : List Sgn}, decGs ds = some l → ds = l.map Sgn.d ∧ ∀ s ∈ l, s.good = true
  | [], _, h => by cases h; exact ⟨rfl, fun s z => by cases z⟩
  | d :: ds, l, h => by
    unfold decGs at h
    split at h
    · rename_i z
      obtain ⟨s, gs, rfl⟩ := isSign_iff.mp z
      rw [decSg_iff.mpr rfl] at h
      cases y : decGs ds with
      | none => rw [y] at h; cases h
      | some r =>
        rw [y] at h; cases h
        obtain ⟨e, g⟩ := decGs_iff y
        exact ⟨by rw [e]; rfl, fun t ht => by rcases List.mem_cons.mp ht with rfl | ht; exact gs; exact g t ht⟩
    · cases h
theorem decGs_none : ∀ {ds : List D}, decGs ds = none → ds.all isSignD = false
  | [], h => by cases h
  | d :: ds, h => by
    unfold decGs at h
    rw [List.all_cons]
    split at h
    · rename_i z
      obtain ⟨s, gs, rfl⟩ := isSign_iff.mp z
      rw [decSg_iff.mpr rfl] at h
      cases y : decGs ds with
      | none => rw [decGs_none y, Bool.and_false]
      | some r => rw [y] at h; cases h
    · rename_i z
      have : isSignD d = false := by simpa using z
      rw [this, Bool.false_and]
theorem decGs_all : ∀ l : List Sgn, (∀ s ∈ l, s.good = true) → decGs (l.map Sgn.d) = some l
  | [], _ => rfl
  | s :: l, h => by
    rw [List.map_cons]
    unfold decGs
    rw [if_pos (by rw [isSign_S]; exact h s (by simp)), decSg_iff.mpr rfl, decGs_all l fun t ht => h t (List.mem_cons_of_mem _ ht)]; rfl
theorem bls_map {α : Type} (f : α → Bool) : ∀ l : List α, blsOf (l.map fun x => D.bl (f x)) = some (l.map f)
  | [] => rfl
  | x :: l => by
    rw [List.map_cons]
    unfold blsOf
    rw [bls_map f l]; rfl
theorem all_id {α : Type} (f : α → Bool) (l : List α) : (l.map f).all id = l.all f := by rw [List.all_map]; rfl
theorem cut_tail (ds : List D) : cutD ds (some 1) none = ds.drop 1 := by
  unfold cutD
  have e1 : HT.sIx ds.length 0 (some 1) = min 1 ds.length := HT.sIx_nat ds.length 0 1
  have e2 : HT.sIx ds.length ds.length none = ds.length := rfl
  rw [e1, e2]
  cases ds with
  | nil => rfl
  | cons d ds =>
    have : min 1 (d :: ds).length = 1 := by simp only [List.length_cons]; omega
    rw [this]
    apply List.take_of_length_le
    rw [List.length_drop]; exact Nat.le_refl _
theorem adj_zip : ∀ l : List Sgn, adjL l = (l.zip (l.drop 1)).all fun p => decide ((unlikeL p.1 p.2).length = 1)
  | [] => rfl
  | [a] => rfl
  | a :: b :: r => by
    unfold adjL
    rw [adj_zip (b :: r)]
    rfl
theorem zip_d (l r : List Sgn) : zipD (l.map Sgn.d) (r.map Sgn.d) = (l.zip r).map fun p => .tup [p.1.d, p.2.d] := by
  unfold zipD
  rw [List.zip_map, List.map_map]; rfl
@[simp] def sd_is_chain : SpD := fun ds P R => match ds with
  | [d, e, v] => d.plain = true ∧ e.plain = true ∧ v.plain = true ∧ shp v = true ∧ (∀ s : Sgn, d = s.d → ∀ t : Sgn, e = t.d → s.good = true → t.good = true → P (.bl (isChainD s t v))) ∧ (isSignD d = false ∨ isSignD e = false → R "InvalidSign")
  | _ => False
theorem len_is_chain : ∀ ds P R, sd_is_chain ds P R → ds.length = 3 := fun ds P R h => by
  unfold sd_is_chain at h; split at h
  · rfl
  · exact h.elim
def t_is_chain : DST :=
    (sSeq (sDrop (dCall sd_check_two (dCons (dV 0) (dCons (dV 1) dNil))))
    (sSeq (sIf (qOr (qNot (qV (dIsT isTupD (dV 2)))) (qOr (qV (dOp fEq (dV 2) (dTup dNil))) (qNot (qV (dAll (dOfL (dLc (dItems (dV 2)) (gN 3) qYes (dCall sd_is_sign (dCons (dV 3) dNil)) [3])))))))
      (sRet (dC (.bl false)))
      sNext)
    (sSeq (sIf (qOr (qV (dOp fNe (dOp fIx (dV 2) (dC (.int 0))) (dV 0))) (qV (dOp fNe (dOp fIx (dV 2) (dNeg (dC (.int 1)))) (dV 1))))
      (sRet (dC (.bl false)))
      sNext)
    (sRet (dAll (dOfL (dLc (dZip (dV 2) (dSl (dV 2) (dP (dC (.int 1))) dNoP)) (gT 2 (gsCons (gN 4) (gsCons (gN 5) gsNil))) qYes (dOp fEq (dLen (dCall sd_unlike_in (dCons (dV 4) (dCons (dV 5) dNil)))) (dC (.int 1))) [4, 5])))))))

theorem vc_is_chain : ∀ ds P R, sd_is_chain ds P R → t_is_chain (startR ["one", "other", "value", "sign", "mine", "yours"] ds) ⟨fun _ => P .non, P, fun _ => False, fun _ => False, R⟩ := fun ds P R h => by
  unfold sd_is_chain at h; split at h
  · rename_i d e v
    obtain ⟨hp, hq, hv, hs, h1, h2⟩ := h
    show t_is_chain [.val d, .val e, .val v, .non, .non, .non] _
    refine ⟨hp, hq, fun z y => ?_, h2⟩
    obtain ⟨s, gs, rfl⟩ := isSign_iff.mp z
    obtain ⟨t, gt, rfl⟩ := isSign_iff.mp y
    have h := h1 s rfl t rfl gs gt
    dsimp only
    cases v with
    | tup ds =>
      have hall : ∀ (x3 x4 x5 : Sl) (K : Bool → Prop) (R : RX), K (ds.all isSignD) → qV (dAll (dOfL (dLc (dItems (dV 2)) (gN 3) qYes (dCall sd_is_sign (dCons (dV 3) dNil)) [3]))) [.val s.d, .val t.d, .val (.tup ds), x3, x4, x5] K R := fun x3 x4 x5 K R k => by
        have hm : lcGo (gN 3) qYes (dCall sd_is_sign (dCons (dV 3) dNil)) [.val s.d, .val t.d, .val (.tup ds), .non, x4, x5] (fun es => match blsOf es with | some bs => K (bs.all id) | none => False) (ds.map id) [] := by
          refine lc_map id (fun x => D.bl (isSignD x)) ds (fun x hx K k => ⟨?_, k⟩) ?_
          · rw [plain_tup] at hv; exact List.all_eq_true.mp hv x hx
          · rw [bls_map]
            show K ((ds.map isSignD).all id)
            rw [all_id]; exact k
        rw [List.map_id] at hm
        exact hm
      have hemp : ∀ (x3 x4 x5 : Sl) (K : Bool → Prop) (R : RX), K ds.isEmpty → qV (dOp fEq (dV 2) (dTup dNil)) [.val s.d, .val t.d, .val (.tup ds), x3, x4, x5] K R := fun x3 x4 x5 K R k => by
        refine ⟨by decide, hs, (shn_tup (n := 0) (by simp)).shp, ?_⟩
        rw [eqD_tup]
        cases ds with
        | nil => exact k
        | cons d r => exact k
      have hist : ∀ (x3 x4 x5 : Sl) (K : Bool → Prop) (R : RX), K false → qNot (qV (dIsT isTupD (dV 2))) [.val s.d, .val t.d, .val (.tup ds), x3, x4, x5] K R := fun x3 x4 x5 K R k => k
      cases hd : decGs ds with
      | none =>
        have e : isChainD s t (.tup ds) = false := by
          show (match decGs ds with | some l => chainP s t l | none => false) = false
          rw [hd]
        rw [e] at h
        refine seq_if true (fun K k => ?_) (fun _ => h) (fun z => by cases z)
        refine hist _ _ _ _ _ (iteF ?_)
        refine hemp _ _ _ _ _ ?_
        cases ds.isEmpty with
        | true => exact iteT k
        | false =>
          refine iteF ?_
          refine hall _ _ _ _ _ ?_
          rw [decGs_none hd]; exact k
      | some l =>
        obtain ⟨rfl, gl⟩ := decGs_iff hd
        have e : isChainD s t (.tup (l.map Sgn.d)) = chainP s t l := by
          show (match decGs (l.map Sgn.d) with | some l => chainP s t l | none => false) = _
          rw [hd]
        rw [e] at h
        have hgood : (l.map Sgn.d).all isSignD = true := by
          rw [List.all_map]
          exact List.all_eq_true.mpr fun x hx => by show isSignD x.d = true; rw [isSign_S]; exact gl x hx
        refine seq_if l.isEmpty (fun K k => ?_) (fun hl => ?_) (fun hl => ?_)
        · refine hist _ _ _ _ _ (iteF ?_)
          refine hemp _ _ _ _ _ ?_
          have : (l.map Sgn.d).isEmpty = l.isEmpty := by cases l <;> rfl
          rw [this]
          cases z : l.isEmpty with
          | true => rw [z] at k; exact iteT k
          | false =>
            refine iteF ?_
            refine hall _ _ _ _ _ ?_
            rw [hgood]; rw [z] at k; exact k
        · have : l = [] := List.isEmpty_iff.mp hl
          subst this
          have h : P (.bl false) := by
            have e : chainP s t [] = false := by simp [chainP]
            rw [e] at h; exact h
          exact h
        · refine seq_next ?_
          obtain ⟨a, r, rfl⟩ : ∃ a r, l = a :: r := by
            cases l with
            | nil => cases hl
            | cons a r => exact ⟨a, r, rfl⟩
          obtain ⟨r', b, hb⟩ : ∃ r' b, a :: r = r' ++ [b] := ⟨(a :: r).dropLast, (a :: r).getLast (by simp), (List.dropLast_concat_getLast (by simp)).symm⟩
          have hlast : (a :: r).getLast? = some b := by rw [hb]; simp
          refine seq_if (!decide (a = s) || !decide (b = t)) (fun K k => ?_) (fun hl => ?_) (fun hl => ?_)
          · have f1 : ∀ K : D → Prop, K a.d → atD ((a :: r).map Sgn.d) 0 K := fun K k => by unfold atD; rw [List.map_cons, atI0]; exact k
            have f2 : ∀ K : D → Prop, K b.d → atD ((a :: r).map Sgn.d) (-1) K := fun K k => by
              unfold atD
              rw [hb, List.map_append, List.map_cons, List.map_nil, atI_last]; exact k
            refine f1 _ ⟨shp_S _, shp_S _, ?_⟩
            rw [eqD_S]
            refine isB_ite (fun z => ?_) fun z => ?_
            · rw [z] at k; exact k
            · rw [z] at k
              refine f2 _ ⟨shp_S _, shp_S _, ?_⟩
              rw [eqD_S]
              exact k
          · have e : chainP s t (a :: r) = false := by
              unfold chainP
              rw [hlast]
              by_cases z : a = s
              · by_cases y : b = t
                · simp [z, y] at hl
                · simp [y]
              · simp [z]
            rw [e] at h; exact h
          · refine seq_next ?_
            have e : chainP s t (a :: r) = adjL (a :: r) := by
              unfold chainP
              rw [hlast]
              have h1 : a = s ∧ b = t := by simpa using hl
              simp [h1.1, h1.2]
            rw [e] at h
            have hz : zipD ((a :: r).map Sgn.d) (cutD ((a :: r).map Sgn.d) (some 1) none) = ((a :: r).zip ((a :: r).drop 1)).map fun p => D.tup [p.1.d, p.2.d] := by
              rw [cut_tail, ← List.map_drop, zip_d]
            show lcGo _ _ _ _ _ (zipD ((a :: r).map Sgn.d) (cutD ((a :: r).map Sgn.d) (some 1) none)) []
            rw [hz]
            refine lc_genG (fun p : Sgn × Sgn => D.tup [p.1.d, p.2.d]) (fun p => [.val s.d, .val t.d, .val (.tup ((a :: r).map Sgn.d)), .non, .val p.1.d, .val p.2.d]) (fun _ => true) (fun p => D.bl (decide ((unlikeL p.1 p.2).length = 1))) _ [] (fun p _ K k => ⟨rfl, rfl, k⟩) (fun p _ K k => k) (fun p _ _ K k => ?_) ?_
            · refine ⟨p.1, p.2, rfl, shp_int _, shp_int _, ?_⟩
              rw [eqD_int, List.length_map]
              have : (((unlikeL p.1 p.2).length : Int) == 1) = decide ((unlikeL p.1 p.2).length = 1) := by
                rw [Bool.eq_iff_iff]; simp; omega
              rw [this]; exact k
            · rw [List.filter_eq_self.mpr (fun _ _ => rfl), List.nil_append]
              show (match blsOf (((a :: r).zip ((a :: r).drop 1)).map fun p => D.bl (decide ((unlikeL p.1 p.2).length = 1))) with | some bs => P (.bl (bs.all id)) | none => False)
              rw [bls_map]
              show P (.bl ((((a :: r).zip ((a :: r).drop 1)).map fun p => decide ((unlikeL p.1 p.2).length = 1)).all id))
              rw [all_id, ← adj_zip]; exact h
    | _ =>
      have h : P (.bl false) := h
      refine seq_if true (fun K k => ?_) (fun _ => h) (fun z => by cases z)
      simp at hv ⊢
      try exact k
  · exact h.elim
end DL
namespace DL
open PySem PySem.Spec PyProof.Rows L2
theorem lockd_comm (s t : Sgn) : lockd t s = lockd s t := by
  obtain ⟨a, b, c, p, q⟩ := s
  obtain ⟨a', b', c', p', q'⟩ := t
  unfold lockd
  cases q <;> cases q' <;> try rfl
  simp only [Sgn.good, goTog]
  have e : (a' == a) = (a == a') := by rw [Bool.eq_iff_iff, beq_iff_eq, beq_iff_eq, eq_comm]
  rw [e, Bool.and_comm (!_) (!_)]
theorem steps_comm (s t : Sgn) : stepsN t s = stepsN s t := by
  unfold stepsN
  rw [unlike_comm, lockd_comm]
theorem chain_len (s t : Sgn) : (chainL s t).length = stepsN s t + 1 := path_len _ _ _
theorem path_good : ∀ (n : Nat) (s t : Sgn), stepsN s t = n → s.good = true → t.good = true → ∀ x ∈ pathS n s t, x.good = true
  | 0, s, t, _, gs, _, x, hx => by
    have : x = s := by simpa [pathS] using hx
    rw [this]; exact gs
  | n + 1, s, t, h, gs, gt, x, hx => by
    have hne : s ≠ t := fun z => by rw [(steps_zero s t).mpr z] at h; omega
    obtain ⟨n1, n2, n3⟩ := next_step s t gs gt hne
    rcases List.mem_cons.mp hx with rfl | hx
    · exact gs
    · exact path_good n (nextS s t) t (by omega) n1 gt x hx
theorem chain_good (s t : Sgn) (gs : s.good = true) (gt : t.good = true) : ∀ x ∈ chainL s t, x.good = true := path_good _ s t rfl gs gt
theorem path_head (n : Nat) (s t : Sgn) : (pathS n s t).head? = some s := by cases n <;> rfl
theorem path_last : ∀ (n : Nat) (s t : Sgn), stepsN s t = n → s.good = true → t.good = true → (pathS n s t).getLast? = some t
  | 0, s, t, h, _, _ => by rw [(steps_zero s t).mp h]; rfl
  | n + 1, s, t, h, gs, gt => by
    have hne : s ≠ t := fun z => by rw [(steps_zero s t).mpr z] at h; omega
    obtain ⟨n1, n2, n3⟩ := next_step s t gs gt hne
    have ih := path_last n (nextS s t) t (by omega) n1 gt
    unfold pathS
    rw [List.getLast?_cons, ih]; rfl
theorem adj_cons {a b : Sgn} {l : List Sgn} (h : l.head? = some b) (h1 : (unlikeL a b).length = 1) (h2 : adjL l = true) : adjL (a :: l) = true := by
  cases l with
  | nil => cases h
  | cons c r =>
    cases h
    unfold adjL
    rw [h2, decide_eq_true h1]; rfl
theorem path_adj : ∀ (n : Nat) (s t : Sgn), stepsN s t = n → s.good = true → t.good = true → adjL (pathS n s t) = true
  | 0, _, _, _, _, _ => rfl
  | n + 1, s, t, h, gs, gt => by
    have hne : s ≠ t := fun z => by rw [(steps_zero s t).mpr z] at h; omega
    obtain ⟨n1, n2, n3⟩ := next_step s t gs gt hne
    exact adj_cons (path_head _ _ _) n3 (path_adj n (nextS s t) t (by omega) n1 gt)
theorem chain_ok (s t : Sgn) (gs : s.good = true) (gt : t.good = true) : chainP s t (chainL s t) = true := by
  unfold chainP chainL
  rw [path_head, path_last _ s t rfl gs gt, path_adj _ s t rfl gs gt]
  simp
/-- a chain turned round -/
theorem adj_app : ∀ (l : List Sgn) (a b : Sgn), l.getLast? = some a → adjL (l ++ [b]) = (adjL l && decide ((unlikeL a b).length = 1))
  | [], a, b, h => by cases h
  | [x], a, b, h => by
    have h : x = a := by simpa using h
    subst h
    show (decide _ && true) = (true && _)
    simp
  | x :: y :: r, a, b, h => by
    have h' : (y :: r).getLast? = some a := by rw [List.getLast?_cons_cons] at h; exact h
    have ih := adj_app (y :: r) a b h'
    show (decide _ && adjL ((y :: r) ++ [b])) = ((decide _ && adjL (y :: r)) && _)
    rw [ih, Bool.and_assoc]
theorem adj_rev : ∀ l : List Sgn, adjL l.reverse = adjL l
  | [] => rfl
  | [a] => rfl
  | a :: b :: r => by
    rw [List.reverse_cons, adj_app _ b a (by simp), adj_rev (b :: r), unlike_comm]
    show _ = (decide _ && adjL (b :: r))
    rw [Bool.and_comm]
theorem chain_rev (s t : Sgn) (l : List Sgn) : chainP t s l.reverse = chainP s t l := by
  unfold chainP
  rw [adj_rev, List.head?_reverse, List.getLast?_reverse]
  cases decide (l.head? = some s) <;> cases decide (l.getLast? = some t) <;> rfl
theorem Sgn.mir_inj (s t : Sgn) : (s.mir = t.mir) = (s = t) := propext ⟨fun h => by rw [← Sgn.mir_mir s, h, Sgn.mir_mir], fun h => by rw [h]⟩
theorem adj_mir : ∀ l : List Sgn, adjL (l.map Sgn.mir) = adjL l
  | [] => rfl
  | [a] => rfl
  | a :: b :: r => by
    show (decide ((unlikeL a.mir b.mir).length = 1) && adjL ((b :: r).map Sgn.mir)) = (decide _ && adjL (b :: r))
    rw [unlike_mir, adj_mir (b :: r)]
theorem opt_mir (o : Option Sgn) (s : Sgn) : decide (o.map Sgn.mir = some s.mir) = decide (o = some s) := by
  cases o with
  | none => rfl
  | some x => simp [Sgn.mir_inj]
theorem chain_mir (s t : Sgn) (l : List Sgn) : chainP s.mir t.mir (l.map Sgn.mir) = chainP s t l := by
  unfold chainP
  rw [adj_mir, List.head?_map, List.getLast?_map, opt_mir, opt_mir]
theorem lockd_mir (s t : Sgn) : lockd s.mir t.mir = lockd s t := by
  obtain ⟨a, b, c, p, q⟩ := s
  obtain ⟨a', b', c', p', q'⟩ := t
  cases q <;> cases q' <;> rfl
theorem steps_mir (s t : Sgn) : stepsN s.mir t.mir = stepsN s t := by
  unfold stepsN
  rw [unlike_mir, lockd_mir]
theorem lockd_hands {s t : Sgn} (h : lockd s t = true) : ∃ (z : Shp) (x : Trn) (z' : Shp) (x' : Trn), s.sc = .hand z x ∧ t.sc = .hand z' x' ∧ s.sh ≠ t.sh ∧ (z ≠ .a ∧ z ≠ .b ∧ z ≠ t.sh) ∧ (z' ≠ .a ∧ z' ≠ .b ∧ z' ≠ s.sh) := by
  unfold lockd at h
  cases hs : s.sc with
  | non => rw [hs] at h; cases h
  | m => rw [hs] at h; cases h
  | hand z x =>
    cases ht : t.sc with
    | non => rw [hs, ht] at h; cases h
    | m => rw [hs, ht] at h; cases h
    | hand z' x' =>
      rw [hs, ht] at h
      have h : (!(s.sh == t.sh) && (!(goTog t.sh s.mv (.hand z x)) && !(goTog s.sh s.mv (.hand z' x')))) = true := h
      simp [goTog] at h
      exact ⟨z, x, z', x', rfl, rfl, h.1, ⟨h.2.1.1.1, h.2.1.1.2, h.2.1.2⟩, h.2.2.1.1, h.2.2.1.2, h.2.2.2⟩
theorem lockd_intro {s t : Sgn} {z z' : Shp} {x x' : Trn} (hs : s.sc = .hand z x) (ht : t.sc = .hand z' x') (h1 : s.sh ≠ t.sh) (h2 : z ≠ .a ∧ z ≠ .b ∧ z ≠ t.sh) (h3 : z' ≠ .a ∧ z' ≠ .b ∧ z' ≠ s.sh) : lockd s t = true := by
  unfold lockd
  rw [hs, ht]
  show (!(s.sh == t.sh) && (!(goTog t.sh s.mv (.hand z x)) && !(goTog s.sh s.mv (.hand z' x')))) = true
  simp [goTog, h1, h2, h3]
theorem lockd_facts {s t : Sgn} (gs : s.good = true) (gt : t.good = true) (h : lockd s t = true) : (∃ x, s.sc = .hand s.sh x) ∧ (∃ y, t.sc = .hand t.sh y) ∧ s.sh ≠ t.sh := by
  obtain ⟨z, x, z', x', hs, ht, h1, h2, h3⟩ := lockd_hands h
  have e : z = s.sh := by
    have gs : goTog s.sh s.mv s.sc = true := gs
    rw [hs] at gs
    simp [goTog] at gs
    rcases gs with (g | g) | g
    · exact absurd g h2.1
    · exact absurd g h2.2.1
    · exact g
  have e' : z' = t.sh := by
    have gt : goTog t.sh t.mv t.sc = true := gt
    rw [ht] at gt
    simp [goTog] at gt
    rcases gt with (g | g) | g
    · exact absurd g h3.1
    · exact absurd g h3.2.1
    · exact g
  subst e
  exact ⟨⟨x, hs⟩, ⟨x', by rw [ht, e']⟩, h1⟩
def dff {α : Type} [DecidableEq α] (a b : α) : Nat := if a = b then 0 else 1
theorem unlike_len (s t : Sgn) : (unlikeL s t).length = dff s.sh t.sh + dff s.tn t.tn + dff s.mv t.mv + dff s.pl t.pl + dff s.sc t.sc := by
  unfold unlikeL dff
  by_cases h1 : s.sh = t.sh <;> by_cases h2 : s.tn = t.tn <;> by_cases h3 : s.mv = t.mv <;> by_cases h4 : s.pl = t.pl <;> by_cases h5 : s.sc = t.sc <;> simp [h1, h2, h3, h4, h5]
theorem dff_tri {α : Type} [DecidableEq α] (a b c : α) : dff a c ≤ dff a b + dff b c := by
  unfold dff
  by_cases h1 : a = b
  · subst h1; simp
  · by_cases h2 : b = c
    · subst h2; simp [h1]
    · simp only [h1, h2, if_false]; split <;> omega
theorem dff_self {α : Type} [DecidableEq α] (a : α) : dff a a = 0 := by simp [dff]
theorem dff_ne {α : Type} [DecidableEq α] {a b : α} (h : a ≠ b) : dff a b = 1 := by simp [dff, h]
theorem steps_tri (s u t : Sgn) (gs : s.good = true) (gu : u.good = true) (gt : t.good = true) : stepsN s t ≤ stepsN s u + stepsN u t := by
  unfold stepsN
  rw [unlike_len s t, unlike_len s u, unlike_len u t]
  have t1 := dff_tri s.sh u.sh t.sh
  have t2 := dff_tri s.tn u.tn t.tn
  have t3 := dff_tri s.mv u.mv t.mv
  have t4 := dff_tri s.pl u.pl t.pl
  have t5 := dff_tri s.sc u.sc t.sc
  cases hl : lockd s t with
  | false => rw [if_neg (by decide)]; split <;> split <;> omega
  | true =>
    rw [if_pos rfl]
    obtain ⟨z, x, z', x', hs, ht, h1, h2, h3⟩ := lockd_hands hl
    have hsc : s.sc ≠ t.sc := fun e => by
      obtain ⟨⟨x, e1⟩, ⟨y, e2⟩, e3⟩ := lockd_facts gs gt hl
      rw [e1, e2] at e; injection e with e _; exact e3 e
    have d1 := dff_ne h1
    have d5 := dff_ne hsc
    have key : (lockd s u = true) ∨ (lockd u t = true) ∨ 3 ≤ dff s.sh u.sh + dff u.sh t.sh + dff s.sc u.sc + dff u.sc t.sc := by
      by_cases a1 : u.sh = s.sh
      · by_cases a2 : u.sc = s.sc
        · exact .inr (.inl (lockd_intro (a2.trans hs) ht (by rw [a1]; exact h1) h2 (by rw [a1]; exact h3)))
        · by_cases a3 : u.sc = t.sc
          · exfalso
            have gu : goTog u.sh u.mv u.sc = true := gu
            rw [a1, a3, ht] at gu
            simp [goTog, h3] at gu
          · refine .inr (.inr ?_)
            have e1 := dff_ne (Ne.symm a2)
            have e2 := dff_ne a3
            omega
      · by_cases b1 : u.sh = t.sh
        · by_cases a2 : u.sc = t.sc
          · exact .inl (lockd_intro hs (a2.trans ht) (by rw [b1]; exact h1) (by rw [b1]; exact h2) h3)
          · by_cases a3 : u.sc = s.sc
            · exfalso
              have gu : goTog u.sh u.mv u.sc = true := gu
              rw [b1, a3, hs] at gu
              simp [goTog, h2] at gu
            · refine .inr (.inr ?_)
              have e1 := dff_ne (Ne.symm a3)
              have e2 := dff_ne a2
              omega
        · refine .inr (.inr ?_)
          have e1 := dff_ne (Ne.symm a1)
          have e2 := dff_ne b1
          omega
    rcases key with k | k | k
    · rw [if_pos k]; split <;> omega
    · rw [if_pos k]; split <;> omega
    · split <;> split <;> omega
theorem steps_one (s t : Sgn) (gs : s.good = true) (gt : t.good = true) : stepsN s t = 1 ↔ (unlikeL s t).length = 1 := by
  unfold stepsN
  cases hl : lockd s t with
  | false => simp
  | true =>
    rw [if_pos rfl]
    have hsc : s.sc ≠ t.sc := fun e => by
      obtain ⟨⟨x, e1⟩, ⟨y, e2⟩, e3⟩ := lockd_facts gs gt hl
      rw [e1, e2] at e; injection e with e _; exact e3 e
    obtain ⟨_, _, h1⟩ := lockd_facts gs gt hl
    have d1 := dff_ne h1
    have d5 := dff_ne hsc
    rw [unlike_len]; omega
@[simp] theorem shp_Ss (l : List Sgn) : shp (.tup (l.map Sgn.d)) = true := (shn_tup (n := 2) (fun d h => by obtain ⟨s, _, rfl⟩ := List.mem_map.mp h; exact shn_S s)).shp
@[simp] theorem plain_Ss (l : List Sgn) : (D.tup (l.map Sgn.d)).plain = true := by
  rw [plain_tup]; exact List.all_eq_true.mpr fun d h => by obtain ⟨s, _, rfl⟩ := List.mem_map.mp h; exact plain_S s
@[simp] theorem shp_SsL (l : List Sgn) : shp (.lst (l.map Sgn.d)) = true := (shn_lst (n := 2) (fun d h => by obtain ⟨s, _, rfl⟩ := List.mem_map.mp h; exact shn_S s)).shp
theorem inL_Ss (s : Sgn) (l : List Sgn) : inL s.d (l.map Sgn.d) = decide (s ∈ l) := by
  unfold inL
  rw [List.any_map, Bool.eq_iff_iff, List.any_eq_true, decide_eq_true_iff]
  constructor
  · rintro ⟨t, ht, e⟩
    have e : eqD t.d s.d = true := e
    rw [eqD_S] at e
    rw [← of_decide_eq_true e]; exact ht
  · intro h
    exact ⟨s, h, by show eqD s.d s.d = true; rw [eqD_S]; exact decide_eq_true rfl⟩
theorem in_near (s t : Sgn) (gt : t.good = true) : decide (t ∈ nearL s) = decide ((unlikeL s t).length = 1) := by
  rw [Bool.eq_iff_iff, decide_eq_true_iff, mem_nearL]
  unfold nearP
  rw [gt, Bool.true_and]
theorem mem_near {s t : Sgn} (gt : t.good = true) (h : (unlikeL s t).length = 1) : t ∈ nearL s := by
  have := in_near s t gt
  rw [h] at this; exact of_decide_eq_true (this.trans (by simp))
end DL
namespace DL
open PySem PySem.Spec PyProof.Rows L2
section
variable {t : DT} {q : DTQ} {ti : DTA} {i : Nat} {u s s1 s2 : DST} {ρ : Rho} {De : DEnds} {g : GD}
/-- a for with what holds between the turns -/
theorem for_inv {α : Type} (f : α → D) (I : List α → Rho → Prop) : ∀ (l pre : List α) (ρ : Rho), I pre ρ →
    (∀ (pre' : List α) (x : α) (post : List α) (ρ : Rho) (N : Rho → Prop), pre ++ l = pre' ++ x :: post → I pre' ρ → (∀ ρ', I (pre' ++ [x]) ρ' → N ρ') → s (ρ.set i (.val (f x))) { De with nx := N, ct := N, bk := De.nx }) →
    (∀ ρ, I (pre ++ l) ρ → De.nx ρ) → forGo (gN i) s De (l.map f) ρ
  | [], pre, ρ, h0, _, he => he ρ (by rw [List.append_nil]; exact h0)
  | x :: l, pre, ρ, h0, hs, he => by
    rw [List.map_cons]
    refine go_cons (hs pre x l ρ _ rfl h0 fun ρ' h' => ?_)
    exact for_inv f I l (pre ++ [x]) ρ' h' (fun pre' y post ρ N e => hs pre' y post ρ N (by rw [← e]; simp)) fun ρ h => he ρ (by simpa using h)
theorem seq_parO {j : Nat} {tB : DTA} (d : D) (ds : List D) (h1 : ∀ P : D → Prop, P d → t ρ P De.xc) (h2 : ∀ P : List D → Prop, P ds → tB ρ P De.xc) (k : u ((ρ.set i (.val d)).set j (.own ds)) De) : sSeq (sParO i j t tB) u ρ De := h1 _ (h2 _ k)
theorem seq_par3O {j l : Nat} {tB : DTA} {tc : DT} (d : D) (ds : List D) (d3 : D) (h1 : ∀ P : D → Prop, P d → t ρ P De.xc) (h2 : ∀ P : List D → Prop, P ds → tB ρ P De.xc) (h3 : ∀ P : D → Prop, P d3 → tc ρ P De.xc) (hf : flat d3 = true)
    (k : u (((ρ.set i (.val d)).set j (.own ds)).set l (.val d3)) De) : sSeq (sPar3O i j l t tB tc) u ρ De := h1 _ (h2 _ (h3 _ ⟨hf, k⟩))
theorem one_par {j : Nat} {tA : DTA} (d d' : D) (h : ∀ P : List D → Prop, P [d, d'] → tA ρ P De.xc) (k : De.nx ((ρ.set i (.val d)).set j (.val d'))) : sPar i j tA ρ De := h _ k
theorem seq_if_any (b : Bool) (h : ∀ P : Bool → Prop, P b → q ρ P De.xc) (k1 : b = true → sSeq s1 u ρ De) (k2 : b = false → u ρ De) : sSeq (sIf q s1 sNext) u ρ De := by
  refine h (fun b => if b = true then _ else _) ?_
  cases b
  · exact k2 rfl
  · exact k1 rfl
end
end DL
namespace DL
open PySem PySem.Spec PyProof.Rows L2
@[simp] theorem non_d (s : Sgn) : (D.non = s.d) = False := by simp [Sgn.d]
@[simp] theorem tup0_d (s : Sgn) : (D.tup [] = s.d) = False := by simp [Sgn.d]
@[simp] theorem shp_tup0 : shp (.tup []) = true := (shn_tup (n := 0) (by simp)).shp
@[simp] theorem isS_non : isSignD .non = false := rfl
@[simp] theorem isS_tup0 : isSignD (.tup []) = false := rfl
@[simp] def sd_law_is : SpD := fun ds P _ => ∃ a b : Bool, ds = [.bl a, .bl b] ∧ P (.bl (a == b))
theorem len_law_is : ∀ ds P R, sd_law_is ds P R → ds.length = 2 := fun ds P R h => by obtain ⟨_, _, rfl, _⟩ := h; rfl
def t_law_is : DST :=
    (sRet (dAnd (dIsT isBoolD (dV 0)) (dOp fEq (dV 0) (dV 1))))

theorem vc_law_is : ∀ ds P R, sd_law_is ds P R → t_law_is (startR ["_law_found", "_law_expected"] ds) ⟨fun _ => P .non, P, fun _ => False, fun _ => False, R⟩ := fun ds P R h => by
  obtain ⟨a, b, rfl, h⟩ := h
  simp [t_law_is]; exact h
@[simp] def sd_law_written : SpD := fun ds P _ => ∃ s : Sgn, ds = [s.d] ∧ P (.str s.txt)
theorem len_law_written : ∀ ds P R, sd_law_written ds P R → ds.length = 1 := fun ds P R h => by obtain ⟨_, rfl, _⟩ := h; rfl
def t_law_written : DST :=
    (sSeq (sAsg (dC (.str "-")) (gN 1))
    (sSeq (sIf (qV (dOp fNotN (dOp fIx (dV 0) (dC (.int 4))) (dC .non)))
      (sAsg (dIf (qV (dOp fEq (dOp fIx (dV 0) (dC (.int 4))) (dC (.str "m")))) (dOp fAdd (dC (.str "+")) (dOp fIx (dV 0) (dC (.int 4)))) (dOp fAdd (dOp fAdd (dC (.str "+")) (dOp fIx (dOp fIx (dV 0) (dC (.int 4))) (dC (.int 0)))) (dOp fIx (dOp fIx (dV 0) (dC (.int 4))) (dC (.int 1))))) (gN 1))
      sNext)
    (sRet (dOp fAdd (dOp fAdd (dOp fAdd (dOp fAdd (dOp fIx (dV 0) (dC (.int 0))) (dOp fIx (dV 0) (dC (.int 1)))) (dOp fIx (dV 0) (dC (.int 2)))) (dStrI (dOp fIx (dV 0) (dC (.int 3))))) (dV 1)))))

def Sec.wr : Sec → Str | .non => "-" | .m => "+" ++ "m" | .hand s t => ("+" ++ s.s) ++ t.s
theorem wr_rest (q : Sec) : q.wr = q.rest := by
  cases q with
  | non => rfl
  | m => rfl
  | hand s t => cases s <;> cases t <;> decide +kernel
theorem wr_txt (s : Sgn) : ((((s.sh.s ++ s.tn.s) ++ s.mv.s) ++ (toString s.pl.i : Str)) ++ s.sc.wr) = s.txt := by
  refine str_ext ?_
  rw [wr_rest]
  unfold Sgn.txt
  simp only [Str.app_cps]
  rfl
theorem len_app (a b : Str) : (a ++ b).length = a.length + b.length := by rw [len_cps, len_cps, len_cps, Str.app_cps, List.length_append]
theorem one_pl (p : Plc) : (toString p.i : Str).length = 1 := by rw [len_cps, Plc.sc]; rfl
theorem wr_len (q : Sec) : q.wr.length ≤ 3 := by
  rw [wr_rest, len_cps, Sec.sc]
  cases q <;> simp [Sec.k]
theorem vc_law_written : ∀ ds P R, sd_law_written ds P R → t_law_written (startR ["_law_one", "_law_last"] ds) ⟨fun _ => P .non, P, fun _ => False, fun _ => False, R⟩ := fun ds P R h => by
  obtain ⟨s, rfl, h⟩ := h
  show t_law_written [.val s.d, .non] _
  have done : ∀ x : Sl, sRet (dOp fAdd (dOp fAdd (dOp fAdd (dOp fAdd (dOp fIx (dV 0) (dC (.int 0))) (dOp fIx (dV 0) (dC (.int 1)))) (dOp fIx (dV 0) (dC (.int 2)))) (dStrI (dOp fIx (dV 0) (dC (.int 3))))) (dV 1)) [.val s.d, .val (.str s.sc.wr)] ⟨fun _ => P .non, P, fun _ => False, fun _ => False, R⟩ := fun x => by
    have l1 := one_sh s.sh
    have l2 := one_tn s.tn
    have l3 := one_mv s.mv
    have l4 := one_pl s.pl
    have l5 := wr_len s.sc
    have b2 : ∀ {n : Nat}, n ≤ 8 → n ≤ sizeLine := fun h => big8 h
    have lp := plog s.pl
    simp only [sRet, dOp, dV, dC, slP, List.getElem?_cons_zero, List.getElem?_cons_succ, fS0, fS1, fS2, fS3, dStrI, fAdd]
    refine ⟨b2 (by omega), b2 (by rw [len_app]; omega), lp, b2 (by rw [len_app, len_app]; omega), b2 (by rw [len_app, len_app, len_app]; omega), ?_⟩
    rw [wr_txt]; exact h
  refine seq_asg (.str "-") (fun P k => k) ?_
  simp only [List.set_cons_succ, List.set_cons_zero]
  cases hq : s.sc with
  | non =>
    refine seq_if false (fun P k => ?_) (fun z => by cases z) fun _ => ?_
    · simp [hq, Sec.d]; exact k
    · have := done (.non)
      rw [hq] at this; exact this
  | m =>
    refine seq_if true (fun P k => ?_) (fun _ => ?_) (fun z => by cases z)
    · simp [hq, Sec.d]; exact k
    · refine seq_asg (.str ("+" ++ "m")) (fun P k => ?_) ?_
      · simp [hq, Sec.d]; exact ⟨by decide, k⟩
      · have := done (.non)
        rw [hq] at this; exact this
  | hand a t =>
    refine seq_if true (fun P k => ?_) (fun _ => ?_) (fun z => by cases z)
    · simp [hq, Sec.d]; exact k
    · refine seq_asg (.str (("+" ++ a.s) ++ t.s)) (fun P k => ?_) ?_
      · have e1 : (("+" : Str)).length + a.s.length ≤ sizeLine := by cases a <;> decide
        have e2 : (("+" : Str) ++ a.s).length + t.s.length ≤ sizeLine := by cases a <;> cases t <;> decide
        simp [hq, Sec.d, shn_str]
        exact ⟨(shn_tup (n := 0) (by simp [shn_Sh, shn_Tn])).shp, e1, e2, k⟩
      · have := done (.non)
        rw [hq] at this; exact this
end DL
namespace DL
open PySem PySem.Spec PyProof.Rows L2
/-! ### all([.. for x in ..]) -/
theorem lc_all {i : Nat} {t : DT} {ρ : Rho} {K : Bool → Prop} (f : D → Bool) (ds : List D) (ht : ∀ x ∈ ds, ∀ K : D → Prop, K (.bl (f x)) → t (ρ.set i (.val x)) K (fun _ => False)) (k : K (ds.all f)) :
    lcGo (gN i) qYes t ρ (fun es => match blsOf es with | some bs => K (bs.all id) | none => False) ds [] := by
  have hm : lcGo (gN i) qYes t ρ (fun es => match blsOf es with | some bs => K (bs.all id) | none => False) (ds.map id) [] := by
    refine lc_map id (fun x => D.bl (f x)) ds ht ?_
    rw [bls_map]
    show K ((ds.map f).all id)
    rw [all_id]; exact k
  rw [List.map_id] at hm
  exact hm
theorem lc_all2 {α : Type} {g : GD} {t : DT} {ρ : Rho} {K : Bool → Prop} (fd : α → D) (ρx : α → Rho) (f : α → Bool) (l : List α) (hg : ∀ x ∈ l, ∀ K : Rho → Prop, K (ρx x) → g (fd x) ρ K) (ht : ∀ x ∈ l, ∀ K : D → Prop, K (.bl (f x)) → t (ρx x) K (fun _ => False)) (k : K (l.all f)) :
    lcGo g qYes t ρ (fun es => match blsOf es with | some bs => K (bs.all id) | none => False) (l.map fd) [] := by
  refine lc_genG fd ρx (fun _ => true) (fun x => D.bl (f x)) l [] hg (fun _ _ _ h => h) (fun x hx _ => ht x hx) ?_
  rw [List.filter_eq_self.mpr (fun _ _ => rfl), List.nil_append, bls_map]
  show K ((l.map f).all id)
  rw [all_id]; exact k
theorem beq_dec {α : Type} [DecidableEq α] (a b : α) : (a == b) = decide (a = b) := rfl
theorem beq_dec' (a b : Int) : (a == b) = decide (a = b) := rfl
theorem go_prs {i j : Nat} {s : DST} {ρ : Rho} {De : DEnds} {a b : D} {ds : List D} (k : s ((ρ.set i (.val a)).set j (.val b)) { De with nx := forGo (gT 2 (gsCons (gN i) (gsCons (gN j) gsNil))) s De ds, ct := forGo (gT 2 (gsCons (gN i) (gsCons (gN j) gsNil))) s De ds, bk := De.nx }) :
    forGo (gT 2 (gsCons (gN i) (gsCons (gN j) gsNil))) s De (.tup [a, b] :: ds) ρ := ⟨rfl, rfl, k⟩
/-! ### lists of signs -/
def ascL (l : List Sgn) : Bool := (l.zip (l.drop 1)).all fun p => decide (p.1.key < p.2.key)
def SsD (l : List Sgn) : D := .tup (l.map Sgn.d)
def okL (l : List Sgn) : Bool := (decide (1 ≤ l.length) && decide (l.length ≤ 6)) && (l.all Sgn.good && ascL l)
def areSignsD : D → Bool
  | .tup ds => (decide (1 ≤ ds.length) && decide (ds.length ≤ 6)) && (match decGs ds with | some l => ascL l | none => false)
  | _ => false
theorem decGs_len {ds : List D} {l : List Sgn} (h : decGs ds = some l) : ds.length = l.length := by
  obtain ⟨e, _⟩ := decGs_iff h
  rw [e, List.length_map]
theorem areSigns_iff {d : D} : areSignsD d = true ↔ ∃ l, okL l = true ∧ d = SsD l := by
  constructor
  · intro h
    cases d with
    | tup ds =>
      unfold areSignsD at h
      rw [Bool.and_eq_true, Bool.and_eq_true] at h
      cases e : decGs ds with
      | none => rw [e] at h; exact absurd h.2 (by decide)
      | some l =>
        rw [e] at h
        obtain ⟨e1, e2⟩ := decGs_iff e
        refine ⟨l, ?_, by rw [e1]; rfl⟩
        unfold okL
        rw [← decGs_len e, h.1.1, h.1.2]
        have : l.all Sgn.good = true := List.all_eq_true.mpr e2
        rw [this]; exact h.2
    | _ => cases h
  · rintro ⟨l, h, rfl⟩
    unfold okL at h
    simp only [Bool.and_eq_true] at h
    obtain ⟨⟨h1, h2⟩, h3, h4⟩ := h
    show ((decide (1 ≤ (l.map Sgn.d).length) && decide ((l.map Sgn.d).length ≤ 6)) && _) = true
    rw [List.length_map, h1, h2, decGs_all l (List.all_eq_true.mp h3)]
    exact h4
theorem SsD_inj {l m : List Sgn} (h : SsD l = SsD m) : l = m := by
  unfold SsD at h
  injection h with h
  induction l generalizing m with
  | nil => cases m with
    | nil => rfl
    | cons _ _ => cases h
  | cons a l ih => cases m with
    | nil => cases h
    | cons b m =>
      rw [List.map_cons, List.map_cons] at h
      injection h with h1 h2
      rw [Sgn.d_inj h1, ih h2]
theorem okL_good {l : List Sgn} (h : okL l = true) : ∀ s ∈ l, s.good = true := by
  unfold okL at h
  simp only [Bool.and_eq_true] at h
  exact List.all_eq_true.mp h.2.1
theorem okL_len {l : List Sgn} (h : okL l = true) : 1 ≤ l.length ∧ l.length ≤ 6 := by
  unfold okL at h
  simp only [Bool.and_eq_true, decide_eq_true_eq] at h
  exact h.1
theorem asc_pw : ∀ {l : List Sgn}, ascL l = true → (l.map Sgn.key).Pairwise (· < ·)
  | [], _ => .nil
  | [a], _ => by simp
  | a :: b :: r, h => by
    have e : ascL (a :: b :: r) = (decide (a.key < b.key) && ascL (b :: r)) := rfl
    rw [e, Bool.and_eq_true, decide_eq_true_eq] at h
    have ih := asc_pw h.2
    rw [List.map_cons]
    refine List.pairwise_cons.mpr ⟨fun x hx => ?_, ih⟩
    rcases List.mem_cons.mp hx with rfl | hx
    · exact h.1
    · exact List.lt_trans h.1 ((List.pairwise_cons.mp ih).1 x hx)
theorem pw_asc : ∀ {l : List Sgn}, (l.map Sgn.key).Pairwise (· < ·) → ascL l = true
  | [], _ => rfl
  | [a], _ => rfl
  | a :: b :: r, h => by
    rw [List.map_cons] at h
    have h2 := List.pairwise_cons.mp h
    have e : ascL (a :: b :: r) = (decide (a.key < b.key) && ascL (b :: r)) := rfl
    rw [e, Bool.and_eq_true, decide_eq_true_eq]
    exact ⟨h2.1 _ (by simp), pw_asc h2.2⟩
theorem okL_nodup {l : List Sgn} (h : okL l = true) : l.Nodup := by
  unfold okL at h
  simp only [Bool.and_eq_true] at h
  have := asc_pw h.2.2
  rw [List.pairwise_map] at this
  exact this.imp fun {a b} hab e => by rw [e] at hab; exact List.lt_irrefl _ hab
theorem okL_of {l : List Sgn} (h1 : 1 ≤ l.length) (h2 : l.length ≤ 6) (h3 : ∀ s ∈ l, s.good = true) (h4 : (l.map Sgn.key).Pairwise (· < ·)) : okL l = true := by
  unfold okL
  rw [decide_eq_true h1, decide_eq_true h2, List.all_eq_true.mpr h3, pw_asc h4]; rfl
@[simp] theorem plain_SsD (l : List Sgn) : (SsD l).plain = true := plain_Ss l
@[simp] theorem shp_SsD (l : List Sgn) : shp (SsD l) = true := shp_Ss l
@[simp] def sd_are_signs : SpD := fun ds P _ => ∃ d, ds = [d] ∧ d.plain = true ∧ P (.bl (areSignsD d))
theorem len_are_signs : ∀ ds P R, sd_are_signs ds P R → ds.length = 1 := fun ds P R h => by obtain ⟨_, rfl, _⟩ := h; rfl
def t_are_signs : DST :=
    (sSeq (sIf (qOr (qNot (qV (dIsT isTupD (dV 0)))) (qOr (qNot (qV (dChain (fII fun i j => .bl (decide (i ≤ j))) (fII fun i j => .bl (decide (i ≤ j))) (dC (.int 1)) (dLen (dV 0)) (dC (.int 6))))) (qNot (qV (dAll (dOfL (dLc (dItems (dV 0)) (gN 1) qYes (dCall sd_is_sign (dCons (dV 1) dNil)) [1])))))))
      (sRet (dC (.bl false)))
      sNext)
    (sRet (dAll (dOfL (dLc (dZip (dV 0) (dSl (dV 0) (dP (dC (.int 1))) dNoP)) (gT 2 (gsCons (gN 1) (gsCons (gN 2) gsNil))) qYes (dOp fLt (dCall sd_sign_text (dCons (dV 1) dNil)) (dCall sd_sign_text (dCons (dV 2) dNil))) [1, 2])))))

theorem zip_mem {α : Type} {l : List α} {p : α × α} (h : p ∈ l.zip (l.drop 1)) : p.1 ∈ l ∧ p.2 ∈ l := by
  have := List.of_mem_zip (a := p.1) (b := p.2) h
  exact ⟨this.1, List.mem_of_mem_drop this.2⟩
theorem vc_are_signs : ∀ ds P R, sd_are_signs ds P R → t_are_signs (startR ["value", "one", "other"] ds) ⟨fun _ => P .non, P, fun _ => False, fun _ => False, R⟩ := fun ds P R h => by
  obtain ⟨d, rfl, hp, h⟩ := h
  show t_are_signs [.val d, .non, .non] _
  cases d with
  | tup ds =>
    have hall : ∀ (x1 x2 : Sl) (K : Bool → Prop) (R : RX), K (ds.all isSignD) → qV (dAll (dOfL (dLc (dItems (dV 0)) (gN 1) qYes (dCall sd_is_sign (dCons (dV 1) dNil)) [1]))) [.val (.tup ds), x1, x2] K R := fun x1 x2 K R k => by
      refine lc_all (K := K) isSignD ds (fun x hx K k => ⟨?_, k⟩) k
      rw [plain_tup] at hp; exact List.all_eq_true.mp hp x hx
    have e : areSignsD (.tup ds) = ((decide (1 ≤ ds.length) && decide (ds.length ≤ 6)) && (match decGs ds with | some l => ascL l | none => false)) := rfl
    rw [e] at h
    have hch : ∀ (x1 x2 : Sl) (K : Bool → Prop) (R : RX), K (decide (1 ≤ ds.length) && decide (ds.length ≤ 6)) → qV (dChain (fII fun i j => .bl (decide (i ≤ j))) (fII fun i j => .bl (decide (i ≤ j))) (dC (.int 1)) (dLen (dV 0)) (dC (.int 6))) [.val (.tup ds), x1, x2] K R := fun x1 x2 K R k => by
      show (if decide ((1 : Int) ≤ (ds.length : Int)) = true then K (decide ((ds.length : Int) ≤ 6)) else K false)
      have e1 : decide ((1 : Int) ≤ (ds.length : Int)) = decide (1 ≤ ds.length) := by rw [decide_eq_decide]; omega
      have e2 : decide ((ds.length : Int) ≤ 6) = decide (ds.length ≤ 6) := by rw [decide_eq_decide]; omega
      rw [e1, e2]
      cases q : decide (1 ≤ ds.length) with
      | true => rw [if_pos rfl]; rw [q, Bool.true_and] at k; exact k
      | false => rw [if_neg (by decide)]; rw [q, Bool.false_and] at k; exact k
    refine seq_if (!((decide (1 ≤ ds.length) && decide (ds.length ≤ 6)) && ds.all isSignD)) (fun K k => ?_) (fun z => ?_) (fun z => ?_)
    · refine (show ∀ (x1 x2 : Sl) (K : Bool → Prop) (R : RX), K false → qNot (qV (dIsT isTupD (dV 0))) [.val (.tup ds), x1, x2] K R from fun x1 x2 K R k => k) _ _ _ _ (iteF ?_)
      refine hch _ _ _ _ ?_
      cases q : (decide (1 ≤ ds.length) && decide (ds.length ≤ 6)) with
      | false => rw [q] at k; exact iteT k
      | true =>
        rw [q, Bool.true_and] at k
        refine iteF ?_
        exact hall _ _ _ _ k
    · rw [Bool.not_eq_true'] at z
      have : ((decide (1 ≤ ds.length) && decide (ds.length ≤ 6)) && (match decGs ds with | some l => ascL l | none => false)) = false := by
        cases q : (decide (1 ≤ ds.length) && decide (ds.length ≤ 6)) with
        | false => rfl
        | true =>
          rw [q, Bool.true_and] at z
          cases q2 : decGs ds with
          | none => rfl
          | some l =>
            obtain ⟨e1, e2⟩ := decGs_iff q2
            rw [e1, List.all_map] at z
            have : l.all (isSignD ∘ Sgn.d) = true := List.all_eq_true.mpr fun x hx => by rw [Function.comp_apply, isSign_S]; exact e2 x hx
            rw [this] at z; cases z
      rw [this] at h; exact h
    · rw [Bool.not_eq_false', Bool.and_eq_true] at z
      rw [z.1, Bool.true_and] at h
      cases q2 : decGs ds with
      | none =>
        have := decGs_none q2
        rw [this] at z; cases z.2
      | some l =>
        rw [q2] at h
        obtain ⟨e1, e2⟩ := decGs_iff q2
        subst e1
        refine seq_next ?_
        show lcGo _ _ _ _ _ (zipD (l.map Sgn.d) (cutD (l.map Sgn.d) (some 1) none)) []
        rw [cut_tail, ← List.map_drop, zip_d]
        exact lc_all2 (α := Sgn × Sgn) (K := fun b => P (.bl b)) _ (fun p : Sgn × Sgn => [.val (.tup (l.map Sgn.d)), .val p.1.d, .val p.2.d]) (fun p => decide (p.1.key < p.2.key)) _ (fun p _ K k => ⟨rfl, rfl, k⟩) (fun p _ K k => ⟨p.1, rfl, p.2, rfl, by change K (.bl (decide (p.1.txt.cps.toList < p.2.txt.cps.toList))); rw [txt_key, txt_key]; exact k⟩) h
  | _ => first | exact h | (simp at hp)
end DL
namespace DL
open PySem PySem.Spec PyProof.Rows L2
@[simp] def sd_check_signs : SpD := fun ds P R => ∃ d, ds = [d] ∧ d.plain = true ∧ (areSignsD d = true → P .non) ∧ (areSignsD d = false → R "InvalidSigns")
theorem len_check_signs : ∀ ds P R, sd_check_signs ds P R → ds.length = 1 := fun ds P R h => by obtain ⟨_, rfl, _⟩ := h; rfl
def t_check_signs : DST :=
    (sIf (qNot (qV (dCall sd_are_signs (dCons (dV 0) dNil))))
      (sRaise "InvalidSigns")
      sNext)

theorem vc_check_signs : ∀ ds P R, sd_check_signs ds P R → t_check_signs (startR ["signs"] ds) ⟨fun _ => P .non, P, fun _ => False, fun _ => False, R⟩ := fun ds P R h => by
  obtain ⟨d, rfl, hp, h1, h2⟩ := h
  refine ⟨d, rfl, hp, ?_⟩
  cases e : areSignsD d with
  | true => exact h1 e
  | false => exact h2 e
/-! ### rows, styles, views -/
def isBtw (lo hi : Int) : D → Bool
  | .int i => decide (lo ≤ i) && decide (i ≤ hi)
  | _ => false
@[simp] def natD (n : Nat) : D := .int (n : Int)
def rowD (r : List Nat) : D := .tup (r.map natD)
def isRowD (n : Nat) : D → Bool
  | .tup ds => decide (ds.length ≤ 8) && ds.all (isBtw 0 ((n : Int) - 1))
  | _ => false
theorem nats_of {hi : Int} : ∀ {ds : List D}, ds.all (isBtw 0 hi) = true → ∃ r : List Nat, (∀ i ∈ r, (i : Int) ≤ hi) ∧ ds = r.map natD
  | [], _ => ⟨[], (fun _ h => by cases h), rfl⟩
  | d :: ds, h => by
    rw [List.all_cons, Bool.and_eq_true] at h
    obtain ⟨r, h1, h2⟩ := nats_of h.2
    cases d with
    | int i =>
      have h3 : (decide (0 ≤ i) && decide (i ≤ hi)) = true := h.1
      rw [Bool.and_eq_true, decide_eq_true_eq, decide_eq_true_eq] at h3
      refine ⟨i.toNat :: r, fun j hj => ?_, ?_⟩
      · rcases List.mem_cons.mp hj with rfl | hj
        · omega
        · exact h1 j hj
      · rw [List.map_cons, h2]
        have : ((i.toNat : Nat) : Int) = i := by omega
        show D.int i :: _ = D.int ((i.toNat : Nat) : Int) :: _
        rw [this]
    | _ => exact absurd h.1 (by simp [isBtw])
theorem all_btw {hi : Int} {r : List Nat} (h : ∀ i ∈ r, (i : Int) ≤ hi) : (r.map natD).all (isBtw 0 hi) = true := by
  rw [List.all_map, List.all_eq_true]
  intro i hi'
  have := h i hi'
  show (decide ((0 : Int) ≤ (i : Int)) && decide ((i : Int) ≤ hi)) = true
  rw [decide_eq_true this, decide_eq_true (by omega)]; rfl
theorem isRow_iff {n : Nat} {d : D} : isRowD n d = true ↔ ∃ r : List Nat, (r.length ≤ 8 ∧ ∀ i ∈ r, i < n) ∧ d = rowD r := by
  constructor
  · intro h
    cases d with
    | tup ds =>
      have h : (decide (ds.length ≤ 8) && ds.all (isBtw 0 ((n : Int) - 1))) = true := h
      rw [Bool.and_eq_true, decide_eq_true_eq] at h
      obtain ⟨r, h1, h2⟩ := nats_of h.2
      refine ⟨r, ⟨?_, fun i hi => by have := h1 i hi; omega⟩, by rw [h2]; rfl⟩
      have := h.1
      rw [h2, List.length_map] at this; exact this
    | _ => cases h
  · rintro ⟨r, ⟨h1, h2⟩, rfl⟩
    show (decide ((r.map natD).length ≤ 8) && (r.map natD).all (isBtw 0 ((n : Int) - 1))) = true
    rw [List.length_map, decide_eq_true h1, all_btw fun i hi => by have := h2 i hi; omega]; rfl
theorem nat_map_inj : ∀ {r s : List Nat}, (r.map natD) = (s.map natD) → r = s
  | [], [], _ => rfl
  | [], _ :: _, h => by cases h
  | _ :: _, [], h => by cases h
  | a :: r, b :: s, h => by
    rw [List.map_cons, List.map_cons] at h
    injection h with h1 h2
    injection h1 with h1
    rw [nat_map_inj h2, Int.ofNat.inj h1]
theorem rowD_inj {r s : List Nat} (h : rowD r = rowD s) : r = s := by
  unfold rowD at h
  injection h with h
  exact nat_map_inj h
theorem shn_nats (r : List Nat) : shn 1 (rowD r) := shn_tup (fun d h => by obtain ⟨n, _, rfl⟩ := List.mem_map.mp h; exact shn_int _)
@[simp] theorem shp_rowD (r : List Nat) : shp (rowD r) = true := (shn_nats r).shp
@[simp] theorem plain_rowD (r : List Nat) : (rowD r).plain = true := by
  unfold rowD
  rw [plain_tup]; exact List.all_eq_true.mpr fun d h => by obtain ⟨s, _, rfl⟩ := List.mem_map.mp h; exact plain_int _
@[simp] def sd_is_row : SpD := fun ds P _ => ∃ (l : List Sgn) (d : D), ds = [SsD l, d] ∧ d.plain = true ∧ P (.bl (isRowD l.length d))
theorem len_is_row : ∀ ds P R, sd_is_row ds P R → ds.length = 2 := fun ds P R h => by obtain ⟨_, _, rfl, _⟩ := h; rfl
def t_is_row : DST :=
    (sSeq (sIf (qOr (qNot (qV (dIsT isTupD (dV 1)))) (qV (dOp (fII fun i j => .bl (decide (j < i))) (dLen (dV 1)) (dC (.int 8)))))
      (sRet (dC (.bl false)))
      sNext)
    (sRet (dAll (dOfL (dLc (dItems (dV 1)) (gN 2) qYes (dCall sd_is_between (dCons (dV 2) (dCons (dC (.int 0)) (dCons (dOp (fII fun i j => .int (i - j)) (dLen (dV 0)) (dC (.int 1))) dNil)))) [2])))))

theorem btw_run {x : D} {lo hi hi' : Int} {K : D → Prop} {R : RX} (h1 : x.plain = true) (h2 : hi' = hi) (k : K (.bl (isBtw lo hi x))) : sd_is_between [x, .int lo, .int hi'] K R := by
  subst h2
  exact ⟨h1, k⟩
theorem vc_is_row : ∀ ds P R, sd_is_row ds P R → t_is_row (startR ["signs", "value", "number"] ds) ⟨fun _ => P .non, P, fun _ => False, fun _ => False, R⟩ := fun ds P R h => by
  obtain ⟨l, d, rfl, hp, h⟩ := h
  show t_is_row [.val (SsD l), .val d, .non] _
  cases d with
  | tup ds =>
    have h : P (.bl (decide (ds.length ≤ 8) && ds.all (isBtw 0 ((l.length : Int) - 1)))) := h
    have e1 : decide ((8 : Int) < (ds.length : Int)) = !decide (ds.length ≤ 8) := by
      rw [← decide_not, decide_eq_decide]; omega
    refine seq_if (!decide (ds.length ≤ 8)) (fun K k => ?_) (fun z => ?_) (fun z => ?_)
    · refine (show ∀ (x1 x2 : Sl) (K : Bool → Prop) (R : RX), K false → qNot (qV (dIsT isTupD (dV 1))) [x1, .val (.tup ds), x2] K R from fun x1 x2 K R k => k) _ _ _ _ (iteF ?_)
      show K (decide ((8 : Int) < (ds.length : Int)))
      rw [e1]; exact k
    · rw [Bool.not_eq_true'] at z
      rw [z, Bool.false_and] at h; exact h
    · rw [Bool.not_eq_false'] at z
      rw [z, Bool.true_and] at h
      refine seq_next ?_
      refine lc_all (K := fun b => P (.bl b)) (isBtw 0 ((l.length : Int) - 1)) ds (fun x hx K k => ?_) h
      refine btw_run (R := fun _ => False) (lo := 0) (hi := (l.length : Int) - 1) ?_ (by rw [List.length_map]) k
      rw [plain_tup] at hp; exact List.all_eq_true.mp hp x hx
  | _ => first | exact h | (simp at hp)
@[simp] def sd_check_row : SpD := fun ds P R => ∃ (l : List Sgn) (d : D), ds = [SsD l, d] ∧ d.plain = true ∧ (isRowD l.length d = true → P .non) ∧ (isRowD l.length d = false → R "InvalidRow")
theorem len_check_row : ∀ ds P R, sd_check_row ds P R → ds.length = 2 := fun ds P R h => by obtain ⟨_, _, rfl, _⟩ := h; rfl
def t_check_row : DST :=
    (sIf (qNot (qV (dCall sd_is_row (dCons (dV 0) (dCons (dV 1) dNil)))))
      (sRaise "InvalidRow")
      sNext)

theorem vc_check_row : ∀ ds P R, sd_check_row ds P R → t_check_row (startR ["signs", "row"] ds) ⟨fun _ => P .non, P, fun _ => False, fun _ => False, R⟩ := fun ds P R h => by
  obtain ⟨l, d, rfl, hp, h1, h2⟩ := h
  refine ⟨l, d, rfl, hp, ?_⟩
  cases e : isRowD l.length d with
  | true => exact h1 e
  | false => exact h2 e
def styD (st : Bool × Bool) : D := .tup [.bl st.1, .bl st.2]
def isStyD : D → Bool
  | .tup [.bl _, .bl _] => true
  | _ => false
theorem isSty_iff {d : D} : isStyD d = true ↔ ∃ st, d = styD st := by
  constructor
  · intro h
    unfold isStyD at h
    split at h
    · rename_i a b; exact ⟨(a, b), rfl⟩
    · cases h
  · rintro ⟨st, rfl⟩; rfl
theorem styD_inj {a b : Bool × Bool} (h : styD a = styD b) : a = b := by
  unfold styD at h
  injection h with h
  injection h with h1 h2
  injection h1 with h1
  injection h2 with h2 _
  injection h2 with h2
  exact Prod.ext h1 h2
@[simp] theorem plain_styD (st : Bool × Bool) : (styD st).plain = true := by simp [styD]
@[simp] theorem shp_styD (st : Bool × Bool) : shp (styD st) = true := (shn_tup (n := 0) (by simp [shn_bl])).shp
def isBl : D → Bool
  | .bl _ => true
  | _ => false
@[simp] def sd_check_style : SpD := fun ds P R => ∃ d, ds = [d] ∧ d.plain = true ∧ (isStyD d = true → P .non) ∧ (isStyD d = false → R "InvalidStyle")
theorem len_check_style : ∀ ds P R, sd_check_style ds P R → ds.length = 1 := fun ds P R h => by obtain ⟨_, rfl, _⟩ := h; rfl
def t_check_style : DST :=
    (sIf (qOr (qNot (qV (dIsT isTupD (dV 0)))) (qOr (qV (dOp fNe (dLen (dV 0)) (dC (.int 2)))) (qNot (qV (dAll (dOfL (dLc (dItems (dV 0)) (gN 1) qYes (dIsT isBoolD (dV 1)) [1])))))))
      (sRaise "InvalidStyle")
      sNext)

theorem isSty_all {ds : List D} (h : ds.length = 2) : isStyD (.tup ds) = ds.all isBl := by
  match ds, h with
  | [a, b], _ => cases a <;> cases b <;> rfl
theorem vc_check_style : ∀ ds P R, sd_check_style ds P R → t_check_style (startR ["style", "one"] ds) ⟨fun _ => P .non, P, fun _ => False, fun _ => False, R⟩ := fun ds P R h => by
  obtain ⟨d, rfl, hp, h1, h2⟩ := h
  show t_check_style [.val d, .non] _
  cases d with
  | tup ds =>
    have e1 : eqD (.int (ds.length : Int)) (.int 2) = decide (ds.length = 2) := by
      rw [eqD_int, beq_dec', decide_eq_decide]; omega
    refine one_if (!(decide (ds.length = 2) && ds.all isBl)) (fun K k => ?_) (fun z => ?_) (fun z => ?_)
    · refine (show ∀ (x1 : Sl) (K : Bool → Prop) (R : RX), K false → qNot (qV (dIsT isTupD (dV 0))) [.val (.tup ds), x1] K R from fun x1 K R k => k) _ _ _ (iteF ?_)
      refine ⟨shp_int _, shp_int _, ?_⟩
      rw [e1]
      refine isB_ite (fun z => ?_) (fun z => ?_)
      · rw [Bool.not_eq_true'] at z
        rw [z] at k; exact k
      · rw [Bool.not_eq_false'] at z
        rw [z, Bool.true_and] at k
        refine lc_all (K := fun b => K (!b)) isBl ds (fun x hx K k => ?_) k
        have px : x.plain = true := by rw [plain_tup] at hp; exact List.all_eq_true.mp hp x hx
        cases x <;> first | exact k | (simp at px)
    · rw [Bool.not_eq_true'] at z
      refine h2 ?_
      cases q : decide (ds.length = 2) with
      | false =>
        rw [decide_eq_false_iff_not] at q
        cases y : isStyD (.tup ds) with
        | false => rfl
        | true =>
          obtain ⟨st, e⟩ := isSty_iff.mp y
          injection e with e
          rw [e] at q; exact absurd rfl q
      | true =>
        rw [q, Bool.true_and] at z
        rw [isSty_all (of_decide_eq_true q)]; exact z
    · rw [Bool.not_eq_false', Bool.and_eq_true] at z
      refine h1 ?_
      rw [isSty_all (of_decide_eq_true z.1)]; exact z.2
  | _ => first | exact h2 rfl | (simp at hp)
end DL
namespace DL
open PySem PySem.Spec PyProof.Rows L2
/-! ### views -/
def ltD : D → D → Bool
  | .int i, .int j => decide (i < j)
  | _, _ => false
def isViewD : D → Bool
  | .tup ds => ds.all (isBtw 0 4) && (ds.zip (ds.drop 1)).all fun p => ltD p.1 p.2
  | _ => false
structure OkV (v : List Nat) : Prop where
  le : ∀ i ∈ v, i ≤ 4
  asc : v.Pairwise (· < ·)
theorem ascN_pw : ∀ {v : List Nat}, (v.zip (v.drop 1)).all (fun p => decide (p.1 < p.2)) = true ↔ v.Pairwise (· < ·)
  | [] => by simp
  | [a] => by simp
  | a :: b :: r => by
    have ih := @ascN_pw (b :: r)
    have e : ((a :: b :: r).zip ((a :: b :: r).drop 1)).all (fun p => decide (p.1 < p.2)) = (decide (a < b) && ((b :: r).zip ((b :: r).drop 1)).all (fun p => decide (p.1 < p.2))) := rfl
    rw [e, Bool.and_eq_true, decide_eq_true_eq, ih]
    constructor
    · rintro ⟨h1, h2⟩
      refine List.pairwise_cons.mpr ⟨fun x hx => ?_, h2⟩
      rcases List.mem_cons.mp hx with rfl | hx
      · exact h1
      · exact Nat.lt_trans h1 ((List.pairwise_cons.mp h2).1 x hx)
    · intro h
      have := List.pairwise_cons.mp h
      exact ⟨this.1 _ (by simp), this.2⟩
theorem zip_nats (v : List Nat) : ((v.map natD).zip ((v.map natD).drop 1)).all (fun p => ltD p.1 p.2) = (v.zip (v.drop 1)).all (fun p => decide (p.1 < p.2)) := by
  rw [← List.map_drop, List.zip_map, List.all_map]
  congr 1
  funext p
  show decide ((p.1 : Int) < (p.2 : Int)) = _
  rw [decide_eq_decide]; omega
theorem isView_iff {d : D} : isViewD d = true ↔ ∃ v : List Nat, OkV v ∧ d = rowD v := by
  constructor
  · intro h
    cases d with
    | tup ds =>
      have h : (ds.all (isBtw 0 4) && (ds.zip (ds.drop 1)).all fun p => ltD p.1 p.2) = true := h
      rw [Bool.and_eq_true] at h
      obtain ⟨v, h1, h2⟩ := nats_of h.1
      refine ⟨v, ⟨fun i hi => by have := h1 i hi; omega, ?_⟩, by rw [h2]; rfl⟩
      have := h.2
      rw [h2, zip_nats] at this
      exact ascN_pw.mp this
    | _ => cases h
  · rintro ⟨v, ⟨h1, h2⟩, rfl⟩
    show ((v.map natD).all (isBtw 0 4) && ((v.map natD).zip ((v.map natD).drop 1)).all fun p => ltD p.1 p.2) = true
    rw [all_btw fun i hi => by have := h1 i hi; omega, zip_nats, ascN_pw.mpr h2]; rfl
@[simp] def sd_check_view : SpD := fun ds P R => ∃ d, ds = [d] ∧ d.plain = true ∧ (isViewD d = true → P .non) ∧ (isViewD d = false → R "InvalidView")
theorem len_check_view : ∀ ds P R, sd_check_view ds P R → ds.length = 1 := fun ds P R h => by obtain ⟨_, rfl, _⟩ := h; rfl
def t_check_view : DST :=
    (sSeq (sIf (qOr (qNot (qV (dIsT isTupD (dV 0)))) (qNot (qV (dAll (dOfL (dLc (dItems (dV 0)) (gN 1) qYes (dCall sd_is_between (dCons (dV 1) (dCons (dC (.int 0)) (dCons (dC (.int 4)) dNil)))) [1]))))))
      (sRaise "InvalidView")
      sNext)
    (sIf (qNot (qV (dAll (dOfL (dLc (dZip (dV 0) (dSl (dV 0) (dP (dC (.int 1))) dNoP)) (gT 2 (gsCons (gN 2) (gsCons (gN 3) gsNil))) qYes (dOp fLt (dV 2) (dV 3)) [2, 3])))))
      (sRaise "InvalidView")
      sNext))

theorem vc_check_view : ∀ ds P R, sd_check_view ds P R → t_check_view (startR ["view", "thing", "one", "other"] ds) ⟨fun _ => P .non, P, fun _ => False, fun _ => False, R⟩ := fun ds P R h => by
  obtain ⟨d, rfl, hp, h1, h2⟩ := h
  show t_check_view [.val d, .non, .non, .non] _
  cases d with
  | tup ds =>
    have e : isViewD (.tup ds) = (ds.all (isBtw 0 4) && (ds.zip (ds.drop 1)).all fun p => ltD p.1 p.2) := rfl
    rw [e] at h1 h2
    refine seq_if_any (!ds.all (isBtw 0 4)) (fun K k => ?_) (fun z => ?_) (fun z => ?_)
    · refine (show ∀ (x1 x2 x3 : Sl) (K : Bool → Prop) (R : RX), K false → qNot (qV (dIsT isTupD (dV 0))) [.val (.tup ds), x1, x2, x3] K R from fun x1 x2 x3 K R k => k) _ _ _ _ _ (iteF ?_)
      refine lc_all (K := fun b => K (!b)) (isBtw 0 4) ds (fun x hx K k => ?_) k
      refine btw_run (R := fun _ => False) (lo := 0) (hi := 4) ?_ rfl k
      rw [plain_tup] at hp; exact List.all_eq_true.mp hp x hx
    · rw [Bool.not_eq_true'] at z
      exact h2 (by rw [z, Bool.false_and])
    · rw [Bool.not_eq_false'] at z
      rw [z, Bool.true_and] at h1 h2
      obtain ⟨v, hv1, hv2⟩ := nats_of z
      subst hv2
      refine one_if (!((v.map natD).zip ((v.map natD).drop 1)).all fun p => ltD p.1 p.2) (fun K k => ?_) (fun y => ?_) (fun y => ?_)
      · show lcGo _ _ _ _ _ (zipD (v.map natD) (cutD (v.map natD) (some 1) none)) []
        rw [cut_tail]
        rw [← List.map_drop, List.zip_map, List.all_map] at k
        rw [← List.map_drop]
        unfold zipD
        rw [List.zip_map, List.map_map]
        exact lc_all2 (α := Nat × Nat) (K := fun b => K (!b)) _ (fun p : Nat × Nat => [.val (.tup (v.map natD)), .non, .val (natD p.1), .val (natD p.2)]) (fun p => ltD (natD p.1) (natD p.2)) _ (fun p _ K k => ⟨rfl, rfl, k⟩) (fun p _ K k => k) k
      · rw [Bool.not_eq_true'] at y
        exact h2 y
      · rw [Bool.not_eq_false'] at y
        exact h1 y
  | _ => first | exact h2 rfl | (simp at hp)
/-! ### what is seen -/
def s0 : Sgn := ⟨.a, .i, .n, .p0, .non⟩
def takeH (s : Sgn) (on : Bool) : Option Sgn → Option Sec
  | some t => (match t.sc with | .hand a b => if on && goTog s.sh s.mv (.hand a b) then some (.hand a b) else none | _ => none)
  | none => none
def seenB (b : Option Sgn) (s : Sgn) (a : Option Sgn) (st : Bool × Bool) : Sgn :=
  if s.sc = .non then (match takeH s st.1 b with | some q => { s with sc := q } | none => (match takeH s st.2 a with | some q => { s with sc := q } | none => s)) else s
def prevO (l : List Sgn) (i : Nat) : Option Sgn := if i = 0 then none else l[i - 1]?
def seenRow (l : List Sgn) (st : Bool × Bool) : List Sgn := (List.range l.length).map fun i => seenB (prevO l i) (l.getD i s0) l[i + 1]? st
def pick (l : List Sgn) (r : List Nat) : List Sgn := r.map fun i => l.getD i s0
def shownRow (l : List Sgn) (r : List Nat) (st : Bool × Bool) : List Sgn := seenRow (pick l r) st
def ent (s : Sgn) : Nat → D
  | 0 => .str s.sh.s
  | 1 => .str s.tn.s
  | 2 => .str s.mv.s
  | 3 => .int s.pl.i
  | _ => s.sc.d
def glD (v : List Nat) (s : Sgn) : D := .tup (v.map (ent s))
def glsD (l : List Sgn) (r : List Nat) (st : Bool × Bool) (v : List Nat) : D := .tup ((shownRow l r st).map (glD v))
def optD : Option Sgn → D
  | none => .non
  | some s => s.d
theorem seenRow_len (l : List Sgn) (st : Bool × Bool) : (seenRow l st).length = l.length := by simp [seenRow]
theorem shownRow_len (l : List Sgn) (r : List Nat) (st : Bool × Bool) : (shownRow l r st).length = r.length := by simp [shownRow, seenRow_len, pick]
@[simp] def sd_with_hand : SpD := fun ds P _ => ∃ (s : Sgn) (q : Sec), ds = [s.d, q.d] ∧ P (Sgn.d { s with sc := q })
theorem len_with_hand : ∀ ds P R, sd_with_hand ds P R → ds.length = 2 := fun ds P R h => by obtain ⟨_, _, rfl, _⟩ := h; rfl
def t_with_hand : DST :=
    (sRet (dOp fAdd (dSl (dV 0) dNoP (dP (dC (.int 4)))) (dTup (dCons (dV 1) dNil))))

theorem vc_with_hand : ∀ ds P R, sd_with_hand ds P R → t_with_hand (startR ["sign", "hand"] ds) ⟨fun _ => P .non, P, fun _ => False, fun _ => False, R⟩ := fun ds P R h => by
  obtain ⟨s, q, rfl, h⟩ := h
  simp [t_with_hand]; exact h
@[simp] def sd_seen_between : SpD := fun ds P _ => ∃ (b : Option Sgn) (s : Sgn) (a : Option Sgn) (st : Bool × Bool), ds = [optD b, s.d, optD a, styD st] ∧ P (seenB b s a st).d
theorem len_seen_between : ∀ ds P R, sd_seen_between ds P R → ds.length = 4 := fun ds P R h => by obtain ⟨_, _, _, _, rfl, _⟩ := h; rfl
def t_seen_between : DST :=
    (sSeq (sIf (qV (dOp fNotN (dOp fIx (dV 1) (dC (.int 4))) (dC .non)))
      (sRet (dV 1))
      sNext)
    (sSeq (sFor (dItems (dTup (dCons (dTup (dCons (dOp fIx (dV 3) (dC (.int 0))) (dCons (dV 0) dNil))) (dCons (dTup (dCons (dOp fIx (dV 3) (dC (.int 1))) (dCons (dV 2) dNil))) dNil)))) (gT 2 (gsCons (gN 4) (gsCons (gN 5) gsNil)))
      (sIf (qAnd (qV (dV 4)) (qAnd (qV (dOp fNotN (dV 5) (dC .non))) (qAnd (qV (dIsT isTupD (dOp fIx (dV 5) (dC (.int 4))))) (qV (dCall sd_can_hold (dCons (dV 1) (dCons (dOp fIx (dV 5) (dC (.int 4))) dNil)))))))
        (sRet (dCall sd_with_hand (dCons (dV 1) (dCons (dOp fIx (dV 5) (dC (.int 4))) dNil))))
        sNext))
    (sRet (dV 1))))

theorem seen_turn (s : Sgn) (on : Bool) (o : Option Sgn) (x0 x2 x3 : Sl) (De : DEnds) (h1 : ∀ q, takeH s on o = some q → De.rt (Sgn.d { s with sc := q })) (h2 : takeH s on o = none → De.nx [x0, .val s.d, x2, x3, .val (.bl on), .val (optD o)]) :
    sIf (qAnd (qV (dV 4)) (qAnd (qV (dOp fNotN (dV 5) (dC .non))) (qAnd (qV (dIsT isTupD (dOp fIx (dV 5) (dC (.int 4))))) (qV (dCall sd_can_hold (dCons (dV 1) (dCons (dOp fIx (dV 5) (dC (.int 4))) dNil)))))))
        (sRet (dCall sd_with_hand (dCons (dV 1) (dCons (dOp fIx (dV 5) (dC (.int 4))) dNil)))) sNext [x0, .val s.d, x2, x3, .val (.bl on), .val (optD o)] De := by
  cases on with
  | false =>
    have e : takeH s false o = none := by
      cases o with
      | none => rfl
      | some t => cases e : t.sc <;> simp [takeH, e]
    exact h2 e
  | true =>
    cases o with
    | none => exact h2 rfl
    | some t =>
      cases hq : t.sc with
      | non =>
        have e : takeH s true (some t) = none := by simp [takeH, hq]
        simp [optD, hq, Sec.d]; exact h2 e
      | m =>
        have e : takeH s true (some t) = none := by simp [takeH, hq]
        simp [optD, hq, Sec.d]; exact h2 e
      | hand a b =>
        have e : takeH s true (some t) = if goTog s.sh s.mv (.hand a b) then some (.hand a b) else none := by simp [takeH, hq]
        have e4 : ∀ (P : D → Prop), P (.tup [.str a.s, .str b.s]) → fIx t.d (.int 4) P := fun P p => by rw [fS4, hq]; exact p
        refine one_if (goTog s.sh s.mv (.hand a b)) (fun P k => ?_) (fun z => ?_) (fun z => ?_)
        · simp [optD, hq, Sec.d, -sd_can_hold]
          exact ⟨s, .hand a b, rfl, k⟩
        · simp [optD, hq, Sec.d, -sd_with_hand]
          exact ⟨s, .hand a b, rfl, h1 _ (by rw [e, z]; rfl)⟩
        · exact h2 (by rw [e, z]; rfl)
theorem vc_seen_between : ∀ ds P R, sd_seen_between ds P R → t_seen_between (startR ["before", "sign", "after", "style", "is_so", "other"] ds) ⟨fun _ => P .non, P, fun _ => False, fun _ => False, R⟩ := fun ds P R h => by
  obtain ⟨b, s, a, st, rfl, h⟩ := h
  show t_seen_between [.val (optD b), .val s.d, .val (optD a), .val (styD st), .non, .non] _
  unfold seenB at h
  cases hs : s.sc with
  | non =>
    rw [if_pos hs] at h
    refine seq_if_any false (fun P k => ?_) (fun z => by cases z) (fun _ => ?_)
    · simp [hs, Sec.d]; exact k
    refine seq_for [.tup [.bl st.1, optD b], .tup [.bl st.2, optD a]] (fun P k => ?_) ?_
    · exact ⟨line2, line2, line2, k⟩
    refine go_prs ?_
    simp only [List.set_cons_succ, List.set_cons_zero]
    refine seen_turn s st.1 b _ _ _ _ (fun q e => ?_) (fun e => ?_)
    · rw [e] at h; exact h
    rw [e] at h
    refine go_prs ?_
    simp only [List.set_cons_succ, List.set_cons_zero]
    refine seen_turn s st.2 a _ _ _ _ (fun q e => ?_) (fun e => ?_)
    · rw [e] at h; exact h
    · rw [e] at h; exact h
  | m =>
    rw [if_neg (by rw [hs]; decide)] at h
    refine seq_if_any true (fun P k => ?_) (fun _ => h) (fun z => by cases z)
    simp [hs, Sec.d]; exact k
  | hand x y =>
    rw [if_neg (by rw [hs]; simp)] at h
    refine seq_if_any true (fun P k => ?_) (fun _ => h) (fun z => by cases z)
    simp [hs, Sec.d]; exact k
@[simp] def sd_seen_row : SpD := fun ds P _ => ∃ (l : List Sgn) (st : Bool × Bool), ds = [.lst (l.map Sgn.d), styD st] ∧ l.length ≤ 1000 ∧ P (.lst ((seenRow l st).map Sgn.d))
theorem len_seen_row : ∀ ds P R, sd_seen_row ds P R → ds.length = 2 := fun ds P R h => by obtain ⟨_, _, rfl, _⟩ := h; rfl
def t_seen_row : DST :=
    (sSeq (sAsg (dOfL (dCat (dOfL (dCat (dOfL (dLst (dCons (dC .non) dNil))) (dOfL (dListA (dV 0))))) (dOfL (dLst (dCons (dC .non) dNil))))) (gN 2))
    (sRet (dOfL (dLc (dRange (dLen (dV 0))) (gN 3) qYes (dCall sd_seen_between (dCons (dOp fIx (dV 2) (dV 3)) (dCons (dOp fIx (dV 2) (dOp fAdd (dV 3) (dC (.int 1)))) (dCons (dOp fIx (dV 2) (dOp fAdd (dV 3) (dC (.int 2)))) (dCons (dV 1) dNil))))) [3]))))

theorem wide_at (l : List Sgn) (i : Nat) (h : i ≤ l.length + 1) (P : D → Prop) (k : P (optD (if i = 0 then none else l[i - 1]?))) (j : Int) (hj : j = (i : Int)) : atD (([D.non] ++ l.map Sgn.d) ++ [D.non]) j P := by
  subst hj
  unfold atD
  have e : (([D.non] ++ l.map Sgn.d) ++ [D.non])[i]? = some (optD (if i = 0 then none else l[i - 1]?)) := by
    cases i with
    | zero => rfl
    | succ i =>
      rw [if_neg (by omega), Nat.add_sub_cancel]
      show ((D.non :: (l.map Sgn.d)) ++ [D.non])[i + 1]? = _
      rw [List.cons_append, List.getElem?_cons_succ]
      by_cases z : i < l.length
      · rw [List.getElem?_append_left (by rw [List.length_map]; exact z), List.getElem?_map, List.getElem?_eq_getElem z]; rfl
      · have : i = l.length := by omega
        subst this
        rw [List.getElem?_append_right (by rw [List.length_map]; exact Nat.le_refl _), List.length_map, Nat.sub_self, List.getElem?_eq_none (Nat.le_refl _)]; rfl
  rw [atI_nat e]
  exact k
theorem vc_seen_row : ∀ ds P R, sd_seen_row ds P R → t_seen_row (startR ["some", "style", "wide", "at"] ds) ⟨fun _ => P .non, P, fun _ => False, fun _ => False, R⟩ := fun ds P R h => by
  obtain ⟨l, st, rfl, hl, h⟩ := h
  show t_seen_row [.val (.lst (l.map Sgn.d)), .val (styD st), .non, .non] _
  have big : ∀ {n : Nat}, n ≤ 2000 → n ≤ sizeLine := fun h => Nat.le_trans h (by decide)
  refine seq_asg (.lst (([D.non] ++ l.map Sgn.d) ++ [D.non])) (fun P k => ?_) ?_
  · refine ⟨line1, (by rw [List.length_map]; exact big (by simp; omega)), line1, (by rw [List.length_append, List.length_map]; exact big (by simp; omega)), k⟩
  simp only [List.set_cons_succ, List.set_cons_zero]
  refine one_ret (.lst ((seenRow l st).map Sgn.d)) (fun P k => ?_) h
  refine ⟨⟨by omega, by rw [List.length_map]; omega⟩, ?_⟩
  have e : rangeD 0 (((l.map Sgn.d).length : Int)).toNat = (List.range l.length).map fun i : Nat => D.int (0 + (i : Int)) := by
    rw [List.length_map]; rfl
  rw [e]
  refine lc_map (P := fun ds => P (.lst ds)) (fun i : Nat => D.int (0 + (i : Int))) (fun i => (seenB (prevO l i) (l.getD i s0) l[i + 1]? st).d) (List.range l.length) (fun i hi K kk => ?_) ?_
  · have hi := List.mem_range.mp hi
    refine wide_at l i (by omega) _ ?_ _ (by omega)
    refine wide_at l (i + 1) (by omega) _ ?_ _ (by omega)
    refine wide_at l (i + 2) (by omega) _ ?_ _ (by omega)
    rw [if_neg (show ¬ (i + 1 = 0) by omega), if_neg (show ¬ (i + 2 = 0) by omega)]
    have e1 : i + 1 - 1 = i := by omega
    have e2 : i + 2 - 1 = i + 1 := by omega
    rw [e1, e2]
    refine ⟨if i = 0 then none else l[i - 1]?, l.getD i s0, l[i + 1]?, st, ?_, kk⟩
    rw [List.getD_eq_getElem?_getD, List.getElem?_eq_getElem hi]; rfl
  · unfold seenRow at k
    rw [List.map_map] at k
    exact k
@[simp] def sd_shown_row : SpD := fun ds P _ => ∃ (l : List Sgn) (r : List Nat) (st : Bool × Bool), ds = [SsD l, rowD r, styD st] ∧ (∀ i ∈ r, i < l.length) ∧ r.length ≤ 1000 ∧ P (.lst ((shownRow l r st).map Sgn.d))
theorem len_shown_row : ∀ ds P R, sd_shown_row ds P R → ds.length = 3 := fun ds P R h => by obtain ⟨_, _, _, rfl, _⟩ := h; rfl
def t_shown_row : DST :=
    (sRet (dCall sd_seen_row (dCons (dOfL (dLc (dItems (dV 1)) (gN 3) qYes (dOp fIx (dV 0) (dV 3)) [3])) (dCons (dV 2) dNil))))

theorem at_Ss (l : List Sgn) (i : Nat) (h : i < l.length) (P : D → Prop) (k : P (l.getD i s0).d) : atD (l.map Sgn.d) (i : Int) P := by
  unfold atD
  rw [atI_nat (v := (l.getD i s0).d) (by rw [List.getElem?_map, List.getD_eq_getElem?_getD, List.getElem?_eq_getElem h]; rfl)]
  exact k
/-- [signs[number] for number in row] -/
theorem lc_pick {j : Nat} {t : DT} {ρ : Rho} (l : List Sgn) (r : List Nat) (hr : ∀ i ∈ r, i < l.length) (ht : ∀ (i : Nat) (K : D → Prop), atD (l.map Sgn.d) (i : Int) K → t (ρ.set j (.val (natD i))) K (fun _ => False)) {P : List D → Prop} (k : P ((pick l r).map Sgn.d)) :
    lcGo (gN j) qYes t ρ P (r.map natD) [] := by
  refine lc_map natD (fun i => (l.getD i s0).d) r (fun i hi K kk => ht i K (at_Ss l i (hr i hi) K kk)) ?_
  unfold pick at k
  rw [List.map_map] at k
  exact k
theorem vc_shown_row : ∀ ds P R, sd_shown_row ds P R → t_shown_row (startR ["signs", "row", "style", "number"] ds) ⟨fun _ => P .non, P, fun _ => False, fun _ => False, R⟩ := fun ds P R h => by
  obtain ⟨l, r, st, rfl, hr, hl, h⟩ := h
  show t_shown_row [.val (SsD l), .val (rowD r), .val (styD st), .non] _
  refine lc_pick (P := fun ds => sd_seen_row [.lst ds, styD st] (fun d => P d) R) l r hr (fun i K kk => kk) ?_
  exact ⟨pick l r, st, rfl, by unfold pick; rw [List.length_map]; exact hl, h⟩
@[simp] def sd_shown : SpD := fun ds P R => ∃ a b c, ds = [a, b, c] ∧ a.plain = true ∧ b.plain = true ∧ c.plain = true ∧ (areSignsD a = false → R "InvalidSigns") ∧
  ∀ l, okL l = true → a = SsD l → (isRowD l.length b = false → R "InvalidRow") ∧ ∀ r, r.length ≤ 8 → (∀ i ∈ r, i < l.length) → b = rowD r → (isStyD c = false → R "InvalidStyle") ∧
    ∀ st, c = styD st → P (.tup ((shownRow l r st).map Sgn.d))
theorem len_shown : ∀ ds P R, sd_shown ds P R → ds.length = 3 := fun ds P R h => by obtain ⟨_, _, _, rfl, _⟩ := h; rfl
def t_shown : DST :=
    (sSeq (sDrop (dCall sd_check_signs (dCons (dV 0) dNil)))
    (sSeq (sDrop (dCall sd_check_row (dCons (dV 0) (dCons (dV 1) dNil))))
    (sSeq (sDrop (dCall sd_check_style (dCons (dV 2) dNil)))
    (sRet (dTuple (dCall sd_shown_row (dCons (dV 0) (dCons (dV 1) (dCons (dV 2) dNil)))))))))

theorem vc_shown : ∀ ds P R, sd_shown ds P R → t_shown (startR ["signs", "row", "style"] ds) ⟨fun _ => P .non, P, fun _ => False, fun _ => False, R⟩ := fun ds P R h => by
  obtain ⟨a, b, c, rfl, pa, pb, pc, h1, h2⟩ := h
  show t_shown [.val a, .val b, .val c] _
  refine ⟨a, rfl, pa, fun ha => ?_, h1⟩
  obtain ⟨l, ol, rfl⟩ := areSigns_iff.mp ha
  obtain ⟨h3, h4⟩ := h2 l ol rfl
  refine ⟨l, b, rfl, pb, fun hb => ?_, h3⟩
  obtain ⟨r, ⟨r8, rl⟩, rfl⟩ := isRow_iff.mp hb
  obtain ⟨h5, h6⟩ := h4 r r8 rl rfl
  refine ⟨c, rfl, pc, fun hc => ?_, h5⟩
  obtain ⟨st, rfl⟩ := isSty_iff.mp hc
  exact ⟨l, r, st, rfl, rl, by omega, h6 st rfl⟩
@[simp] def sd_glance : SpD := fun ds P _ => ∃ (s : Sgn) (v : List Nat), ds = [s.d, rowD v] ∧ (∀ i ∈ v, i ≤ 4) ∧ P (glD v s)
theorem len_glance : ∀ ds P R, sd_glance ds P R → ds.length = 2 := fun ds P R h => by obtain ⟨_, _, rfl, _⟩ := h; rfl
def t_glance : DST :=
    (sRet (dTuple (dOfL (dLc (dItems (dV 1)) (gN 2) qYes (dOp fIx (dV 0) (dV 2)) [2]))))

theorem fS_ent (s : Sgn) (i : Nat) (h : i ≤ 4) (P : D → Prop) (k : P (ent s i)) : fIx s.d (natD i) P := by
  rcases (by omega : i = 0 ∨ i = 1 ∨ i = 2 ∨ i = 3 ∨ i = 4) with rfl | rfl | rfl | rfl | rfl
  · exact (fS0 s P).mpr k
  · exact (fS1 s P).mpr k
  · exact (fS2 s P).mpr k
  · exact (fS3 s P).mpr k
  · exact (fS4 s P).mpr k
theorem vc_glance : ∀ ds P R, sd_glance ds P R → t_glance (startR ["sign", "view", "thing"] ds) ⟨fun _ => P .non, P, fun _ => False, fun _ => False, R⟩ := fun ds P R h => by
  obtain ⟨s, v, rfl, hv, h⟩ := h
  show t_glance [.val s.d, .val (rowD v), .non] _
  exact lc_map (P := fun ds => P (.tup ds)) natD (ent s) v (fun i hi K k => fS_ent s i (hv i hi) K k) h
@[simp] def sd_glances_of : SpD := fun ds P _ => ∃ (l : List Sgn) (r : List Nat) (st : Bool × Bool) (v : List Nat), ds = [SsD l, rowD r, styD st, rowD v] ∧ (∀ i ∈ r, i < l.length) ∧ r.length ≤ 1000 ∧ (∀ i ∈ v, i ≤ 4) ∧ P (glsD l r st v)
theorem len_glances_of : ∀ ds P R, sd_glances_of ds P R → ds.length = 4 := fun ds P R h => by obtain ⟨_, _, _, _, rfl, _⟩ := h; rfl
def t_glances_of : DST :=
    (sRet (dTuple (dOfL (dLc (dItems (dCall sd_shown_row (dCons (dV 0) (dCons (dV 1) (dCons (dV 2) dNil))))) (gN 4) qYes (dCall sd_glance (dCons (dV 4) (dCons (dV 3) dNil))) [4]))))

theorem vc_glances_of : ∀ ds P R, sd_glances_of ds P R → t_glances_of (startR ["signs", "row", "style", "view", "sign"] ds) ⟨fun _ => P .non, P, fun _ => False, fun _ => False, R⟩ := fun ds P R h => by
  obtain ⟨l, r, st, v, rfl, hr, hl, hv, h⟩ := h
  show t_glances_of [.val (SsD l), .val (rowD r), .val (styD st), .val (rowD v), .non] _
  refine ⟨l, r, st, rfl, hr, hl, ?_⟩
  exact lc_map (P := fun ds => P (.tup ds)) Sgn.d (glD v) (shownRow l r st) (fun s hs K k => ⟨s, v, rfl, hv, k⟩) h
@[simp] def sd_glances : SpD := fun ds P R => ∃ a b c d, ds = [a, b, c, d] ∧ a.plain = true ∧ b.plain = true ∧ c.plain = true ∧ d.plain = true ∧ (areSignsD a = false → R "InvalidSigns") ∧
  ∀ l, okL l = true → a = SsD l → (isRowD l.length b = false → R "InvalidRow") ∧ ∀ r, r.length ≤ 8 → (∀ i ∈ r, i < l.length) → b = rowD r → (isStyD c = false → R "InvalidStyle") ∧
    ∀ st, c = styD st → (isViewD d = false → R "InvalidView") ∧ ∀ v, OkV v → d = rowD v → P (glsD l r st v)
theorem len_glances : ∀ ds P R, sd_glances ds P R → ds.length = 4 := fun ds P R h => by obtain ⟨_, _, _, _, rfl, _⟩ := h; rfl
def t_glances : DST :=
    (sSeq (sDrop (dCall sd_check_signs (dCons (dV 0) dNil)))
    (sSeq (sDrop (dCall sd_check_row (dCons (dV 0) (dCons (dV 1) dNil))))
    (sSeq (sDrop (dCall sd_check_style (dCons (dV 2) dNil)))
    (sSeq (sDrop (dCall sd_check_view (dCons (dV 3) dNil)))
    (sRet (dCall sd_glances_of (dCons (dV 0) (dCons (dV 1) (dCons (dV 2) (dCons (dV 3) dNil))))))))))

theorem vc_glances : ∀ ds P R, sd_glances ds P R → t_glances (startR ["signs", "row", "style", "view"] ds) ⟨fun _ => P .non, P, fun _ => False, fun _ => False, R⟩ := fun ds P R h => by
  obtain ⟨a, b, c, d, rfl, pa, pb, pc, pd, h1, h2⟩ := h
  show t_glances [.val a, .val b, .val c, .val d] _
  refine ⟨a, rfl, pa, fun ha => ?_, h1⟩
  obtain ⟨l, ol, rfl⟩ := areSigns_iff.mp ha
  obtain ⟨h3, h4⟩ := h2 l ol rfl
  refine ⟨l, b, rfl, pb, fun hb => ?_, h3⟩
  obtain ⟨r, ⟨r8, rl⟩, rfl⟩ := isRow_iff.mp hb
  obtain ⟨h5, h6⟩ := h4 r r8 rl rfl
  refine ⟨c, rfl, pc, fun hc => ?_, h5⟩
  obtain ⟨st, rfl⟩ := isSty_iff.mp hc
  obtain ⟨h7, h8⟩ := h6 st rfl
  refine ⟨d, rfl, pd, fun hd => ?_, h7⟩
  obtain ⟨v, hv, rfl⟩ := isView_iff.mp hd
  exact ⟨l, r, st, v, rfl, rl, by omega, hv.le, h8 v hv rfl⟩
end DL
namespace DL
open PySem PySem.Spec PyProof.Rows L2
/-! ### comprehensions that draw -/
theorem lc_sub {α : Type} {i : Nat} {q : DTQ} {t : DT} {ρ : Rho} {P : List D → Prop} (f e : α → D) : ∀ (l acc : List α), (∀ x ∈ l, ∀ K : Bool → Prop, (∀ b, K b) → q (ρ.set i (.val (f x))) K (fun _ => False)) →
    (∀ x ∈ l, ∀ K : D → Prop, K (e x) → t (ρ.set i (.val (f x))) K (fun _ => False)) → (∀ l' : List α, l'.Sublist l → P ((acc ++ l').map e)) → lcGo (gN i) q t ρ P (l.map f) (acc.map e)
  | [], acc, _, _, h => by
    have := h [] (List.Sublist.refl _)
    rw [List.append_nil] at this; exact this
  | x :: l, acc, hq, ht, h => by
    rw [List.map_cons]
    unfold lcGo
    refine hq x (by simp) _ fun b => ?_
    have rest : ∀ acc', (∀ l' : List α, l'.Sublist l → P ((acc' ++ l').map e)) → lcGo (gN i) q t ρ P (l.map f) (acc'.map e) := fun acc' => lc_sub f e l acc' (fun y hy => hq y (List.mem_cons_of_mem _ hy)) (fun y hy => ht y (List.mem_cons_of_mem _ hy))
    cases b with
    | true =>
      rw [if_pos rfl]
      refine ht x (by simp) _ ?_
      have := rest (acc ++ [x]) fun l' hl => by rw [List.append_assoc]; exact h (x :: l') (hl.cons₂ x)
      rw [List.map_append] at this; exact this
    | false =>
      rw [if_neg (by decide)]
      exact rest acc fun l' hl => h l' (hl.cons x)
theorem lc_each {i : Nat} {t : DT} {ρ : Rho} {P : List D → Prop} {β : Type} (S : β → Prop) (e : β → D) : ∀ (ds : List D) (acc : List β), (∀ x ∈ ds, ∀ K : D → Prop, (∀ y, S y → K (e y)) → t (ρ.set i (.val x)) K (fun _ => False)) →
    (∀ l' : List β, l'.length = ds.length → (∀ y ∈ l', S y) → P ((acc ++ l').map e)) → lcGo (gN i) qYes t ρ P ds (acc.map e)
  | [], acc, _, h => by
    have := h [] rfl (fun y z => by cases z)
    rw [List.append_nil] at this; exact this
  | x :: ds, acc, ht, h => by
    unfold lcGo
    show (if true = true then t (ρ.set i (.val x)) (fun y => lcGo (gN i) qYes t ρ P ds (acc.map e ++ [y])) (fun _ => False) else lcGo (gN i) qYes t ρ P ds (acc.map e))
    rw [if_pos rfl]
    refine ht x (by simp) _ fun y hy => ?_
    have := lc_each S e ds (acc ++ [y]) (fun z hz => ht z (List.mem_cons_of_mem _ hz)) fun l' hl hS => by
      rw [List.append_assoc]
      exact h (y :: l') (by simp [hl]) fun z hz => by
        rcases List.mem_cons.mp hz with rfl | hz
        · exact hy
        · exact hS z hz
    rw [List.map_append] at this; exact this
theorem nodup_len {α : Type} [DecidableEq α] : ∀ (l m : List α), l.Nodup → (∀ x ∈ l, x ∈ m) → l.length ≤ m.length
  | [], m, _, _ => Nat.zero_le _
  | x :: l, m, h, k => by
    have hx := k x (by simp)
    have h' := List.nodup_cons.mp h
    have ih := nodup_len l (m.erase x) h'.2 fun y hy => (List.mem_erase_of_ne (fun z => h'.1 (by rw [← z]; exact hy))).mpr (k y (List.mem_cons_of_mem _ hy))
    have e := List.length_erase_of_mem hx
    have p : 0 < m.length := List.length_pos_of_mem hx
    rw [List.length_cons]; omega
theorem sortSg_ok {l : List Sgn} {n : Nat} (h1 : 1 ≤ l.length) (hn : l.length ≤ n) (h2 : n ≤ 6) (h3 : ∀ s ∈ l, s.good = true) : okL (sortSg l) = true ∧ (sortSg l).length ≤ n := by
  have hs := sortSg_sorted l
  have nd : (sortSg l).Nodup := by
    rw [List.pairwise_map] at hs
    exact hs.imp fun {a b} hab e => by rw [e] at hab; exact List.lt_irrefl _ hab
  have le := nodup_len (sortSg l) l nd fun x hx => mem_sortSg.mp hx
  refine ⟨okL_of ?_ (by omega) (fun s hs => h3 s (mem_sortSg.mp hs)) hs, by omega⟩
  cases l with
  | nil => simp at h1
  | cons x r => exact List.length_pos_of_mem (mem_sortSg.mpr (List.mem_cons_self (a := x) (l := r)))
/-! ### what the laws draw -/
@[simp] def sd_law_signs : SpD := fun ds P _ => ∃ n : Nat, ds = [.scr, .town, .int (n : Int)] ∧ (1 ≤ n ∧ n ≤ 6) ∧ ∀ l, okL l = true → l.length ≤ n → P (SsD l)
theorem len_law_signs : ∀ ds P R, sd_law_signs ds P R → ds.length = 3 := fun ds P R h => by obtain ⟨_, rfl, _⟩ := h; rfl
def t_law_signs : DST :=
    (sSeq (sNew 3 (dLst (dCons (dCall sd_law_sign (dCons (dV 0) (dCons (dV 1) dNil))) dNil)))
    (sSeq (sFor (dRange (dCall sd_law_draw (dCons (dV 0) (dCons (dV 1) (dCons (dV 2) dNil))))) (gN 4)
      (sIf (qV (dOp (fII fun i j => .bl (decide (j < i))) (dCall sd_law_draw (dCons (dV 0) (dCons (dV 1) (dCons (dC (.int 4)) dNil)))) (dC (.int 0))))
        (sApp 3 (dCall sd_law_near (dCons (dV 0) (dCons (dV 1) (dCons (dOp fIx (dVB 3) (dCall sd_law_draw (dCons (dV 0) (dCons (dV 1) (dCons (dLen (dVB 3)) dNil))))) dNil)))))
        (sApp 3 (dCall sd_law_sign (dCons (dV 0) (dCons (dV 1) dNil))))))
    (sGive 3 (sSeq (sAsg (dDctP (dOfL (dLc (dItems (dV 3)) (gN 6) qYes (dTup (dCons (dCall sd_law_written (dCons (dV 6) dNil)) (dCons (dV 6) dNil))) [6]))) (gN 5))
    (sRet (dTuple (dOfL (dLc (dItems (dOfL (dSrtD (dV 5)))) (gN 7) qYes (dOp fDget (dV 5) (dV 7)) [7]))))))))

theorem vc_law_signs : ∀ ds P R, sd_law_signs ds P R → t_law_signs (startR ["_law_script", "_law_town", "_law_most", "_law_found", "_law_k", "_law_known", "_law_one", "_law_text"] ds) ⟨fun _ => P .non, P, fun _ => False, fun _ => False, R⟩ := fun ds P R h => by
  obtain ⟨n, rfl, hn, h⟩ := h
  show t_law_signs [.val .scr, .val .town, .val (.int n), .non, .non, .non, .non, .non] _
  refine ⟨rfl, fun s gs => ⟨line1, ?_⟩⟩
  simp only [List.set_cons_succ, List.set_cons_zero]
  refine ⟨(n : Int), rfl, ⟨by omega, by omega⟩, fun j j0 j1 => ⟨⟨j0, by omega⟩, ?_⟩⟩
  have hr : rangeD 0 j.toNat = (List.range j.toNat).map fun i : Nat => D.int (0 + (i : Int)) := rfl
  rw [hr]
  refine for_inv (fun i : Nat => D.int (0 + (i : Int))) (fun pre ρ => ∃ (l : List Sgn) (x4 : Sl), ρ = [.val .scr, .val .town, .val (.int n), .own (l.map Sgn.d), x4, .non, .non, .non] ∧ l.length = pre.length + 1 ∧ ∀ s ∈ l, s.good = true) (List.range j.toNat) [] _ ⟨[s], _, rfl, rfl, by simp [gs]⟩ ?_ ?_
  · rintro pre i post _ N hl ⟨l, x4, rfl, hlen, hg⟩ hN
    have hpre : pre.length < j.toNat := by
      have := congrArg List.length hl
      simp at this; omega
    have app : ∀ t : Sgn, t.good = true → l.map Sgn.d ++ [t.d] = (l ++ [t]).map Sgn.d ∧ (l ++ [t]).length = (pre ++ [i]).length + 1 ∧ ∀ s ∈ l ++ [t], s.good = true := fun t gt => by
      refine ⟨by simp, by simp [hlen], fun s hs => ?_⟩
      rcases List.mem_append.mp hs with hs | hs
      · exact hg s hs
      · rw [List.mem_singleton.mp hs]; exact gt
    have lt : (l.map Sgn.d).length < sizeLine := by
      rw [List.length_map]
      exact Nat.lt_of_le_of_lt (show l.length ≤ 10 by omega) (by decide)
    simp only [List.set_cons_succ, List.set_cons_zero]
    refine ⟨4, rfl, ⟨by decide, by decide⟩, fun d d0 d1 => ?_⟩
    show (if decide ((0 : Int) < d) = true then _ else _)
    split
    · refine ⟨((l.map Sgn.d).length : Nat), rfl, ⟨by rw [List.length_map]; omega, by rw [List.length_map]; omega⟩, fun m m0 m1 => ?_⟩
      obtain ⟨k, rfl⟩ := Int.eq_ofNat_of_zero_le m0
      rw [List.length_map] at m1
      have hk : k < l.length := by omega
      refine at_Ss l k hk _ ⟨l.getD k s0, rfl, ?_, fun t gt => ⟨lt, ?_⟩⟩
      · rw [List.getD_eq_getElem?_getD, List.getElem?_eq_getElem hk]
        exact hg _ (List.getElem_mem hk)
      · obtain ⟨a1, a2, a3⟩ := app t gt
        exact hN _ ⟨l ++ [t], _, by rw [← a1]; rfl, a2, a3⟩
    · refine ⟨rfl, fun t gt => ⟨lt, ?_⟩⟩
      obtain ⟨a1, a2, a3⟩ := app t gt
      exact hN _ ⟨l ++ [t], _, by rw [← a1]; rfl, a2, a3⟩
  · rintro _ ⟨l, x4, rfl, hlen, hg⟩
    have hl1 : l.length ≤ n := by
      rw [hlen, List.nil_append, List.length_range]; omega
    dsimp only
    refine give_at rfl ?_
    simp only [List.set_cons_succ, List.set_cons_zero]
    refine seq_any (fun d => ∃ l' : List Sgn, l'.Nodup ∧ (∀ t, t ∈ l' ↔ t ∈ l) ∧ l'.length ≤ l.length ∧ d = .dct (l'.map Sgn.txt) (l'.map Sgn.d)) (fun K hK => ?_) ?_
    · refine lc_map (P := fun ds => dctP K (.lst ds)) Sgn.d (fun s => .tup [.str s.txt, s.d]) l (fun s _ K h => ?_) ?_
      · exact ⟨s, rfl, line2, h⟩
      · exact dct_kv l fun l' n m le => hK _ ⟨l', n, m, le, rfl⟩
    rintro _ ⟨l', nd, m, le, rfl⟩
    simp only [List.set_cons_succ, List.set_cons_zero]
    obtain ⟨k1, k2⟩ := sortSg_ok (n := n) (by omega) hl1 hn.2 hg
    refine one_ret (SsD (sortSg l)) (fun K k => ?_) (h _ k1 k2)
    change srtP (fun ds => lcGo (gN 7) qYes (dOp fDget (dV 5) (dV 7)) _ _ ds []) (.dct (l'.map Sgn.txt) (l'.map Sgn.d))
    refine srt_kv nd (by omega) _ ?_
    rw [List.map_map, sortSg_congr m]
    refine lc_map (D.str ∘ Sgn.txt) Sgn.d (sortSg l) (fun t ht K h => ?_) k
    show (match lookD (l'.map Sgn.txt) (l'.map Sgn.d) t.txt with | some d => K d | none => False)
    rw [look_kv ((m t).mpr (mem_sortSg.mp ht))]
    exact h
@[simp] def sd_law_view : SpD := fun ds P _ => ds = [.scr, .town] ∧ ∀ v, OkV v → P (rowD v)
theorem len_law_view : ∀ ds P R, sd_law_view ds P R → ds.length = 2 := fun ds P R h => by obtain ⟨rfl, _⟩ := h; rfl
def t_law_view : DST :=
    (sRet (dTuple (dOfL (dLc (dRange (dC (.int 5))) (gN 2) (qV (dOp (fII fun i j => .bl (decide (j < i))) (dCall sd_law_draw (dCons (dV 0) (dCons (dV 1) (dCons (dC (.int 3)) dNil)))) (dC (.int 0)))) (dV 2) [2]))))

theorem vc_law_view : ∀ ds P R, sd_law_view ds P R → t_law_view (startR ["_law_script", "_law_town", "_law_thing"] ds) ⟨fun _ => P .non, P, fun _ => False, fun _ => False, R⟩ := fun ds P R h => by
  obtain ⟨rfl, h⟩ := h
  show t_law_view [.val .scr, .val .town, .non] _
  refine ⟨⟨by decide, by decide⟩, ?_⟩
  refine lc_sub (P := fun ds => P (.tup ds)) natD natD [0, 1, 2, 3, 4] [] (fun x _ K k => ⟨3, rfl, ⟨by decide, by decide⟩, fun d _ _ => k _⟩) (fun x _ K k => k) (fun v hv => h v ⟨fun i hi => ?_, ?_⟩)
  · have := hv.subset hi
    simp at this; omega
  · exact List.Pairwise.sublist hv (by decide)
@[simp] def sd_law_style : SpD := fun ds P _ => ds = [.scr, .town] ∧ ∀ st, P (styD st)
theorem len_law_style : ∀ ds P R, sd_law_style ds P R → ds.length = 2 := fun ds P R h => by obtain ⟨rfl, _⟩ := h; rfl
def t_law_style : DST :=
    (sRet (dTup (dCons (dOp fEq (dCall sd_law_draw (dCons (dV 0) (dCons (dV 1) (dCons (dC (.int 2)) dNil)))) (dC (.int 0))) (dCons (dOp fEq (dCall sd_law_draw (dCons (dV 0) (dCons (dV 1) (dCons (dC (.int 2)) dNil)))) (dC (.int 0))) dNil))))

theorem vc_law_style : ∀ ds P R, sd_law_style ds P R → t_law_style (startR ["_law_script", "_law_town"] ds) ⟨fun _ => P .non, P, fun _ => False, fun _ => False, R⟩ := fun ds P R h => by
  obtain ⟨rfl, h⟩ := h
  refine ⟨2, rfl, ⟨by decide, by decide⟩, fun i _ _ => ⟨shp_int _, shp_int _, 2, rfl, ⟨by decide, by decide⟩, fun j _ _ => ⟨shp_int _, shp_int _, line2, ?_⟩⟩⟩
  exact h (eqD (.int i) (.int 0), eqD (.int j) (.int 0))
@[simp] def sd_law_line : SpD := fun ds P _ => ∃ m n : Nat, ds = [.scr, .town, .int (m : Int), .int (n : Int)] ∧ (1 ≤ m ∧ m ≤ 100) ∧ n ≤ 100 ∧ ∀ r : List Nat, r.length ≤ n → (∀ i ∈ r, i < m) → P (rowD r)
theorem len_law_line : ∀ ds P R, sd_law_line ds P R → ds.length = 4 := fun ds P R h => by obtain ⟨_, _, rfl, _⟩ := h; rfl
def t_law_line : DST :=
    (sRet (dTuple (dOfL (dLc (dRange (dCall sd_law_draw (dCons (dV 0) (dCons (dV 1) (dCons (dOp fAdd (dV 3) (dC (.int 1))) dNil))))) (gN 4) qYes (dCall sd_law_draw (dCons (dV 0) (dCons (dV 1) (dCons (dV 2) dNil)))) [4]))))

theorem vc_law_line : ∀ ds P R, sd_law_line ds P R → t_law_line (startR ["_law_script", "_law_town", "_law_many", "_law_most", "_law_k"] ds) ⟨fun _ => P .non, P, fun _ => False, fun _ => False, R⟩ := fun ds P R h => by
  obtain ⟨m, n, rfl, hm, hn, h⟩ := h
  show t_law_line [.val .scr, .val .town, .val (.int m), .val (.int n), .non] _
  refine ⟨(n : Int) + 1, rfl, ⟨by omega, by omega⟩, fun j j0 j1 => ⟨⟨j0, by omega⟩, ?_⟩⟩
  refine lc_each (P := fun ds => P (.tup ds)) (fun i : Nat => i < m) natD _ [] (fun x _ K k => ⟨(m : Int), rfl, ⟨by omega, by omega⟩, fun i i0 i1 => ?_⟩) (fun r hr hS => h r ?_ hS)
  · obtain ⟨i, rfl⟩ := Int.eq_ofNat_of_zero_le i0
    exact k i (by omega)
  · rw [hr, rangeD_len]; omega
/-! ### what is seen, by the laws' own code -/
theorem range_split {n : Nat} {pre post : List Nat} {i : Nat} (h : [] ++ List.range n = pre ++ i :: post) : i = pre.length ∧ pre.length < n := by
  rw [List.nil_append] at h
  have hl : pre.length < n := by
    have := congrArg List.length h
    simp at this; omega
  have e : (List.range n)[pre.length]? = some i := by rw [h]; simp
  rw [List.getElem?_range hl] at e
  exact ⟨(Option.some.inj e).symm, hl⟩
theorem app_if {q : DTQ} {i : Nat} {t : DT} {u : DST} {ρ : Rho} {De : DEnds} {ds es : List D} (b : Bool) (hq : ∀ P : Bool → Prop, P b → q ρ P De.xc) (e : ρ[i]? = some (.own ds)) (hb : b = false → es = []) (ht : b = true → ∃ d, es = [d] ∧ ∀ P : D → Prop, P d → t ρ P De.xc) (l : ds.length < sizeLine)
    (k : u (ρ.set i (.own (ds ++ es))) De) : sSeq (sIf q (sApp i t) sNext) u ρ De := by
  refine seq_if b hq (fun z => ?_) (fun z => ?_)
  · obtain ⟨d, rfl, h⟩ := ht z
    exact seq_app e h l k
  · refine seq_next ?_
    rw [hb z, List.append_nil] at k
    have e2 : ρ.set i (.own ds) = ρ := by
      obtain ⟨h1, h2⟩ := List.getElem?_eq_some_iff.mp e
      rw [← h2, List.set_getElem_self]
    rw [e2] at k; exact k
def cand (on : Bool) : Option Sgn → List Sec
  | some t => if on then [t.sc] else []
  | none => []
def goodH (s : Sgn) : Sec → Bool
  | .hand a b => goTog s.sh s.mv (.hand a b)
  | _ => false
theorem cand_take (s : Sgn) (on : Bool) (o : Option Sgn) : (cand on o).filter (goodH s) = (takeH s on o).toList := by
  cases o with
  | none => rfl
  | some t =>
    cases on with
    | false => cases e : t.sc <;> simp [cand, takeH, e]
    | true =>
      cases e : t.sc with
      | non => simp [cand, takeH, goodH, e]
      | m => simp [cand, takeH, goodH, e]
      | hand a b =>
        cases g : goTog s.sh s.mv (.hand a b) <;> simp [cand, takeH, goodH, e, g]
theorem seen_hands (b : Option Sgn) (s : Sgn) (a : Option Sgn) (st : Bool × Bool) (h : s.sc = .non) : seenB b s a st = match ((cand st.1 b ++ cand st.2 a).filter (goodH s)).head? with | some q => { s with sc := q } | none => s := by
  rw [List.filter_append, cand_take, cand_take]
  unfold seenB
  rw [if_pos h]
  cases takeH s st.1 b with
  | some q => rfl
  | none =>
    cases takeH s st.2 a <;> rfl
theorem shp_Secs (l : List Sec) : shp (.lst (l.map Sec.d)) = true := (shn_lst (n := 1) (fun d h => by
  obtain ⟨q, _, rfl⟩ := List.mem_map.mp h
  exact shn_Sc q)).shp
theorem in3 (a : Shp) (b : Trn) (s : Sgn) (K : Bool → Prop) (k : K (goodH s (.hand a b))) : [D.str "a", D.str "b", D.str s.sh.s].length ≤ sizeLine ∧ shp (.str a.s) = true ∧ shp (.tup [.str "a", .str "b", .str s.sh.s]) = true ∧ K (inL (.str a.s) [.str "a", .str "b", .str s.sh.s]) := by
  have e : inL (.str a.s) [.str "a", .str "b", .str s.sh.s] = goodH s (.hand a b) := by
    generalize hh : s.sh = h
    simp only [goodH, goTog, hh]
    cases a <;> cases h <;> decide +kernel
  have e2 : shp (.tup [.str "a", .str "b", .str s.sh.s]) = true := by
    generalize s.sh = h
    cases h <;> decide +kernel
  rw [e]; exact ⟨line3, by cases a <;> decide +kernel, e2, k⟩
theorem one_asg {t : DT} {i : Nat} {ρ : Rho} {De : DEnds} (d : D) (h : ∀ P : D → Prop, P d → t ρ P De.xc) (k : De.nx (ρ.set i (.val d))) : sAsg t (gN i) ρ De := h _ k
@[simp] def sd_law_shown : SpD := fun ds P _ => ∃ (l : List Sgn) (st : Bool × Bool), ds = [.lst (l.map Sgn.d), styD st] ∧ l.length ≤ 1000 ∧ P (.tup ((seenRow l st).map Sgn.d))
theorem len_law_shown : ∀ ds P R, sd_law_shown ds P R → ds.length = 2 := fun ds P R h => by obtain ⟨_, _, rfl, _⟩ := h; rfl
def t_law_shown : DST :=
    (sSeq (sAsg (dTup dNil) (gN 2))
    (sSeq (sFor (dRange (dLen (dV 0))) (gN 3)
      (sSeq (sParO 4 5 (dOp fIx (dV 0) (dV 3)) (dLst dNil))
      (sSeq (sIf (qAnd (qV (dOp fIx (dV 1) (dC (.int 0)))) (qV (dOp (fII fun i j => .bl (decide (j < i))) (dV 3) (dC (.int 0)))))
        (sApp 5 (dOp fIx (dOp fIx (dV 0) (dOp (fII fun i j => .int (i - j)) (dV 3) (dC (.int 1)))) (dC (.int 4))))
        sNext)
      (sSeq (sIf (qAnd (qV (dOp fIx (dV 1) (dC (.int 1)))) (qV (dOp fLt (dOp fAdd (dV 3) (dC (.int 1))) (dLen (dV 0)))))
        (sApp 5 (dOp fIx (dOp fIx (dV 0) (dOp fAdd (dV 3) (dC (.int 1)))) (dC (.int 4))))
        sNext)
      (sSeq (sIf (qV (dOp fIsN (dOp fIx (dV 4) (dC (.int 4))) (dC .non)))
        (sGive 5 (sSeq (sAsgL 6 (dLc (dItems (dV 5)) (gN 7) (qAnd (qV (dIsT isTupD (dV 7))) (qV (dOp (fIn false) (dOp fIx (dV 7) (dC (.int 0))) (dTup (dCons (dC (.str "a")) (dCons (dC (.str "b")) (dCons (dOp fIx (dV 4) (dC (.int 0))) dNil))))))) (dV 7) [7]))
        (sIf (qV (dOp fNe (dV 6) (dOfL (dLst dNil))))
          (sAsg (dOp fAdd (dSl (dV 4) dNoP (dP (dC (.int 4)))) (dTup (dCons (dOp fIx (dV 6) (dC (.int 0))) dNil))) (gN 4))
          sNext)))
        sNext)
      (sAsg (dOp fAdd (dV 2) (dTup (dCons (dV 4) dNil))) (gN 2)))))))
    (sRet (dV 2))))

theorem vc_law_shown : ∀ ds P R, sd_law_shown ds P R → t_law_shown (startR ["_law_some", "_law_way", "_law_found", "_law_at", "_law_here", "_law_hands", "_law_good_here", "_law_hand"] ds) ⟨fun _ => P .non, P, fun _ => False, fun _ => False, R⟩ := fun ds P R h => by
  obtain ⟨l, st, rfl, hl, h⟩ := h
  show t_law_shown [.val (.lst (l.map Sgn.d)), .val (styD st), .non, .non, .non, .non, .non, .non] _
  refine seq_asg (.tup []) (fun P k => ⟨line0, k⟩) ?_
  simp only [List.set_cons_succ, List.set_cons_zero]
  have hr : rangeD 0 (((l.map Sgn.d).length : Int)).toNat = (List.range l.length).map fun i : Nat => D.int (0 + (i : Int)) := by
    rw [List.length_map]; rfl
  refine seq_for ((List.range l.length).map fun i : Nat => D.int (0 + (i : Int))) (fun P k => ⟨⟨by omega, by rw [List.length_map]; omega⟩, by rw [hr]; exact k⟩) ?_
  refine for_inv (fun i : Nat => D.int (0 + (i : Int))) (fun pre ρ => ∃ x3 x4 x5 x6 x7 : Sl, ρ = [.val (.lst (l.map Sgn.d)), .val (styD st), .val (.tup (((seenRow l st).take pre.length).map Sgn.d)), x3, x4, x5, x6, x7]) (List.range l.length) [] _ ⟨_, _, _, _, _, rfl⟩ ?_ ?_
  · rintro pre i post _ N hp ⟨x3, x4, x5, x6, x7, rfl⟩ hN
    obtain ⟨rfl, hi⟩ := range_split hp
    generalize hi' : pre.length = i at hi
    have i0 : (0 : Int) + (i : Int) = (i : Int) := by omega
    simp only [List.set_cons_succ, List.set_cons_zero]
    rw [i0]
    generalize hs : l.getD i s0 = s
    have ss : s.d = (l.getD i s0).d := by rw [hs]
    refine seq_parO s.d [] (fun P k => ?_) (fun P k => ⟨line0, k⟩) ?_
    · exact at_Ss l i hi P (by rw [hs]; exact k)
    simp only [List.set_cons_succ, List.set_cons_zero]
    have big : ∀ n : Nat, n ≤ 5 → n < sizeLine := fun n h => Nat.lt_of_le_of_lt h (by decide)
    refine app_if (i := 5) (es := (cand st.1 (prevO l i)).map Sec.d) (st.1 && decide (0 < i)) (fun P k => ?_) rfl (fun z => ?_) (fun z => ?_) (by decide) ?_
    · have e1 : decide ((0 : Int) < (i : Int)) = decide (0 < i) := by rw [decide_eq_decide]; omega
      cases q : st.1 with
      | false => rw [q] at k; simp [styD, q]; exact k
      | true =>
        rw [q, Bool.true_and] at k
        simp [styD, q]
        exact k
    · unfold prevO
      cases q : st.1 with
      | false => split <;> first | rfl | (cases l[i - 1]? <;> rfl)
      | true =>
        rw [q, Bool.true_and, decide_eq_false_iff_not] at z
        rw [if_pos (by omega)]; rfl
    · rw [Bool.and_eq_true, decide_eq_true_eq] at z
      obtain ⟨z1, z2⟩ := z
      have hk : i - 1 < l.length := by omega
      refine ⟨(l.getD (i - 1) s0).sc.d, ?_, fun P k => ?_⟩
      · unfold prevO
        rw [if_neg (by omega), List.getD_eq_getElem?_getD, List.getElem?_eq_getElem hk, z1]; rfl
      · have e2 : (i : Int) - 1 = ((i - 1 : Nat) : Int) := by omega
        show atD (l.map Sgn.d) ((i : Int) - 1) _
        rw [e2]
        exact at_Ss l (i - 1) hk _ ((fS4 (l.getD (i - 1) s0) P).mpr k)
    simp only [List.set_cons_succ, List.set_cons_zero]
    refine app_if (i := 5) (es := (cand st.2 l[i + 1]?).map Sec.d) (st.2 && decide (i + 1 < l.length)) (fun P k => ?_) rfl (fun z => ?_) (fun z => ?_) ?_ ?_
    · have e1 : decide (((i : Int) + 1) < (l.length : Int)) = decide (i + 1 < l.length) := by rw [decide_eq_decide]; omega
      cases q : st.2 with
      | false => rw [q] at k; simp [styD, q]; exact k
      | true =>
        rw [q, Bool.true_and] at k
        simp [styD, q]
        rw [e1]; exact k
    · cases q : st.2 with
      | false => cases l[i + 1]? <;> rfl
      | true =>
        rw [q, Bool.true_and, decide_eq_false_iff_not] at z
        rw [List.getElem?_eq_none (by omega)]; rfl
    · rw [Bool.and_eq_true, decide_eq_true_eq] at z
      obtain ⟨z1, z2⟩ := z
      refine ⟨(l.getD (i + 1) s0).sc.d, ?_, fun P k => ?_⟩
      · rw [List.getD_eq_getElem?_getD, List.getElem?_eq_getElem z2, z1]; rfl
      · show atD (l.map Sgn.d) ((i : Int) + 1) _
        have e2 : (i : Int) + 1 = ((i + 1 : Nat) : Int) := by omega
        rw [e2]
        exact at_Ss l (i + 1) z2 _ ((fS4 (l.getD (i + 1) s0) P).mpr k)
    · rw [List.nil_append, List.length_map]
      refine big _ ?_
      cases prevO l i with
      | none => exact Nat.zero_le _
      | some t => unfold cand; cases st.1 <;> exact of_decide_eq_true rfl
    simp only [List.set_cons_succ, List.set_cons_zero]
    rw [List.nil_append, ← List.map_append]
    generalize hc : cand st.1 (prevO l i) ++ cand st.2 l[i + 1]? = hs2
    have tk : (seenRow l st).take (i + 1) = (seenRow l st).take i ++ [seenB (prevO l i) s l[i + 1]? st] := by
      have e : (seenRow l st)[i]? = some (seenB (prevO l i) s l[i + 1]? st) := by
        unfold seenRow
        rw [List.getElem?_map, List.getElem?_range hi, Option.map_some, hs]
      rw [List.take_succ, e]; rfl
    have fin : ∀ (De : DEnds) (d : D) (y5 y6 y7 : Sl), d = (seenB (prevO l i) s l[i + 1]? st).d → De.nx = N → sAsg (dOp fAdd (dV 2) (dTup (dCons (dV 4) dNil))) (gN 2) [.val (.lst (l.map Sgn.d)), .val (styD st), .val (.tup (((seenRow l st).take i).map Sgn.d)), .val (.int (i : Int)), .val d, y5, y6, y7] De := fun De d y5 y6 y7 hd0 hd => by
      subst hd0
      refine ⟨line1, ?_, ?_⟩
      · rw [List.length_map, List.length_take]
        exact Nat.le_trans (show min i (seenRow l st).length + 1 ≤ 2000 by rw [seenRow_len]; omega) (by decide)
      · show De.nx _
        rw [hd]
        have tk2 : ((seenRow l st).take (pre ++ [pre.length]).length).map Sgn.d = ((seenRow l st).take i).map Sgn.d ++ [(seenB (prevO l i) s l[i + 1]? st).d] := by
          rw [List.length_append, List.length_singleton, hi', tk, List.map_append]
          rfl
        exact hN _ ⟨.val (.int i), .val _, y5, y6, y7, by rw [tk2]; rfl⟩
    have same : s.sc ≠ .non → seenB (prevO l i) s l[i + 1]? st = s := fun z => by unfold seenB; rw [if_neg z]
    cases hq : s.sc with
    | m =>
      refine seq_if false (fun P k => ?_) (fun z => by cases z) (fun _ => ?_)
      · simp [hq, Sec.d]; exact k
      refine seq_next ?_
      refine fin _ _ _ _ _ ?_ ?_
      · rw [same (by rw [hq]; decide)]
      · rfl
    | hand a b =>
      refine seq_if false (fun P k => ?_) (fun z => by cases z) (fun _ => ?_)
      · simp [hq, Sec.d]; exact k
      refine seq_next ?_
      refine fin _ _ _ _ _ ?_ ?_
      · rw [same (by rw [hq]; simp)]
      · rfl
    | non =>
      have hsh := seen_hands (prevO l i) s l[i + 1]? st hq
      rw [hc] at hsh
      refine seq_if true (fun P k => ?_) (fun _ => ?_) (fun z => by cases z)
      · simp [hq, Sec.d]; exact k
      refine give_at rfl ?_
      simp only [List.set_cons_succ, List.set_cons_zero]
      refine seq_asgL ((hs2.filter (goodH s)).map Sec.d) (fun P k => ?_) ?_
      · refine lc_gen Sec.d (goodH s) Sec.d hs2 (fun q _ K k => ?_) (fun q _ _ K k => k) k
        cases q with
        | non => exact k
        | m => exact k
        | hand a b => exact (in3 a b s (fun z => K z) k)
      simp only [List.set_cons_succ, List.set_cons_zero]
      cases hf : hs2.filter (goodH s) with
      | nil =>
        rw [hf] at hsh
        refine one_if false (fun P k => ?_) (fun z => by cases z) (fun _ => ?_)
        · exact ⟨line0, by decide, by decide, k⟩
        refine fin _ _ _ _ _ ?_ ?_
        · rw [hsh]; rfl
        · rfl
      | cons q r =>
        rw [hf] at hsh
        refine one_if true (fun P k => ?_) (fun _ => ?_) (fun z => by cases z)
        · exact ⟨line0, shp_Secs (q :: r), by decide, k⟩
        refine one_asg (Sgn.d { s with sc := q }) (fun P k => ?_) ?_
        · have e0 : atI ((q :: r).map Sec.d) 0 = some q.d := atI_nat (j := 0) rfl
          show atD ((q :: r).map Sec.d) 0 _
          unfold atD
          rw [e0]
          exact ⟨line1, line5, k⟩
        simp only [List.set_cons_succ, List.set_cons_zero]
        refine fin _ _ _ _ _ ?_ ?_
        · rw [hsh]; rfl
        · rfl
  · rintro _ ⟨x3, x4, x5, x6, x7, rfl⟩
    rw [List.nil_append, List.length_range, ← seenRow_len l st, List.take_length]
    exact h
@[simp] def sd_law_glances : SpD := fun ds P _ => ∃ (l : List Sgn) (r : List Nat) (st : Bool × Bool) (v : List Nat), ds = [SsD l, rowD r, styD st, rowD v] ∧ (∀ i ∈ r, i < l.length) ∧ r.length ≤ 1000 ∧ (∀ i ∈ v, i ≤ 4) ∧ P (glsD l r st v)
theorem len_law_glances : ∀ ds P R, sd_law_glances ds P R → ds.length = 4 := fun ds P R h => by obtain ⟨_, _, _, _, rfl, _⟩ := h; rfl
def t_law_glances : DST :=
    (sSeq (sAsg (dCall sd_law_shown (dCons (dOfL (dLc (dItems (dV 1)) (gN 5) qYes (dOp fIx (dV 0) (dV 5)) [5])) (dCons (dV 2) dNil))) (gN 4))
    (sRet (dTuple (dOfL (dLc (dItems (dV 4)) (gN 6) qYes (dTuple (dOfL (dLc (dItems (dV 3)) (gN 7) qYes (dOp fIx (dV 6) (dV 7)) [7]))) [6])))))

theorem vc_law_glances : ∀ ds P R, sd_law_glances ds P R → t_law_glances (startR ["_law_all_of", "_law_numbers", "_law_way", "_law_things", "_law_seen", "_law_number", "_law_one", "_law_thing"] ds) ⟨fun _ => P .non, P, fun _ => False, fun _ => False, R⟩ := fun ds P R h => by
  obtain ⟨l, r, st, v, rfl, hr, hl, hv, h⟩ := h
  show t_law_glances [.val (SsD l), .val (rowD r), .val (styD st), .val (rowD v), .non, .non, .non, .non] _
  refine seq_asg (.tup ((shownRow l r st).map Sgn.d)) (fun P k => ?_) ?_
  · refine lc_pick (P := fun ds => sd_law_shown [.lst ds, styD st] P R) l r hr (fun i K kk => kk) ?_
    exact ⟨pick l r, st, rfl, by unfold pick; rw [List.length_map]; exact hl, k⟩
  simp only [List.set_cons_succ, List.set_cons_zero]
  refine one_ret (glsD l r st v) (fun P k => ?_) h
  refine lc_map (P := fun ds => P (.tup ds)) Sgn.d (glD v) (shownRow l r st) (fun s hs K k => ?_) k
  exact lc_map (P := fun ds => K (.tup ds)) natD (ent s) v (fun i hi K k => fS_ent s i (hv i hi) K k) k
end DL
namespace DL
open PySem PySem.Spec PyProof.Rows L2
/-! ### errors told; glances are data -/
theorem for_odds {i : Nat} {s : DST} {De : DEnds} (I : Rho → Prop) : ∀ (ds : List D) (ρ : Rho), I ρ → (∀ d ∈ ds, ∀ ρ, I ρ → ∀ N : Rho → Prop, (∀ ρ', I ρ' → N ρ') → s (ρ.set i (.val d)) { De with nx := N, ct := N, bk := De.nx }) → (∀ ρ, I ρ → De.nx ρ) → forGo (gN i) s De ds ρ
  | [], ρ, h0, _, he => he ρ h0
  | d :: ds, ρ, h0, hs, he => go_cons (hs d (by simp) ρ h0 _ fun ρ' h' => for_odds I ds ρ' h' (fun x hx => hs x (List.mem_cons_of_mem _ hx)) he)
def codeIs (c : Str) : Prop := shp (.tup [.str c]) = true ∧ eqD (.tup [.str c]) (.tup [.str c]) = true
theorem codeAll : codeIs "all" := by constructor <;> decide +kernel
theorem codeLine : codeIs "line" := by constructor <;> decide +kernel
theorem codeWay : codeIs "way" := by constructor <;> decide +kernel
theorem codeThings : codeIs "things" := by constructor <;> decide +kernel
theorem ne_code {c : Str} (h : codeIs c) {K : Bool → Prop} (k : K false) : [D.str c].length ≤ sizeLine ∧ fNe (.tup [.str c]) (.tup [.str c]) (isB K) := ⟨line1, h.1, h.1, by rw [h.2]; exact k⟩
/-- _law_result(lambda: t) != (c,) is False -/
theorem ne_res {t : DT} {c nm : Str} {ρ : Rho} {R0 : RX} (hc : codeIs c) (hn : exCode nm = some c) (h : ∀ (P : D → Prop) (R : RX), R nm → t (ρ.map noOwn) P R) {K : Bool → Prop} (k : K false) : qV (dOp fNe (dRes t) (dTup (dCons (dC (.str c)) dNil))) ρ K R0 := by
  refine h _ _ ?_
  dsimp only
  rw [hn]
  exact ne_code hc k
theorem okL_app {l : List Sgn} (h : okL l = true) : okL (l ++ l) = false := by
  cases q : okL (l ++ l) with
  | false => rfl
  | true =>
    have nd := okL_nodup q
    have l1 := (okL_len h).1
    cases l with
    | nil => simp at l1
    | cons x r => exact absurd rfl ((List.nodup_append.mp nd).2.2 x (by simp) x (by simp))
theorem okL_rev {l : List Sgn} (h : okL l = true) (h2 : 1 < l.length) : okL l.reverse = false := by
  cases q : okL l.reverse with
  | false => rfl
  | true =>
    unfold okL at h q
    simp only [Bool.and_eq_true] at h q
    have p1 := asc_pw h.2.2
    have p2 := asc_pw q.2.2
    match l, h2 with
    | x :: y :: r, _ =>
      rw [List.map_cons, List.map_cons] at p1
      have a := (List.pairwise_cons.mp p1).1 y.key (by simp)
      rw [List.map_reverse, List.pairwise_reverse, List.map_cons, List.map_cons] at p2
      have b := (List.pairwise_cons.mp p2).1 y.key (by simp)
      exact absurd (List.lt_trans a b) (List.lt_irrefl _)
theorem areSigns_Ss (l : List Sgn) : areSignsD (.tup (l.map Sgn.d)) = okL l := by
  rw [Bool.eq_iff_iff]
  constructor
  · intro h
    obtain ⟨m, hm, e⟩ := areSigns_iff.mp h
    rw [SsD_inj (l := l) (m := m) e]; exact hm
  · intro h
    exact areSigns_iff.mpr ⟨l, h, rfl⟩
theorem shn_ent (s : Sgn) (i : Nat) : shn 1 (ent s i) := by
  unfold ent
  split
  · exact (shn_Sh _).mono (by decide)
  · exact (shn_Tn _).mono (by decide)
  · exact (shn_Mv _).mono (by decide)
  · exact (shn_int _).mono (by decide)
  · exact shn_Sc _
theorem eqD_ent (s : Sgn) (i : Nat) : eqD (ent s i) (ent s i) = true := by
  unfold ent
  split
  · rw [eqD_str, beq_self_eq_true]
  · rw [eqD_str, beq_self_eq_true]
  · rw [eqD_str, beq_self_eq_true]
  · rw [eqD_int, beq_self_eq_true]
  · cases s.sc with
    | non => decide +kernel
    | m => decide +kernel
    | hand a b => cases a <;> cases b <;> decide +kernel
theorem shn_gl (v : List Nat) (s : Sgn) : shn 2 (glD v s) := shn_tup fun d hd => by
  obtain ⟨i, _, rfl⟩ := List.mem_map.mp hd
  exact shn_ent s i
theorem eqD_gl (v : List Nat) (s : Sgn) : eqD (glD v s) (glD v s) = true := eqD_refl_tup fun d hd => by
  obtain ⟨i, _, rfl⟩ := List.mem_map.mp hd
  exact eqD_ent s i
theorem shn_gls (l : List Sgn) (r : List Nat) (st : Bool × Bool) (v : List Nat) : shn 3 (glsD l r st v) := shn_tup fun d hd => by
  obtain ⟨s, _, rfl⟩ := List.mem_map.mp hd
  exact shn_gl v s
theorem eqD_gls (l : List Sgn) (r : List Nat) (st : Bool × Bool) (v : List Nat) : eqD (glsD l r st v) (glsD l r st v) = true := eqD_refl_tup fun d hd => by
  obtain ⟨s, _, rfl⟩ := List.mem_map.mp hd
  exact eqD_gl v s
theorem eqD_reflSs (l : List Sgn) : eqD (.tup (l.map Sgn.d)) (.tup (l.map Sgn.d)) = true := eqD_refl_tup fun d hd => by
  obtain ⟨s, _, rfl⟩ := List.mem_map.mp hd
  rw [eqD_S]; exact decide_eq_true rfl
theorem plain_row (r : List Nat) : (rowD r).plain = true := by
  unfold rowD
  rw [plain_tup]; exact List.all_eq_true.mpr fun d h => by obtain ⟨s, _, rfl⟩ := List.mem_map.mp h; rfl
@[simp] theorem plain_sty (st : Bool × Bool) : (styD st).plain = true := by simp [styD]
/-! ### glances as keys -/
def entK (s : Sgn) : Nat → NestedKey
  | 0 => .text s.sh.s
  | 1 => .text s.tn.s
  | 2 => .text s.mv.s
  | 3 => .num s.pl.i
  | _ => match s.sc with | .non => .none | .m => .text "m" | .hand a b => .tup [.text a.s, .text b.s]
def glK (v : List Nat) (s : Sgn) : NestedKey := .tup (v.map (entK s))
def glsK (l : List Sgn) (r : List Nat) (st : Bool × Bool) (v : List Nat) : NestedKey := .tup ((shownRow l r st).map (glK v))
theorem nkPA_map {α : Type} (f : α → D) (g : α → NestedKey) : ∀ (l : List α), (∀ x ∈ l, nkP (f x).py = some (g x)) → nkPA (D.pyA (l.map f)) = some (l.map g)
  | [], _ => by simp [D.pyA, nkPA]
  | x :: l, h => by
    simp only [List.map_cons, D.pyA, nkPA]
    rw [h x (by simp), nkPA_map f g l fun y hy => h y (List.mem_cons_of_mem _ hy)]
theorem nk_ent (s : Sgn) (i : Nat) : nkP (ent s i).py = some (entK s i) := by
  unfold ent entK
  split
  · simp [D.py, nkP]
  · simp [D.py, nkP]
  · simp [D.py, nkP]
  · simp [D.py, nkP]
  · cases s.sc <;> simp [Sec.d, D.py, D.pyA, nkP, nkPA]
theorem nk_gl (v : List Nat) (s : Sgn) : nkP (glD v s).py = some (glK v s) := by
  unfold glD glK
  rw [D.py, nkP, nkPA_map (ent s) (entK s) v fun i _ => nk_ent s i]; rfl
theorem nk_gls (l : List Sgn) (r : List Nat) (st : Bool × Bool) (v : List Nat) : nkP (glsD l r st v).py = some (glsK l r st v) := by
  unfold glsD glsK
  rw [D.py, nkP, nkPA_map (glD v) (glK v) (shownRow l r st) fun s _ => nk_gl v s]; rfl
theorem dep_ent (s : Sgn) (i : Nat) : (entK s i).depth ≤ 1 := by
  unfold entK
  split
  · simp [NestedKey.depth]
  · simp [NestedKey.depth]
  · simp [NestedKey.depth]
  · simp [NestedKey.depth]
  · cases s.sc <;> simp [NestedKey.depth, NestedKey.depthAll]
theorem dep_all {n : Nat} : ∀ {ks : List NestedKey}, (∀ k ∈ ks, k.depth ≤ n) → NestedKey.depthAll ks ≤ n
  | [], _ => by simp [NestedKey.depthAll]
  | k :: ks, h => by
    rw [NestedKey.depthAll]
    have h1 := h k (by simp)
    have h2 := dep_all (ks := ks) fun x hx => h x (List.mem_cons_of_mem _ hx)
    omega
theorem dep_gl (v : List Nat) (s : Sgn) : (glK v s).depth ≤ 2 := by
  unfold glK
  rw [NestedKey.depth]
  have := dep_all (n := 1) (ks := v.map (entK s)) fun k hk => by
    obtain ⟨i, _, rfl⟩ := List.mem_map.mp hk
    exact dep_ent s i
  omega
theorem dep_gls (l : List Sgn) (r : List Nat) (st : Bool × Bool) (v : List Nat) : (glsK l r st v).depth ≤ 3 := by
  unfold glsK
  rw [NestedKey.depth]
  have := dep_all (n := 2) (ks := (shownRow l r st).map (glK v)) fun k hk => by
    obtain ⟨i, _, rfl⟩ := List.mem_map.mp hk
    exact dep_gl v i
  omega
theorem key_gls (l : List Sgn) (r : List Nat) (st : Bool × Bool) (v : List Nat) : keyOfD (glsD l r st v) = some (glsK l r st v) := by
  unfold keyOfD
  rw [nk_gls]
  have := dep_gls l r st v
  exact if_pos ⟨(shn_gls l r st v).1, by omega⟩
/-! ### the first pair -/
def firstP {α : Type} (R : α → α → Bool) : List α → List α → Option (α × α)
  | [], _ => none
  | r :: rs, acc => match acc.find? (fun a => R a r) with
    | some a => some (a, r)
    | none => firstP R rs (acc ++ [r])
def alike (l : List Sgn) (st : Bool × Bool) (v : List Nat) (r q : List Nat) : Bool := decide (glsK l r st v = glsK l q st v)
def shortRows (n : Nat) : List (List Nat) := (List.range n).map (fun i => [i]) ++ (List.range n).flatMap fun i => (List.range n).map fun j => [i, j]
def pairOf (l : List Sgn) (st : Bool × Bool) (v : List Nat) : Option (List Nat × List Nat) := firstP (alike l st v) (shortRows l.length) []
def pairD : Option (List Nat × List Nat) → D
  | none => .non
  | some (a, b) => .tup [rowD a, rowD b]
@[simp] def sd_short_rows : SpD := fun ds P _ => ∃ n : Nat, ds = [.int (n : Int)] ∧ n ≤ 20 ∧ P (.lst ((shortRows n).map rowD))
theorem len_short_rows : ∀ ds P R, sd_short_rows ds P R → ds.length = 1 := fun ds P R h => by obtain ⟨_, rfl, _⟩ := h; rfl
def t_short_rows : DST :=
    (sSeq (sNew 1 (dLc (dRange (dV 0)) (gN 2) qYes (dTup (dCons (dV 2) dNil)) [2]))
    (sSeq (sFor (dRange (dV 0)) (gN 3)
      (sExt 1 (dOfL (dLc (dRange (dV 0)) (gN 4) qYes (dTup (dCons (dV 3) (dCons (dV 4) dNil))) [4]))))
    (sRet (dVB 1))))

theorem rangeN (n : Nat) : rangeD 0 ((n : Int)).toNat = (List.range n).map natD := by
  show ((List.range n).map fun i : Nat => D.int (0 + (i : Int))) = _
  refine List.map_congr_left fun i _ => ?_
  rw [Int.zero_add]; rfl
theorem vc_short_rows : ∀ ds P R, sd_short_rows ds P R → t_short_rows (startR ["many", "found", "number", "one", "other"] ds) ⟨fun _ => P .non, P, fun _ => False, fun _ => False, R⟩ := fun ds P R h => by
  obtain ⟨n, rfl, hn, h⟩ := h
  show t_short_rows [.val (.int n), .non, .non, .non, .non] _
  refine seq_new ((List.range n).map fun i => rowD [i]) (fun P k => ⟨⟨by omega, by omega⟩, ?_⟩) ?_
  · rw [rangeN]
    exact lc_map natD (fun i => rowD [i]) (List.range n) (fun i _ K k => ⟨line1, k⟩) k
  simp only [List.set_cons_succ, List.set_cons_zero]
  refine seq_for ((List.range n).map natD) (fun P k => ⟨⟨by omega, by omega⟩, by rw [rangeN]; exact k⟩) ?_
  refine for_inv natD (fun pre ρ => ∃ x2 x3 x4 : Sl, ρ = [.val (.int n), .own (((List.range n).map fun i => rowD [i]) ++ (pre.flatMap fun i => (List.range n).map fun j => [i, j]).map rowD), x2, x3, x4]) (List.range n) [] _ ⟨.non, .non, .non, by simp⟩ ?_ ?_
  · rintro pre i post _ N hp ⟨x2, x3, x4, rfl⟩ hN
    simp only [List.set_cons_succ, List.set_cons_zero]
    have hpre : pre.length < n := (range_split hp).2
    refine one_ext (es := (List.range n).map fun j => rowD [i, j]) rfl (fun P k => ⟨⟨by omega, by omega⟩, ?_⟩) ?_ ?_
    · rw [rangeN]
      exact lc_map (P := fun ds => P (.lst ds)) natD (fun j => rowD [i, j]) (List.range n) (fun j _ K k => ⟨line2, k⟩) k
    · have e : ((pre.flatMap fun i => (List.range n).map fun j => [i, j])).length = pre.length * n := by
        clear hp hN hpre
        induction pre with
        | nil => simp
        | cons a r ih => rw [List.flatMap_cons, List.length_append, ih, List.length_map, List.length_range, List.length_cons, Nat.succ_mul]; omega
      simp only [List.length_append, List.length_map, List.length_range, e]
      have : pre.length * n ≤ 20 * 20 := Nat.mul_le_mul (by omega) hn
      exact ofNat_line (by omega)
    simp only [List.set_cons_succ, List.set_cons_zero]
    have e : (((List.range n).map fun i => rowD [i]) ++ (pre.flatMap fun i => (List.range n).map fun j => [i, j]).map rowD) ++ ((List.range n).map fun j => rowD [i, j]) = ((List.range n).map fun i => rowD [i]) ++ ((pre ++ [i]).flatMap fun i => (List.range n).map fun j => [i, j]).map rowD := by
      rw [List.flatMap_append, List.map_append, List.append_assoc]
      congr 2
      simp
    exact hN _ ⟨x2, .val (natD i), x4, by rw [e]⟩
  · rintro _ ⟨x2, x3, x4, rfl⟩
    dsimp only
    refine one_ret (.lst ((shortRows n).map rowD)) (fun P k => ?_) h
    unfold shortRows at k
    rw [List.map_append, List.map_map] at k
    exact k
@[simp] def sd_pair_of : SpD := fun ds P _ => ∃ (l : List Sgn) (st : Bool × Bool) (v : List Nat), ds = [SsD l, styD st, rowD v] ∧ l.length ≤ 20 ∧ (∀ i ∈ v, i ≤ 4) ∧ P (pairD (pairOf l st v))
theorem len_pair_of : ∀ ds P R, sd_pair_of ds P R → ds.length = 3 := fun ds P R h => by obtain ⟨_, _, _, rfl, _⟩ := h; rfl
def t_pair_of : DST :=
    (sSeq (sMemo 3 4 5 (dItems (dCall sd_short_rows (dCons (dLen (dV 0)) dNil))) (dCall sd_glances_of (dCons (dV 0) (dCons (dV 4) (dCons (dV 1) (dCons (dV 2) dNil))))))
    (sRet (dC .non)))

theorem look_rows (l : List Sgn) (st : Bool × Bool) (v : List Nat) (r : List Nat) : ∀ acc : List (List Nat), accLook (glsK l r st v) (acc.map fun r => (glsD l r st v, rowD r)) = (acc.find? fun a => alike l st v a r).map rowD
  | [] => rfl
  | a :: acc => by
    rw [List.map_cons]
    unfold accLook
    rw [key_gls, List.find?_cons]
    by_cases z : glsK l a st v = glsK l r st v
    · rw [if_pos (by rw [z]), show alike l st v a r = true from decide_eq_true z]; rfl
    · rw [if_neg (fun e => z (Option.some.inj e)), show alike l st v a r = false from decide_eq_false z]
      exact look_rows l st v r acc
theorem memo_rows (l : List Sgn) (st : Bool × Bool) (v : List Nat) (hv : ∀ i ∈ v, i ≤ 4) (De : DEnds) : ∀ (rows acc : List (List Nat)) (x4 x5 : Sl), (∀ r ∈ rows, (∀ i ∈ r, i < l.length) ∧ r.length ≤ 1000) → acc.length + rows.length ≤ 1000 →
    (match firstP (alike l st v) rows acc with | some p => De.rt (pairD (some p)) | none => ∀ x4 x5 : Sl, De.nx [.val (SsD l), .val (styD st), .val (rowD v), .non, x4, x5]) →
    memoGo 4 5 (dCall sd_glances_of (dCons (dV 0) (dCons (dV 4) (dCons (dV 1) (dCons (dV 2) dNil))))) De (rows.map rowD) (acc.map fun r => (glsD l r st v, rowD r)) [.val (SsD l), .val (styD st), .val (rowD v), .non, x4, x5]
  | [], acc, x4, x5, _, _, h => h _ _
  | r :: rows, acc, x4, x5, hr, hl, h => by
    rw [List.length_cons] at hl
    rw [List.map_cons]
    unfold memoGo
    refine ⟨⟨_, rfl⟩, by rw [List.length_map]; omega, ?_⟩
    obtain ⟨r1, r2⟩ := hr r (by simp)
    refine ⟨l, r, st, v, rfl, r1, r2, hv, ?_⟩
    refine ⟨_, _, rfl, key_gls l r st v, ?_⟩
    rw [look_rows]
    unfold firstP at h
    cases q : acc.find? (fun a => alike l st v a r) with
    | some a => rw [q] at h; exact h
    | none =>
      rw [q] at h
      have := memo_rows l st v hv De rows (acc ++ [r]) (.val (rowD r)) (.val (glsD l r st v)) (fun y hy => hr y (List.mem_cons_of_mem _ hy)) (by rw [List.length_append, List.length_singleton]; omega) h
      rw [List.map_append] at this
      exact this
theorem short_ok {n : Nat} {r : List Nat} (h : r ∈ shortRows n) : (∀ i ∈ r, i < n) ∧ r.length ≤ 1000 := by
  unfold shortRows at h
  rcases List.mem_append.mp h with h | h
  · obtain ⟨i, hi, rfl⟩ := List.mem_map.mp h
    have := List.mem_range.mp hi
    exact ⟨fun j hj => by rw [List.mem_singleton.mp hj]; exact this, by simp⟩
  · obtain ⟨i, hi, h⟩ := List.mem_flatMap.mp h
    obtain ⟨j, hj, rfl⟩ := List.mem_map.mp h
    have h1 := List.mem_range.mp hi
    have h2 := List.mem_range.mp hj
    refine ⟨fun k hk => ?_, by simp⟩
    simp only [List.mem_cons, List.not_mem_nil, or_false] at hk
    rcases hk with rfl | rfl
    · exact h1
    · exact h2
theorem flat_len (n : Nat) (l : List Nat) : (l.flatMap fun i => (List.range n).map fun j => [i, j]).length = l.length * n := by
  induction l with
  | nil => simp
  | cons a r ih => rw [List.flatMap_cons, List.length_append, ih, List.length_map, List.length_range, List.length_cons, Nat.succ_mul]; omega
theorem short_len (n : Nat) : (shortRows n).length = n + n * n := by
  unfold shortRows
  rw [List.length_append, flat_len, List.length_map, List.length_range]
theorem vc_pair_of : ∀ ds P R, sd_pair_of ds P R → t_pair_of (startR ["signs", "style", "view", "known", "row", "seen"] ds) ⟨fun _ => P .non, P, fun _ => False, fun _ => False, R⟩ := fun ds P R h => by
  obtain ⟨l, st, v, rfl, hl, hv, h⟩ := h
  show t_pair_of [.val (SsD l), .val (styD st), .val (rowD v), .non, .non, .non] _
  refine ⟨⟨show 3 < 6 by decide, show 4 < 6 by decide, show 5 < 6 by decide⟩, ?_⟩
  refine ⟨l.length, by show [D.int ((l.map Sgn.d).length : Int)] = _; rw [List.length_map], hl, ?_⟩
  refine memo_rows l st v hv _ (shortRows l.length) [] _ _ (fun r hr => short_ok hr) ?_ ?_
  · have := short_len l.length
    have : l.length * l.length ≤ 20 * 20 := Nat.mul_le_mul hl hl
    rw [List.length_nil]; omega
  unfold pairOf at h
  cases q : firstP (alike l st v) (shortRows l.length) [] with
  | some p => rw [q] at h; exact h
  | none => rw [q] at h; exact fun _ _ => h
@[simp] def sd_check_all : SpD := fun ds P R => ∃ a b c, ds = [a, b, c] ∧ a.plain = true ∧ b.plain = true ∧ c.plain = true ∧ (areSignsD a = false → R "InvalidSigns") ∧ (areSignsD a = true → (isStyD b = false → R "InvalidStyle") ∧ (isStyD b = true → (isViewD c = false → R "InvalidView") ∧ (isViewD c = true → P .non)))
theorem len_check_all : ∀ ds P R, sd_check_all ds P R → ds.length = 3 := fun ds P R h => by obtain ⟨_, _, _, rfl, _⟩ := h; rfl
def t_check_all : DST :=
    (sSeq (sDrop (dCall sd_check_signs (dCons (dV 0) dNil)))
    (sSeq (sDrop (dCall sd_check_style (dCons (dV 1) dNil)))
    (sDrop (dCall sd_check_view (dCons (dV 2) dNil)))))

theorem vc_check_all : ∀ ds P R, sd_check_all ds P R → t_check_all (startR ["signs", "style", "view"] ds) ⟨fun _ => P .non, P, fun _ => False, fun _ => False, R⟩ := fun ds P R h => by
  obtain ⟨a, b, c, rfl, pa, pb, pc, h1, h2⟩ := h
  show t_check_all [.val a, .val b, .val c] _
  refine ⟨a, rfl, pa, fun ha => ?_, h1⟩
  obtain ⟨h3, h4⟩ := h2 ha
  refine ⟨b, rfl, pb, fun hb => ?_, h3⟩
  obtain ⟨h5, h6⟩ := h4 hb
  exact ⟨c, rfl, pc, h6, h5⟩
theorem all_ok {a b c : D} {P : D → Prop} {R : RX} (pa : a.plain = true) (pb : b.plain = true) (pc : c.plain = true) (h : (areSignsD a = false → R "InvalidSigns") ∧ ∀ l, okL l = true → a = SsD l → (isStyD b = false → R "InvalidStyle") ∧ ∀ st, b = styD st → (isViewD c = false → R "InvalidView") ∧ ∀ v, OkV v → c = rowD v → P .non) : sd_check_all [a, b, c] P R := by
  refine ⟨a, b, c, rfl, pa, pb, pc, h.1, fun ha => ?_⟩
  obtain ⟨l, ol, rfl⟩ := areSigns_iff.mp ha
  obtain ⟨h1, h2⟩ := h.2 l ol rfl
  refine ⟨h1, fun hb => ?_⟩
  obtain ⟨st, rfl⟩ := isSty_iff.mp hb
  obtain ⟨h3, h4⟩ := h2 st rfl
  refine ⟨h3, fun hc => ?_⟩
  obtain ⟨v, ov, rfl⟩ := isView_iff.mp hc
  exact h4 v ov rfl
/-- signs, a style, a view that are right, or an error -/
def Args (a b c : D) (R : RX) (K : List Sgn → Bool × Bool → List Nat → Prop) : Prop := a.plain = true ∧ b.plain = true ∧ c.plain = true ∧ (areSignsD a = false → R "InvalidSigns") ∧ ∀ l, okL l = true → a = SsD l → (isStyD b = false → R "InvalidStyle") ∧ ∀ st, b = styD st → (isViewD c = false → R "InvalidView") ∧ ∀ v, OkV v → c = rowD v → K l st v
@[simp] def sd_is_clear : SpD := fun ds P R => ∃ a b c, ds = [a, b, c] ∧ Args a b c R fun l st v => P (.bl (pairOf l st v).isNone)
theorem len_is_clear : ∀ ds P R, sd_is_clear ds P R → ds.length = 3 := fun ds P R h => by obtain ⟨_, _, _, rfl, _⟩ := h; rfl
def t_is_clear : DST :=
    (sSeq (sDrop (dCall sd_check_all (dCons (dV 0) (dCons (dV 1) (dCons (dV 2) dNil)))))
    (sRet (dOp fIsN (dCall sd_pair_of (dCons (dV 0) (dCons (dV 1) (dCons (dV 2) dNil)))) (dC .non))))

theorem check_args {a b c : D} {P : D → Prop} {R : RX} {K : List Sgn → Bool × Bool → List Nat → Prop} (h : Args a b c R K) (k : ∀ l st v, okL l = true → OkV v → a = SsD l → b = styD st → c = rowD v → K l st v → P .non) : sd_check_all [a, b, c] P R := by
  obtain ⟨pa, pb, pc, h1, h2⟩ := h
  refine all_ok pa pb pc ⟨h1, fun l ol e => ?_⟩
  obtain ⟨h3, h4⟩ := h2 l ol e
  refine ⟨h3, fun st e2 => ?_⟩
  obtain ⟨h5, h6⟩ := h4 st e2
  exact ⟨h5, fun v ov e3 => k l st v ol ov e e2 e3 (h6 v ov e3)⟩
theorem vc_is_clear : ∀ ds P R, sd_is_clear ds P R → t_is_clear (startR ["signs", "style", "view"] ds) ⟨fun _ => P .non, P, fun _ => False, fun _ => False, R⟩ := fun ds P R h => by
  obtain ⟨a, b, c, rfl, h⟩ := h
  show sd_check_all [a, b, c] (fun _ => sRet (dOp fIsN (dCall sd_pair_of (dCons (dV 0) (dCons (dV 1) (dCons (dV 2) dNil)))) (dC .non)) [.val a, .val b, .val c] _) R
  refine check_args h fun l st v ol ov ea eb ec k => ?_
  subst ea eb ec
  refine ⟨l, st, v, rfl, by have := (okL_len ol).2; omega, ov.le, ?_⟩
  cases q : pairOf l st v with
  | none => rw [q] at k; exact k
  | some p => rw [q] at k; exact k
@[simp] def sd_look_alike : SpD := fun ds P R => ∃ a b c, ds = [a, b, c] ∧ Args a b c R fun l st v => P (pairD (pairOf l st v))
theorem len_look_alike : ∀ ds P R, sd_look_alike ds P R → ds.length = 3 := fun ds P R h => by obtain ⟨_, _, _, rfl, _⟩ := h; rfl
def t_look_alike : DST :=
    (sSeq (sDrop (dCall sd_check_all (dCons (dV 0) (dCons (dV 1) (dCons (dV 2) dNil)))))
    (sRet (dCall sd_pair_of (dCons (dV 0) (dCons (dV 1) (dCons (dV 2) dNil))))))

theorem vc_look_alike : ∀ ds P R, sd_look_alike ds P R → t_look_alike (startR ["signs", "style", "view"] ds) ⟨fun _ => P .non, P, fun _ => False, fun _ => False, R⟩ := fun ds P R h => by
  obtain ⟨a, b, c, rfl, h⟩ := h
  show sd_check_all [a, b, c] (fun _ => sRet (dCall sd_pair_of (dCons (dV 0) (dCons (dV 1) (dCons (dV 2) dNil)))) [.val a, .val b, .val c] _) R
  refine check_args h fun l st v ol ov ea eb ec k => ?_
  subst ea eb ec
  exact ⟨l, st, v, rfl, by have := (okL_len ol).2; omega, ov.le, k⟩
/-! ### == of keys -/
theorem nk_tup {ds : List PyData} {k : NestedKey} (h : nkP (.tuple ds) = some k) : ∃ ks, nkPA ds = some ks ∧ k = .tup ks := by
  rw [nkP] at h
  obtain ⟨ks, h1, h2⟩ := Option.map_eq_some_iff.mp h
  exact ⟨ks, h1, h2.symm⟩
theorem nk_cons {d : PyData} {ds : List PyData} {ks : List NestedKey} (h : nkPA (d :: ds) = some ks) : ∃ k r, nkP d = some k ∧ nkPA ds = some r ∧ ks = k :: r := by
  rw [nkPA] at h
  cases q1 : nkP d with
  | none => rw [q1] at h; cases h
  | some k =>
    cases q2 : nkPA ds with
    | none => rw [q1, q2] at h; cases h
    | some r =>
      rw [q1, q2] at h
      cases h
      exact ⟨k, r, rfl, rfl, rfl⟩
mutual
theorem eqv_key : ∀ (x y : PyData) (k j : NestedKey), nkP x = some k → nkP y = some j → PyData.eqv x y = NestedKey.beq k j
  | .none, y, k, j, hx, hy => by
    cases (Option.some.inj (by rw [nkP] at hx; exact hx) : NestedKey.none = k)
    cases y with
    | tuple es => obtain ⟨_, _, rfl⟩ := nk_tup hy; rfl
    | _ => first | (rw [nkP] at hy; cases hy; rfl) | (rw [nkP] at hy; cases hy)
  | .bool b, y, k, j, hx, hy => by
    rw [nkP] at hx; cases hx
    cases y with
    | tuple es => obtain ⟨_, _, rfl⟩ := nk_tup hy; rfl
    | bool c => rw [nkP] at hy; cases hy; cases b <;> cases c <;> decide
    | int i => rw [nkP] at hy; cases hy; rfl
    | _ => first | (rw [nkP] at hy; cases hy; rfl) | (rw [nkP] at hy; cases hy)
  | .int i, y, k, j, hx, hy => by
    rw [nkP] at hx; cases hx
    cases y with
    | tuple es => obtain ⟨_, _, rfl⟩ := nk_tup hy; rfl
    | bool c => rw [nkP] at hy; cases hy; rfl
    | int i => rw [nkP] at hy; cases hy; rfl
    | _ => first | (rw [nkP] at hy; cases hy; rfl) | (rw [nkP] at hy; cases hy)
  | .str i, y, k, j, hx, hy => by
    rw [nkP] at hx; cases hx
    cases y with
    | tuple es => obtain ⟨_, _, rfl⟩ := nk_tup hy; rfl
    | str i =>
      rw [nkP] at hy; cases hy
      rw [PyData.eqv, NestedKey.beq, Bool.eq_iff_iff, beq_iff_eq, decide_eq_true_iff]
    | _ => first | (rw [nkP] at hy; cases hy; rfl) | (rw [nkP] at hy; cases hy)
  | .tuple ds, y, k, j, hx, hy => by
    obtain ⟨ks, h1, rfl⟩ := nk_tup hx
    cases y with
    | tuple es =>
      obtain ⟨js, h2, rfl⟩ := nk_tup hy
      rw [PyData.eqv, NestedKey.beq]
      exact eqvAll_key ds es ks js h1 h2
    | _ => first | (rw [nkP] at hy; cases hy; rfl) | (rw [nkP] at hy; cases hy)
  | .list _, _, _, _, hx, _ => by rw [nkP] at hx; cases hx
  | .dict _, _, _, _, hx, _ => by rw [nkP] at hx; cases hx
theorem eqvAll_key : ∀ (xs ys : List PyData) (ks js : List NestedKey), nkPA xs = some ks → nkPA ys = some js → PyData.eqvAll xs ys = NestedKey.beqAll ks js
  | [], ys, ks, js, hx, hy => by
    rw [nkPA] at hx; cases hx
    cases ys with
    | nil => rw [nkPA] at hy; cases hy; rfl
    | cons y ys => obtain ⟨_, _, _, _, rfl⟩ := nk_cons hy; rfl
  | x :: xs, ys, ks, js, hx, hy => by
    obtain ⟨k, r, h1, h2, rfl⟩ := nk_cons hx
    cases ys with
    | nil => rw [nkPA] at hy; cases hy; rfl
    | cons y ys =>
      obtain ⟨j, q, h3, h4, rfl⟩ := nk_cons hy
      rw [PyData.eqvAll, NestedKey.beqAll, eqv_key x y k j h1 h3, eqvAll_key xs ys r q h2 h4]
end
theorem eqD_key {x y : D} {k j : NestedKey} (hx : nkP x.py = some k) (hy : nkP y.py = some j) : eqD x y = decide (k = j) := by
  unfold eqD
  rw [eqv_key _ _ k j hx hy, NestedKey.decide_eq]
theorem eqD_gls2 (l : List Sgn) (r q : List Nat) (st : Bool × Bool) (v : List Nat) : eqD (glsD l r st v) (glsD l q st v) = alike l st v r q := eqD_key (nk_gls l r st v) (nk_gls l q st v)
def rowK (r : List Nat) : NestedKey := .tup (r.map fun i : Nat => .num (Int.ofNat i))
theorem nk_row (r : List Nat) : nkP (rowD r).py = some (rowK r) := by
  unfold rowD rowK
  rw [D.py, nkP, nkPA_map natD (fun i : Nat => .num (Int.ofNat i)) r fun i _ => by simp [natD, D.py, nkP]]; rfl
theorem rowK_inj {r q : List Nat} (h : rowK r = rowK q) : r = q := by
  unfold rowK at h
  injection h with h
  induction r generalizing q with
  | nil => cases q with
    | nil => rfl
    | cons _ _ => cases h
  | cons a r ih => cases q with
    | nil => cases h
    | cons b q =>
      rw [List.map_cons, List.map_cons] at h
      injection h with h1 h2
      injection h1 with h1
      rw [Int.ofNat.inj h1, ih h2]
theorem eqD_row (r q : List Nat) : eqD (rowD r) (rowD q) = decide (r = q) := by
  rw [eqD_key (nk_row r) (nk_row q), decide_eq_decide]
  exact ⟨rowK_inj, fun e => by rw [e]⟩
theorem shn_row (r : List Nat) : shn 1 (rowD r) := shn_tup fun d hd => by
  obtain ⟨i, _, rfl⟩ := List.mem_map.mp hd
  exact shn_int _
/-! ### two rows that look alike -/
def isTwoD (n : Nat) : D → Bool
  | .tup [a, b] => isRowD n a && isRowD n b
  | _ => false
@[simp] def sd_are_alike : SpD := fun ds P R => ∃ a b c d, ds = [a, b, c, d] ∧ d.plain = true ∧ Args a b c R fun l st v => (isTwoD l.length d = false → P (.bl false)) ∧ ∀ r q, (r.length ≤ 8 ∧ ∀ i ∈ r, i < l.length) → (q.length ≤ 8 ∧ ∀ i ∈ q, i < l.length) → d = .tup [rowD r, rowD q] → P (.bl (!decide (r = q) && alike l st v r q))
theorem len_are_alike : ∀ ds P R, sd_are_alike ds P R → ds.length = 4 := fun ds P R h => by obtain ⟨_, _, _, _, rfl, _⟩ := h; rfl
def t_are_alike : DST :=
    (sSeq (sDrop (dCall sd_check_all (dCons (dV 0) (dCons (dV 1) (dCons (dV 2) dNil)))))
    (sSeq (sIf (qOr (qNot (qV (dIsT isTupD (dV 3)))) (qOr (qV (dOp fNe (dLen (dV 3)) (dC (.int 2)))) (qNot (qV (dAll (dOfL (dLc (dItems (dV 3)) (gN 4) qYes (dCall sd_is_row (dCons (dV 0) (dCons (dV 4) dNil))) [4])))))))
      (sRet (dC (.bl false)))
      sNext)
    (sSeq (sAsg (dV 3) (gT 2 (gsCons (gN 5) (gsCons (gN 6) gsNil))))
    (sRet (dAnd (dOp fNe (dV 5) (dV 6)) (dOp fEq (dCall sd_glances_of (dCons (dV 0) (dCons (dV 5) (dCons (dV 1) (dCons (dV 2) dNil))))) (dCall sd_glances_of (dCons (dV 0) (dCons (dV 6) (dCons (dV 1) (dCons (dV 2) dNil)))))))))))

theorem seq_check3 {u : DST} {ρ : Rho} {De : DEnds} {a b c : D} (ha : ρ[0]? = some (.val a)) (hb : ρ[1]? = some (.val b)) (hc : ρ[2]? = some (.val c)) (h : sd_check_all [a, b, c] (fun _ => u ρ De) De.xc) : sSeq (sDrop (dCall sd_check_all (dCons (dV 0) (dCons (dV 1) (dCons (dV 2) dNil))))) u ρ De := by
  show slP ρ[0]? fun a => slP ρ[1]? fun b => slP ρ[2]? fun c => sd_check_all [a, b, c] (fun _ => u ρ De) De.xc
  rw [ha, hb, hc]
  exact h
theorem vc_are_alike : ∀ ds P R, sd_are_alike ds P R → t_are_alike (startR ["signs", "style", "view", "value", "row", "one", "other"] ds) ⟨fun _ => P .non, P, fun _ => False, fun _ => False, R⟩ := fun ds P R h => by
  obtain ⟨a, b, c, d, rfl, pd, h⟩ := h
  show t_are_alike [.val a, .val b, .val c, .val d, .non, .non, .non] _
  refine seq_check3 rfl rfl rfl (check_args h fun l st v ol ov ea eb ec k => ?_)
  subst ea eb ec
  obtain ⟨k1, k2⟩ := k
  cases d with
  | tup ds =>
    have e2 : isTwoD l.length (.tup ds) = (decide (ds.length = 2) && ds.all (isRowD l.length)) := by
      match ds with
      | [] => rfl
      | [_] => rfl
      | [x, y] => simp [isTwoD]
      | _ :: _ :: _ :: _ => simp [isTwoD]
    refine seq_if_any (!(decide (ds.length = 2) && ds.all (isRowD l.length))) (fun K kk => ?_) (fun z => ?_) (fun z => ?_)
    · refine (show ∀ (x0 x1 x2 x4 x5 x6 : Sl) (K : Bool → Prop) (R : RX), K false → qNot (qV (dIsT isTupD (dV 3))) [x0, x1, x2, .val (.tup ds), x4, x5, x6] K R from fun x0 x1 x2 x4 x5 x6 K R k => k) _ _ _ _ _ _ _ _ (iteF ?_)
      refine ⟨shp_int _, shp_int _, ?_⟩
      have e : ((ds.length : Int) == 2) = decide (ds.length = 2) := by rw [beq_dec', decide_eq_decide]; omega
      show (if (!eqD (.int (ds.length : Int)) (.int 2)) = true then K true else _)
      rw [eqD_int, e]
      cases q : decide (ds.length = 2) with
      | false => rw [q] at kk; exact kk
      | true =>
        rw [q, Bool.true_and] at kk
        refine iteF ?_
        refine lc_all (K := fun b => K (!b)) (isRowD l.length) ds (fun x hx K k => ⟨l, x, rfl, ?_, k⟩) kk
        rw [plain_tup] at pd
        exact List.all_eq_true.mp pd x hx
    · rw [Bool.not_eq_true'] at z
      exact k1 (by rw [e2, z])
    · rw [Bool.not_eq_false', Bool.and_eq_true, decide_eq_true_eq] at z
      obtain ⟨z1, z2⟩ := z
      match ds, z1 with
      | [x, y], _ =>
        simp only [List.all_cons, List.all_nil, Bool.and_true, Bool.and_eq_true] at z2
        obtain ⟨r, ro, rfl⟩ := isRow_iff.mp z2.1
        obtain ⟨q, qo, rfl⟩ := isRow_iff.mp z2.2
        refine ⟨rfl, rfl, ?_⟩
        have kk := k2 r q ro qo rfl
        simp only [List.set_cons_succ, List.set_cons_zero]
        refine one_ret (.bl (!decide (r = q) && alike l st v r q)) (fun P k => ?_) kk
        refine ⟨(shn_row r).shp, (shn_row q).shp, ?_⟩
        rw [eqD_row]
        cases hrq : decide (r = q) with
        | true => rw [hrq] at k; exact k
        | false =>
          rw [hrq] at k
          refine ⟨l, r, st, v, rfl, ro.2, by omega, ov.le, l, q, st, v, rfl, qo.2, by omega, ov.le, (shn_gls _ _ _ _).shp, (shn_gls _ _ _ _).shp, ?_⟩
          rw [eqD_gls2]
          exact k
  | _ => first | exact k1 rfl | (simp at pd)
end DL
namespace DL
open PySem PySem.Spec PyProof.Rows L2
/-! ### all ascending tuples -/
def rowsS : Nat → List (List Nat)
  | 0 => [[]]
  | n + 1 => rowsS n ++ (rowsS n).map fun r => r ++ [n]
def sizD (r : List Nat) : D := .tup [.int (r.length : Int), rowD r]
def subL (n : Nat) : List (List Nat) := (rowsS n).mergeSort fun r q => leD (sizD r) (sizD q)
theorem subL_D (n : Nat) : (subL n).map sizD = ((rowsS n).map sizD).mergeSort leD := PySem.W.sort_maps sizD fun a _ b _ => rfl
theorem mem_subL {n : Nat} {r : List Nat} : r ∈ subL n ↔ r ∈ rowsS n := List.mem_mergeSort
theorem rowsS_ok : ∀ {n : Nat} {r : List Nat}, r ∈ rowsS n → r.Pairwise (· < ·) ∧ ∀ i ∈ r, i < n
  | 0, r, h => by
    rw [List.mem_singleton.mp h]
    exact ⟨.nil, fun i hi => by cases hi⟩
  | n + 1, r, h => by
    rcases List.mem_append.mp h with h | h
    · obtain ⟨h1, h2⟩ := rowsS_ok h
      exact ⟨h1, fun i hi => Nat.lt_succ_of_lt (h2 i hi)⟩
    · obtain ⟨q, hq, rfl⟩ := List.mem_map.mp h
      obtain ⟨h1, h2⟩ := rowsS_ok hq
      refine ⟨List.pairwise_append.mpr ⟨h1, List.pairwise_singleton _ _, fun a ha b hb => by rw [List.mem_singleton.mp hb]; exact h2 a ha⟩, fun i hi => ?_⟩
      rcases List.mem_append.mp hi with hi | hi
      · exact Nat.lt_succ_of_lt (h2 i hi)
      · rw [List.mem_singleton.mp hi]; exact Nat.lt_succ_self n
theorem asc_len {n : Nat} {r : List Nat} (h1 : r.Pairwise (· < ·)) (h2 : ∀ i ∈ r, i < n) : r.length ≤ n := by
  have := nodup_len r (List.range n) (h1.imp fun {a b} hab e => by omega) fun x hx => List.mem_range.mpr (h2 x hx)
  rw [List.length_range] at this; exact this
theorem rowsS_len : ∀ n, (rowsS n).length = 2 ^ n
  | 0 => rfl
  | n + 1 => by
    show (rowsS n ++ (rowsS n).map fun r => r ++ [n]).length = _
    rw [List.length_append, List.length_map, rowsS_len n, Nat.pow_succ]; omega
theorem row_py (r : List Nat) : D.pyA (r.map natD) = (r.map fun i : Nat => (i : Int)).map PyData.int := by
  induction r with
  | nil => simp [D.pyA]
  | cons a r ih => simp only [List.map_cons, D.pyA, ih, natD, D.py]
theorem siz_py (r : List Nat) : (sizD r).py = .tuple [.int (r.length : Int), .tuple ((r.map fun i : Nat => (i : Int)).map PyData.int)] := by
  unfold sizD rowD
  simp only [D.py, D.pyA, row_py]
theorem shn_siz (r : List Nat) : shn 2 (sizD r) := shn_tup fun d hd => by
  simp only [List.mem_cons, List.not_mem_nil, or_false] at hd
  rcases hd with rfl | rfl
  · exact (shn_int _).mono (by decide)
  · exact shn_row r
theorem srt_siz (rs : List (List Nat)) : SrtOk (rs.map sizD) := by
  refine ⟨.inr ⟨fun d hd d' hd' => ?_, .inl fun d hd => ?_⟩, fun d hd => ?_⟩
  · rw [List.map_map] at hd hd'
    obtain ⟨r, _, rfl⟩ := List.mem_map.mp hd
    obtain ⟨q, _, rfl⟩ := List.mem_map.mp hd'
    rw [Function.comp_apply, Function.comp_apply, siz_py, siz_py]
    simp [PySem.W.alike, PySem.W.alikeAll, PySem.W.alike_ints, -List.map_map]
  · rw [List.map_map] at hd
    obtain ⟨r, _, rfl⟩ := List.mem_map.mp hd
    exact ⟨_, _, siz_py r⟩
  · obtain ⟨r, _, rfl⟩ := List.mem_map.mp hd
    exact ⟨(shn_siz r).1, Nat.le_trans (shn_siz r).2 (by decide)⟩
@[simp] def sd_subsets_of : SpD := fun ds P _ => ∃ n : Nat, ds = [.int (n : Int)] ∧ n ≤ 10 ∧ P (.lst ((subL n).map rowD))
theorem len_subsets_of : ∀ ds P R, sd_subsets_of ds P R → ds.length = 1 := fun ds P R h => by obtain ⟨_, rfl, _⟩ := h; rfl
def t_subsets_of : DST :=
    (sSeq (sAsg (dOfL (dLst (dCons (dTup dNil) dNil))) (gN 1))
    (sSeq (sFor (dRange (dV 0)) (gN 2)
      (sAsg (dOfL (dCat (dV 1) (dOfL (dLc (dItems (dV 1)) (gN 3) qYes (dOp fAdd (dV 3) (dTup (dCons (dV 2) dNil))) [3])))) (gN 1)))
    (sRet (dOfL (dLc (dItems (dOfL (dSrtN (dOfL (dLc (dItems (dV 1)) (gN 3) qYes (dTup (dCons (dLen (dV 3)) (dCons (dV 3) dNil))) [3]))))) (gT 2 (gsCons (gN 4) (gsCons (gN 3) gsNil))) qYes (dV 3) [4, 3])))))

theorem subsets_vc (n : Nat) (hn : n ≤ 10) (P : D → Prop) (R : RX) (h : P (.lst ((subL n).map rowD))) : t_subsets_of [.val (.int n), .non, .non, .non, .non] ⟨fun _ => P .non, P, fun _ => False, fun _ => False, R⟩ := by
  refine seq_asg (.lst [.tup []]) (fun P k => ⟨line0, line1, k⟩) ?_
  simp only [List.set_cons_succ, List.set_cons_zero]
  have r0 : ([D.tup []] : List D) = (rowsS 0).map rowD := rfl
  rw [r0]
  refine seq_for ((List.range n).map natD) (fun P k => ⟨⟨by omega, by omega⟩, by rw [rangeN]; exact k⟩) ?_
  refine for_inv natD (fun pre ρ => ∃ x2 x3 x4 : Sl, ρ = [.val (.int n), .val (.lst ((rowsS pre.length).map rowD)), x2, x3, x4]) (List.range n) [] _ ⟨.non, .non, .non, rfl⟩ ?_ ?_
  · rintro pre i post _ N hp ⟨x2, x3, x4, rfl⟩ hN
    obtain ⟨rfl, hi⟩ := range_split hp
    generalize hi' : pre.length = i at hi
    simp only [List.set_cons_succ, List.set_cons_zero]
    have e : ∀ r : List Nat, D.tup (r.map natD ++ [natD i]) = rowD (r ++ [i]) := fun r => by unfold rowD; rw [List.map_append]; rfl
    have e3 : (rowsS (pre ++ [pre.length]).length) = rowsS i ++ (rowsS i).map fun r => r ++ [i] := by
      rw [List.length_append, List.length_singleton, hi']; rfl
    refine one_asg (.lst ((rowsS i ++ (rowsS i).map fun r => r ++ [i]).map rowD)) (fun P k => ?_) ?_
    · refine lc_map (P := fun ds => catP (fun ds => P (.lst ds)) (.lst ((rowsS i).map rowD)) (.lst ds)) rowD (fun r => rowD (r ++ [i])) (rowsS i) (fun r hr K k => ⟨line1, ?_, ?_⟩) ⟨?_, ?_⟩
      · obtain ⟨h1, h2⟩ := rowsS_ok hr
        have := asc_len h1 h2
        rw [List.length_map]; exact ofNat_line (by show r.length + 1 ≤ 1000; omega)
      · rw [e]; exact k
      · rw [List.length_map, List.length_map, rowsS_len]
        have : 2 ^ i ≤ 2 ^ 9 := Nat.pow_le_pow_right (by decide) (by omega)
        exact Nat.le_trans (show _ ≤ 1024 by omega) (by decide)
      · rw [List.map_append, List.map_map] at k
        exact k
    exact hN _ ⟨.val (natD i), x3, x4, by rw [e3]; rfl⟩
  · rintro _ ⟨x2, x3, x4, rfl⟩
    rw [List.nil_append, List.length_range]
    dsimp only
    refine one_ret (.lst ((subL n).map rowD)) (fun P k => ?_) h
    refine lc_map (P := fun ds => srtN (fun ds => lcGo _ _ _ _ (fun ds => P (.lst ds)) ds []) (.lst ds)) rowD sizD (rowsS n) (fun r hr K k => ⟨line2, ?_⟩) ⟨srt_siz _, ?_⟩
    · have : (r.map natD).length = r.length := List.length_map ..
      rw [this]; exact k
    · rw [← subL_D]
      refine lc_genG sizD (fun r => [.val (.int n), .val (.lst ((rowsS n).map rowD)), x2, .val (rowD r), .val (.int r.length)]) (fun _ => true) rowD (subL n) [] (fun r _ K k => ⟨rfl, rfl, k⟩) (fun r _ K k => k) (fun r _ _ K k => k) ?_
      rw [List.filter_eq_self.mpr (fun _ _ => rfl), List.nil_append]
      exact k
theorem vc_subsets_of : ∀ ds P R, sd_subsets_of ds P R → t_subsets_of (startR ["many", "rows", "one", "row", "size"] ds) ⟨fun _ => P .non, P, fun _ => False, fun _ => False, R⟩ := fun ds P R h => by
  obtain ⟨n, rfl, hn, h⟩ := h
  exact subsets_vc n hn P R h
@[simp] def sd_law_subsets : SpD := fun ds P _ => ∃ n : Nat, ds = [.int (n : Int)] ∧ n ≤ 10 ∧ P (.lst ((subL n).map rowD))
theorem len_law_subsets : ∀ ds P R, sd_law_subsets ds P R → ds.length = 1 := fun ds P R h => by obtain ⟨_, rfl, _⟩ := h; rfl
def t_law_subsets : DST :=
    (sSeq (sAsg (dOfL (dLst (dCons (dTup dNil) dNil))) (gN 1))
    (sSeq (sFor (dRange (dV 0)) (gN 2)
      (sAsg (dOfL (dCat (dV 1) (dOfL (dLc (dItems (dV 1)) (gN 3) qYes (dOp fAdd (dV 3) (dTup (dCons (dV 2) dNil))) [3])))) (gN 1)))
    (sRet (dOfL (dLc (dItems (dOfL (dSrtN (dOfL (dLc (dItems (dV 1)) (gN 3) qYes (dTup (dCons (dLen (dV 3)) (dCons (dV 3) dNil))) [3]))))) (gT 2 (gsCons (gN 4) (gsCons (gN 3) gsNil))) qYes (dV 3) [4, 3])))))

theorem vc_law_subsets : ∀ ds P R, sd_law_subsets ds P R → t_law_subsets (startR ["_law_many", "_law_rows", "_law_number", "_law_row", "_law_size"] ds) ⟨fun _ => P .non, P, fun _ => False, fun _ => False, R⟩ := fun ds P R h => by
  obtain ⟨n, rfl, hn, h⟩ := h
  exact subsets_vc n hn P R h
/-! ### fewest things, signs left out, clear styles -/
def clearB (l : List Sgn) (st : Bool × Bool) (v : List Nat) : Bool := (pairOf l st v).isNone
def optRow : Option (List Nat) → D
  | none => .non
  | some r => rowD r
def goodV (l : List Sgn) (st : Bool × Bool) : List (List Nat) := (subL 5).filter fun v => clearB l st v
theorem isNone_D (o : Option (List Nat × List Nat)) (P : D → Prop) (h : P (.bl o.isNone)) : fIsN (pairD o) .non P := by
  cases o with
  | none => exact h
  | some p => exact h
@[simp] def sd_fewest_things : SpD := fun ds P R => ∃ a b, ds = [a, b] ∧ a.plain = true ∧ b.plain = true ∧ (areSignsD a = false → R "InvalidSigns") ∧ ∀ l, okL l = true → a = SsD l → (isStyD b = false → R "InvalidStyle") ∧ ∀ st, b = styD st → P (optRow (goodV l st).head?)
theorem len_fewest_things : ∀ ds P R, sd_fewest_things ds P R → ds.length = 2 := fun ds P R h => by obtain ⟨_, _, rfl, _⟩ := h; rfl
def t_fewest_things : DST :=
    (sSeq (sDrop (dCall sd_check_signs (dCons (dV 0) dNil)))
    (sSeq (sDrop (dCall sd_check_style (dCons (dV 1) dNil)))
    (sSeq (sAsgL 2 (dLc (dItems (dCall sd_subsets_of (dCons (dC (.int 5)) dNil))) (gN 3) (qV (dOp fIsN (dCall sd_pair_of (dCons (dV 0) (dCons (dV 1) (dCons (dV 3) dNil)))) (dC .non))) (dV 3) [3]))
    (sRet (dIf (qV (dOp fNe (dV 2) (dOfL (dLst dNil)))) (dOp fIx (dV 2) (dC (.int 0))) (dC .non))))))

theorem sub5_le {v : List Nat} (h : v ∈ subL 5) : ∀ i ∈ v, i ≤ 4 := fun i hi => by
  have := (rowsS_ok (mem_subL.mp h)).2 i hi
  omega
theorem head_run (rs : List (List Nat)) (x0 x1 x3 : Sl) (P : D → Prop) (R : RX) (h : P (optRow rs.head?)) : dIf (qV (dOp fNe (dV 2) (dOfL (dLst dNil)))) (dOp fIx (dV 2) (dC (.int 0))) (dC .non) [x0, x1, .val (.lst (rs.map rowD)), x3] P R := by
  have hs : shp (.lst (rs.map rowD)) = true := (shn_lst (n := 1) fun d hd => by obtain ⟨r, _, rfl⟩ := List.mem_map.mp hd; exact shn_row r).shp
  refine ⟨line0, hs, by decide, ?_⟩
  cases rs with
  | nil => exact h
  | cons r rs =>
    have e : eqD (.lst ((r :: rs).map rowD)) (.lst []) = false := by simp [eqD, D.py, D.pyA, PyData.eqv, PyData.eqvAll]
    rw [e]
    show atD ((r :: rs).map rowD) 0 P
    have e0 : atI ((r :: rs).map rowD) 0 = some (rowD r) := atI_nat (j := 0) rfl
    unfold atD
    rw [e0]
    exact h
theorem vc_fewest_things : ∀ ds P R, sd_fewest_things ds P R → t_fewest_things (startR ["signs", "style", "good", "view"] ds) ⟨fun _ => P .non, P, fun _ => False, fun _ => False, R⟩ := fun ds P R h => by
  obtain ⟨a, b, rfl, pa, pb, h1, h2⟩ := h
  show t_fewest_things [.val a, .val b, .non, .non] _
  refine ⟨a, rfl, pa, fun ha => ?_, h1⟩
  obtain ⟨l, ol, rfl⟩ := areSigns_iff.mp ha
  obtain ⟨h3, h4⟩ := h2 l ol rfl
  refine ⟨b, rfl, pb, fun hb => ?_, h3⟩
  obtain ⟨st, rfl⟩ := isSty_iff.mp hb
  dsimp only
  refine seq_asgL ((goodV l st).map rowD) (fun P k => ?_) ?_
  · refine ⟨5, rfl, by decide, ?_⟩
    refine lc_gen rowD (fun v => clearB l st v) rowD (subL 5) (fun v hv K k => ?_) (fun v _ _ K k => k) k
    exact ⟨l, st, v, rfl, by have := (okL_len ol).2; omega, sub5_le hv, isNone_D _ _ k⟩
  simp only [List.set_cons_succ, List.set_cons_zero]
  exact head_run (goodV l st) _ _ _ _ _ (h4 st rfl)
/-- the signs that are left -/
def restOf (l : List Sgn) (r : List Nat) : List Sgn := ((List.range l.length).filter fun i => !decide (i ∈ r)).map fun i => l.getD i s0
theorem range_getD (l : List Sgn) : (List.range l.length).map (fun i => l.getD i s0) = l := by
  apply List.ext_getElem?
  intro i
  rw [List.getElem?_map]
  by_cases h : i < l.length
  · rw [List.getElem?_range h, List.getElem?_eq_getElem h, Option.map_some, List.getD_eq_getElem?_getD, List.getElem?_eq_getElem h]; rfl
  · rw [List.getElem?_eq_none (by simpa using h), List.getElem?_eq_none (by omega)]; rfl
theorem restOf_sub (l : List Sgn) (r : List Nat) : (restOf l r).Sublist l := by
  have h : (restOf l r).Sublist ((List.range l.length).map fun i => l.getD i s0) := (List.filter_sublist (p := fun i => !decide (i ∈ r))).map _
  rw [range_getD] at h; exact h
theorem restOf_ok {l : List Sgn} {r : List Nat} (h : okL l = true) (hn : restOf l r ≠ []) : okL (restOf l r) = true := by
  have hs := restOf_sub l r
  have h' := h
  unfold okL at h
  simp only [Bool.and_eq_true] at h
  refine okL_of ?_ (Nat.le_trans hs.length_le (okL_len h').2) (fun s hm => okL_good h' s (hs.subset hm)) ((asc_pw h.2.2).sublist (hs.map _))
  cases q : restOf l r with
  | nil => exact absurd q hn
  | cons a b => simp
def leave (l : List Sgn) (st : Bool × Bool) (v : List Nat) : Option (List Nat) := (subL l.length).find? fun r => !(restOf l r).isEmpty && clearB (restOf l r) st v
theorem enum_Ss (l : List Sgn) : enumD (l.map Sgn.d) = (List.range l.length).map fun i => D.tup [natD i, (l.getD i s0).d] := by
  apply List.ext_getElem?
  intro i
  unfold enumD zipD
  rw [List.length_map]
  by_cases h : i < l.length
  · rw [List.getElem?_map, List.getElem?_map, List.getElem?_range h]
    have : ((rangeD 0 l.length).zip (l.map Sgn.d))[i]? = some (natD i, (l.getD i s0).d) := by
      rw [List.getElem?_zip_eq_some]
      refine ⟨range_get h, ?_⟩
      rw [List.getElem?_map, List.getD_eq_getElem?_getD, List.getElem?_eq_getElem h]; rfl
    rw [this]; rfl
  · rw [List.getElem?_eq_none (by rw [List.length_map, List.length_zip, rangeD_len, List.length_map]; omega), List.getElem?_eq_none (by rw [List.length_map, List.length_range]; omega)]
theorem inL_row (i : Nat) (r : List Nat) : inL (natD i) (r.map natD) = decide (i ∈ r) := by
  unfold inL
  rw [List.any_map, Bool.eq_iff_iff, List.any_eq_true, decide_eq_true_iff]
  constructor
  · rintro ⟨j, hj, e⟩
    have e : eqD (.int (j : Int)) (.int (i : Int)) = true := e
    rw [eqD_int, beq_iff_eq] at e
    rw [← Int.ofNat_inj.mp e]; exact hj
  · intro h
    exact ⟨i, h, by show eqD (.int (i : Int)) (.int (i : Int)) = true; rw [eqD_int, beq_self_eq_true]⟩
/-- tuple([sign for number, sign in enumerate(signs) if number not in row]) -/
theorem rest_run {n m : Nat} {ρ : Rho} {P : List D → Prop} {q : DTQ} {t : DT} (l : List Sgn) (r : List Nat)
    (hq : ∀ (i : Nat) (K : Bool → Prop), K (!decide (i ∈ r)) → q ((ρ.set n (.val (natD i))).set m (.val (l.getD i s0).d)) K (fun _ => False)) (ht : ∀ (i : Nat) (K : D → Prop), K (l.getD i s0).d → t ((ρ.set n (.val (natD i))).set m (.val (l.getD i s0).d)) K (fun _ => False)) (h : P ((restOf l r).map Sgn.d)) :
    lcGo (gT 2 (gsCons (gN n) (gsCons (gN m) gsNil))) q t ρ P (enumD (l.map Sgn.d)) [] := by
  rw [enum_Ss]
  refine lc_genG (fun i => D.tup [natD i, (l.getD i s0).d]) (fun i => (ρ.set n (.val (natD i))).set m (.val (l.getD i s0).d)) (fun i => !decide (i ∈ r)) (fun i => (l.getD i s0).d) (List.range l.length) [] (fun i _ K k => ⟨rfl, rfl, k⟩) (fun i _ K k => hq i K k) (fun i _ _ K k => ht i K k) ?_
  rw [List.nil_append]
  unfold restOf at h
  rw [List.map_map] at h
  exact h
@[simp] def sd_to_leave_out : SpD := fun ds P R => ∃ a b c, ds = [a, b, c] ∧ Args a b c R fun l st v => P (optRow (leave l st v))
theorem len_to_leave_out : ∀ ds P R, sd_to_leave_out ds P R → ds.length = 3 := fun ds P R h => by obtain ⟨_, _, _, rfl, _⟩ := h; rfl
def t_to_leave_out : DST :=
    (sSeq (sDrop (dCall sd_check_all (dCons (dV 0) (dCons (dV 1) (dCons (dV 2) dNil)))))
    (sSeq (sFor (dItems (dCall sd_subsets_of (dCons (dLen (dV 0)) dNil))) (gN 3)
      (sSeq (sAsg (dTuple (dOfL (dLc (dEnum (dV 0)) (gT 2 (gsCons (gN 5) (gsCons (gN 6) gsNil))) (qV (dOp (fIn true) (dV 5) (dV 3))) (dV 6) [5, 6]))) (gN 4))
      (sIf (qAnd (qV (dOp fNe (dV 4) (dTup dNil))) (qV (dOp fIsN (dCall sd_pair_of (dCons (dV 4) (dCons (dV 1) (dCons (dV 2) dNil)))) (dC .non))))
        (sRet (dV 3))
        sNext)))
    (sRet (dC .non))))

theorem seq_check3' {u : DST} {ρ : Rho} {De : DEnds} {a b c : D} (ha : ρ[0]? = some (.val a)) (hb : ρ[1]? = some (.val b)) (hc : ρ[2]? = some (.val c)) (h : sd_check_all [a, b, c] (fun _ => u ρ De) De.xc) : sSeq (sDrop (dCall sd_check_all (dCons (dV 0) (dCons (dV 1) (dCons (dV 2) dNil))))) u ρ De := seq_check3 ha hb hc h
theorem empty_ne (l : List Sgn) : (!eqD (.tup (l.map Sgn.d)) (.tup [])) = !l.isEmpty := by
  cases l with
  | nil => decide +kernel
  | cons a b => simp [eqD, D.py, D.pyA, PyData.eqv, PyData.eqvAll]
theorem vc_to_leave_out : ∀ ds P R, sd_to_leave_out ds P R → t_to_leave_out (startR ["signs", "style", "view", "row", "rest", "number", "sign"] ds) ⟨fun _ => P .non, P, fun _ => False, fun _ => False, R⟩ := fun ds P R h => by
  obtain ⟨a, b, c, rfl, h⟩ := h
  show t_to_leave_out [.val a, .val b, .val c, .non, .non, .non, .non] _
  refine seq_check3 rfl rfl rfl (check_args h fun l st v ol ov ea eb ec k => ?_)
  subst ea eb ec
  have l6 := (okL_len ol).2
  refine seq_for ((subL l.length).map rowD) (fun P k => ⟨l.length, by show [D.int ((l.map Sgn.d).length : Int)] = _; rw [List.length_map], by omega, k⟩) ?_
  unfold leave at k
  generalize subL l.length = rs at k
  suffices H : ∀ x3 x4 x5 x6 : Sl, forGo _ _ _ (rs.map rowD) [.val (SsD l), .val (styD st), .val (rowD v), x3, x4, x5, x6] from H _ _ _ _
  induction rs with
  | nil => intro x3 x4 x5 x6; exact k
  | cons r rs ih =>
    intro x3 x4 x5 x6
    rw [List.map_cons]
    refine go_cons ?_
    simp only [List.set_cons_succ, List.set_cons_zero]
    refine seq_asg (.tup ((restOf l r).map Sgn.d)) (fun P k => ?_) ?_
    · refine rest_run (P := fun ds => P (.tup ds)) l r (fun i K k => ⟨shp_int _, shp_rowD r, ?_⟩) (fun i K k => k) k
      show K (!inL (natD i) (r.map natD))
      rw [inL_row]; exact k
    simp only [List.set_cons_succ, List.set_cons_zero]
    rw [List.find?_cons] at k
    refine one_if (!(restOf l r).isEmpty && clearB (restOf l r) st v) (fun K kk => ?_) (fun z => ?_) (fun z => ?_)
    · refine ⟨line0, shp_Ss _, (show shp (rowD []) = true from shp_rowD []), ?_⟩
      show (if (!eqD (.tup ((restOf l r).map Sgn.d)) (.tup [])) = true then _ else K false)
      rw [empty_ne]
      cases q : (restOf l r).isEmpty with
      | true => rw [q] at kk; exact kk
      | false =>
        rw [q] at kk
        refine ⟨restOf l r, st, v, rfl, Nat.le_trans (restOf_sub l r).length_le (by omega), ov.le, isNone_D _ _ ?_⟩
        rw [Bool.not_false, Bool.true_and] at kk
        exact kk
    · rw [z] at k; exact k
    · rw [z] at k
      exact ih k _ _ _ _
def stys : List (Bool × Bool) := [(false, false), (false, true), (true, false), (true, true)]
@[simp] def sd_clear_styles : SpD := fun ds P R => ∃ a c, ds = [a, c] ∧ a.plain = true ∧ c.plain = true ∧ (areSignsD a = false → R "InvalidSigns") ∧ ∀ l, okL l = true → a = SsD l → (isViewD c = false → R "InvalidView") ∧ ∀ v, OkV v → c = rowD v → P (.tup ((stys.filter fun st => clearB l st v).map styD))
theorem len_clear_styles : ∀ ds P R, sd_clear_styles ds P R → ds.length = 2 := fun ds P R h => by obtain ⟨_, _, rfl, _⟩ := h; rfl
def t_clear_styles : DST :=
    (sSeq (sDrop (dCall sd_check_signs (dCons (dV 0) dNil)))
    (sSeq (sDrop (dCall sd_check_view (dCons (dV 1) dNil)))
    (sRet (dTuple (dOfL (dLc (dItems (dC (.tup [(.tup [.bl false, .bl false]), (.tup [.bl false, .bl true]), (.tup [.bl true, .bl false]), (.tup [.bl true, .bl true])]))) (gN 2) (qV (dOp fIsN (dCall sd_pair_of (dCons (dV 0) (dCons (dV 2) (dCons (dV 1) dNil)))) (dC .non))) (dV 2) [2]))))))

theorem vc_clear_styles : ∀ ds P R, sd_clear_styles ds P R → t_clear_styles (startR ["signs", "view", "style"] ds) ⟨fun _ => P .non, P, fun _ => False, fun _ => False, R⟩ := fun ds P R h => by
  obtain ⟨a, c, rfl, pa, pc, h1, h2⟩ := h
  show t_clear_styles [.val a, .val c, .non] _
  refine ⟨a, rfl, pa, fun ha => ?_, h1⟩
  obtain ⟨l, ol, rfl⟩ := areSigns_iff.mp ha
  obtain ⟨h3, h4⟩ := h2 l ol rfl
  refine ⟨c, rfl, pc, fun hc => ?_, h3⟩
  obtain ⟨v, ov, rfl⟩ := isView_iff.mp hc
  dsimp only
  refine one_ret (.tup ((stys.filter fun st => clearB l st v).map styD)) (fun P k => ?_) (h4 v ov rfl)
  show lcGo (gN 2) (qV (dOp fIsN (dCall sd_pair_of (dCons (dV 0) (dCons (dV 2) (dCons (dV 1) dNil)))) (dC .non))) (dV 2) [.val (SsD l), .val (rowD v), .non] (fun ds => P (.tup ds)) (stys.map styD) []
  refine lc_gen (P := fun ds => P (.tup ds)) styD (fun st => clearB l st v) styD stys (fun st _ K k => ?_) (fun st _ _ K k => by exact k) k
  exact ⟨l, st, v, rfl, by have := (okL_len ol).2; omega, ov.le, isNone_D _ _ k⟩
end DL
namespace DL
open PySem PySem.Spec PyProof.Rows L2
/-! ### glances -/
theorem entry_of {i : Nat} {d : D} (hi : i ≤ 4) (h : isEntryD (i : Int) d = true) : ∃ s : Sgn, d = ent s i := by
  rcases (by omega : i = 0 ∨ i = 1 ∨ i = 2 ∨ i = 3 ∨ i = 4) with rfl | rfl | rfl | rfl | rfl
  · have h : isEntryD 0 d = true := h
    rw [isEntry0] at h
    obtain ⟨s, e⟩ := Option.isSome_iff_exists.mp h
    exact ⟨{ s0 with sh := s }, decSh_iff.mp e⟩
  · have h : isEntryD 1 d = true := h
    rw [isEntry1] at h
    obtain ⟨s, e⟩ := Option.isSome_iff_exists.mp h
    exact ⟨{ s0 with tn := s }, decTn_iff.mp e⟩
  · have h : isEntryD 2 d = true := h
    rw [isEntry2] at h
    obtain ⟨s, e⟩ := Option.isSome_iff_exists.mp h
    exact ⟨{ s0 with mv := s }, decMv_iff.mp e⟩
  · have h : isEntryD 3 d = true := h
    rw [isEntry3] at h
    obtain ⟨s, e⟩ := Option.isSome_iff_exists.mp h
    exact ⟨{ s0 with pl := s }, decPl_iff.mp e⟩
  · have h : isEntryD 4 d = true := h
    rw [isEntry4] at h
    obtain ⟨s, e⟩ := Option.isSome_iff_exists.mp h
    exact ⟨{ s0 with sc := s }, decSc_iff.mp e⟩
def isGlanceD (v : List Nat) : D → Bool
  | .tup es => decide (es.length = v.length) && (v.zip es).all fun p => isEntryD (p.1 : Int) p.2
  | _ => false
theorem ents_key : ∀ (v : List Nat) (es : List D), (∀ i ∈ v, i ≤ 4) → es.length = v.length → ((v.zip es).all fun p => isEntryD (p.1 : Int) p.2) = true → ∃ ks, nkPA (D.pyA es) = some ks ∧ ∀ d ∈ es, shn 1 d
  | [], [], _, _, _ => ⟨[], by simp [D.pyA, nkPA], fun d hd => by cases hd⟩
  | [], _ :: _, _, h, _ => by cases h
  | _ :: _, [], _, h, _ => by cases h
  | i :: v, e :: es, hv, h1, h2 => by
    rw [List.zip_cons_cons, List.all_cons, Bool.and_eq_true] at h2
    obtain ⟨ks, k1, k2⟩ := ents_key v es (fun j hj => hv j (List.mem_cons_of_mem _ hj)) (by simpa using h1) h2.2
    obtain ⟨s, rfl⟩ := entry_of (hv i (by simp)) h2.1
    refine ⟨entK s i :: ks, ?_, fun d hd => ?_⟩
    · rw [D.pyA, nkPA, nk_ent, k1]
    · rcases List.mem_cons.mp hd with rfl | hd
      · exact shn_ent s i
      · exact k2 d hd
theorem glance_key {v : List Nat} {d : D} (hv : ∀ i ∈ v, i ≤ 4) (h : isGlanceD v d = true) : ∃ k, nkP d.py = some k ∧ shn 2 d := by
  cases d with
  | tup es =>
    have h : (decide (es.length = v.length) && (v.zip es).all fun p => isEntryD (p.1 : Int) p.2) = true := h
    rw [Bool.and_eq_true, decide_eq_true_eq] at h
    obtain ⟨ks, k1, k2⟩ := ents_key v es hv h.1 h.2
    refine ⟨.tup ks, ?_, shn_tup k2⟩
    rw [D.py, nkP, k1]; rfl
  | _ => cases h
@[simp] def sd_is_glance : SpD := fun ds P _ => ∃ (v : List Nat) (d : D), ds = [rowD v, d] ∧ (∀ i ∈ v, i ≤ 4) ∧ d.plain = true ∧ P (.bl (isGlanceD v d))
theorem len_is_glance : ∀ ds P R, sd_is_glance ds P R → ds.length = 2 := fun ds P R h => by obtain ⟨_, _, rfl, _⟩ := h; rfl
def t_is_glance : DST :=
    (sSeq (sIf (qOr (qNot (qV (dIsT isTupD (dV 1)))) (qV (dOp fNe (dLen (dV 1)) (dLen (dV 0)))))
      (sRet (dC (.bl false)))
      sNext)
    (sRet (dAll (dOfL (dLc (dZip (dV 0) (dV 1)) (gT 2 (gsCons (gN 2) (gsCons (gN 3) gsNil))) qYes (dCall sd_is_entry (dCons (dV 2) (dCons (dV 3) dNil))) [2, 3])))))

theorem vc_is_glance : ∀ ds P R, sd_is_glance ds P R → t_is_glance (startR ["view", "value", "thing", "one"] ds) ⟨fun _ => P .non, P, fun _ => False, fun _ => False, R⟩ := fun ds P R h => by
  obtain ⟨v, d, rfl, hv, hp, h⟩ := h
  show t_is_glance [.val (rowD v), .val d, .non, .non] _
  cases d with
  | tup es =>
    have e0 : isGlanceD v (.tup es) = (decide (es.length = v.length) && (v.zip es).all fun p => isEntryD (p.1 : Int) p.2) := rfl
    rw [e0] at h
    refine seq_if_any (!decide (es.length = v.length)) (fun K kk => ?_) (fun z => ?_) (fun z => ?_)
    · refine (show ∀ (x0 x2 x3 : Sl) (K : Bool → Prop) (R : RX), K false → qNot (qV (dIsT isTupD (dV 1))) [x0, .val (.tup es), x2, x3] K R from fun x0 x2 x3 K R k => k) _ _ _ _ _ (iteF ?_)
      refine ⟨shp_int _, shp_int _, ?_⟩
      have e : ((es.length : Int) == ((v.map natD).length : Int)) = decide (es.length = v.length) := by rw [List.length_map, beq_dec', decide_eq_decide]; omega
      show K (!eqD (.int (es.length : Int)) (.int ((v.map natD).length : Int)))
      rw [eqD_int, e]; exact kk
    · rw [Bool.not_eq_true'] at z
      rw [z, Bool.false_and] at h; exact h
    · rw [Bool.not_eq_false'] at z
      rw [z, Bool.true_and] at h
      refine one_ret (.bl ((v.zip es).all fun p => isEntryD (p.1 : Int) p.2)) (fun P k => ?_) h
      have ez : zipD (v.map natD) es = (v.zip es).map fun p => D.tup [natD p.1, p.2] := by
        unfold zipD
        rw [List.zip_map_left, List.map_map]; rfl
      show lcGo _ _ _ _ _ (zipD (v.map natD) es) []
      rw [ez]
      refine lc_all2 (K := fun b => P (.bl b)) _ (fun p : Nat × D => [.val (rowD v), .val (.tup es), .val (natD p.1), .val p.2]) (fun p => isEntryD (p.1 : Int) p.2) _ (fun p _ K k => ⟨rfl, rfl, k⟩) (fun p hp' K k => ?_) k
      obtain ⟨m1, m2⟩ := List.of_mem_zip (a := p.1) (b := p.2) hp'
      have := hv p.1 m1
      rw [plain_tup] at hp
      exact ⟨⟨by omega, by omega⟩, List.all_eq_true.mp hp p.2 m2, k⟩
  | _ => first | exact h | (simp at hp)
/-! ### all rows, and those that are read -/
def rowsK (m : Nat) : Nat → List (List Nat)
  | 0 => [[]]
  | n + 1 => (rowsK m n).flatMap fun r => (List.range m).map fun i => r ++ [i]
theorem rowsK_ok {m : Nat} : ∀ {n : Nat} {r : List Nat}, r ∈ rowsK m n → r.length = n ∧ ∀ i ∈ r, i < m
  | 0, r, h => by
    rw [List.mem_singleton.mp h]
    exact ⟨rfl, fun i hi => by cases hi⟩
  | n + 1, r, h => by
    obtain ⟨q, hq, h⟩ := List.mem_flatMap.mp h
    obtain ⟨i, hi, rfl⟩ := List.mem_map.mp h
    obtain ⟨h1, h2⟩ := rowsK_ok hq
    refine ⟨by rw [List.length_append, h1]; rfl, fun j hj => ?_⟩
    rcases List.mem_append.mp hj with hj | hj
    · exact h2 j hj
    · rw [List.mem_singleton.mp hj]; exact List.mem_range.mp hi
theorem rowsK_len (m : Nat) : ∀ n, (rowsK m n).length = m ^ n
  | 0 => rfl
  | n + 1 => by
    have : ∀ l : List (List Nat), (l.flatMap fun r => (List.range m).map fun i => r ++ [i]).length = l.length * m := fun l => by
      induction l with
      | nil => simp
      | cons a r ih => rw [List.flatMap_cons, List.length_append, ih, List.length_map, List.length_range, List.length_cons, Nat.succ_mul]; omega
    show ((rowsK m n).flatMap _).length = _
    rw [this, rowsK_len m n, Nat.pow_succ]
/-- rows whose glances are these -/
def readL (l : List Sgn) (st : Bool × Bool) (v : List Nat) (ks : List NestedKey) : List (List Nat) := (rowsK l.length ks.length).filter fun r => decide (glsK l r st v = .tup ks)
/-- up to the last but one -/
def okPre (l : List Sgn) (st : Bool × Bool) (v : List Nat) (ks : List NestedKey) (r : List Nat) : Bool := decide ((((shownRow l r st).map (glK v)).take (r.length - 1)) = ks.take (r.length - 1))
theorem seenRow_get (l : List Sgn) (st : Bool × Bool) (i : Nat) : (seenRow l st)[i]? = if i < l.length then some (seenB (prevO l i) (l.getD i s0) l[i + 1]? st) else none := by
  unfold seenRow
  rw [List.getElem?_map]
  by_cases h : i < l.length
  · rw [List.getElem?_range h, if_pos h]; rfl
  · rw [List.getElem?_eq_none (by simpa using h), if_neg h]; rfl
theorem pick_append (l : List Sgn) (r q : List Nat) : pick l (r ++ q) = pick l r ++ pick l q := by unfold pick; rw [List.map_append]
theorem pick_len (l : List Sgn) (r : List Nat) : (pick l r).length = r.length := by unfold pick; rw [List.length_map]
/-- what stands before the last sign is seen without the sign that comes -/
theorem shown_pre (l : List Sgn) (st : Bool × Bool) (r : List Nat) (i : Nat) : (shownRow l (r ++ [i]) st).take (r.length - 1) = (shownRow l r st).take (r.length - 1) := by
  apply List.ext_getElem?
  intro j
  by_cases h : j < r.length - 1
  · rw [List.getElem?_take_of_lt h, List.getElem?_take_of_lt h]
    unfold shownRow
    rw [seenRow_get, seenRow_get, pick_len, pick_len, List.length_append, if_pos (by omega), if_pos (by omega), pick_append]
    have e1 : ∀ k, k < r.length → (pick l r ++ pick l [i])[k]? = (pick l r)[k]? := fun k hk => List.getElem?_append_left (by rw [pick_len]; exact hk)
    have e2 : prevO (pick l r ++ pick l [i]) j = prevO (pick l r) j := by
      unfold prevO
      split
      · rfl
      · exact e1 _ (by omega)
    rw [e2, e1 (j + 1) (by omega), List.getD_eq_getElem?_getD, List.getD_eq_getElem?_getD, e1 j (by omega)]
  · rw [List.getElem?_eq_none (by rw [List.length_take]; omega), List.getElem?_eq_none (by rw [List.length_take]; omega)]
/-- the test of a row that grows -/
def testL (l : List Sgn) (st : Bool × Bool) (v : List Nat) (ks : List NestedKey) (n : Nat) (t : List Nat) : Bool := decide (n = 0) || decide (((shownRow l t st).map (glK v))[n - 1]? = ks[n - 1]?)
theorem okPre_snoc (l : List Sgn) (st : Bool × Bool) (v : List Nat) (ks : List NestedKey) (r : List Nat) (i : Nat) (h : r.length ≤ ks.length) : okPre l st v ks (r ++ [i]) = (okPre l st v ks r && testL l st v ks r.length (r ++ [i])) := by
  unfold okPre testL
  rw [List.length_append, List.length_singleton, Nat.add_sub_cancel]
  cases hn : r.length with
  | zero => simp
  | succ n =>
    rw [Nat.add_sub_cancel, decide_eq_false (show ¬ n + 1 = 0 by omega), Bool.false_or, List.take_succ, List.take_succ, ← List.map_take]
    have e := shown_pre l st r i
    rw [hn, Nat.add_sub_cancel] at e
    rw [e, List.map_take]
    have h1 : (((shownRow l (r ++ [i]) st).map (glK v))[n]?).toList.length = 1 := by
      rw [List.getElem?_eq_getElem (by rw [List.length_map, shownRow_len, List.length_append, hn]; omega)]; rfl
    have h2 : (ks[n]?).toList.length = 1 := by
      rw [List.getElem?_eq_getElem (by omega)]; rfl
    rw [Bool.eq_iff_iff, Bool.and_eq_true, decide_eq_true_iff, decide_eq_true_iff, decide_eq_true_iff]
    constructor
    · intro z
      have z1 := List.append_inj' z (by rw [h1, h2])
      refine ⟨z1.1, ?_⟩
      have := z1.2
      cases a : ((shownRow l (r ++ [i]) st).map (glK v))[n]? with
      | none => rw [a] at h1; cases h1
      | some x =>
        cases b : ks[n]? with
        | none => rw [b] at h2; cases h2
        | some y =>
          rw [a, b] at this
          have : [x] = [y] := this
          injection this with this
          rw [this]
    · rintro ⟨z1, z2⟩
      rw [z1, z2]
def preK (l : List Sgn) (st : Bool × Bool) (v : List Nat) (ks : List NestedKey) (n : Nat) : List (List Nat) := (rowsK l.length n).filter (okPre l st v ks)
def stepK (l : List Sgn) (st : Bool × Bool) (v : List Nat) (ks : List NestedKey) (r : List Nat) : List (List Nat) := ((List.range l.length).filter fun i => testL l st v ks r.length (r ++ [i])).map fun i => r ++ [i]
theorem flat_congr {α β : Type} {f g : α → List β} : ∀ {l : List α}, (∀ x ∈ l, f x = g x) → l.flatMap f = l.flatMap g
  | [], _ => rfl
  | a :: l, h => by rw [List.flatMap_cons, List.flatMap_cons, h a (by simp), flat_congr fun x hx => h x (List.mem_cons_of_mem _ hx)]
theorem flat_filter {α β : Type} (p : α → Bool) (f g : α → List β) (h1 : ∀ a, p a = true → f a = g a) (h2 : ∀ a, p a = false → f a = []) : ∀ l : List α, l.flatMap f = (l.filter p).flatMap g
  | [] => rfl
  | a :: l => by
    rw [List.flatMap_cons, flat_filter p f g h1 h2 l]
    cases q : p a with
    | true => rw [List.filter_cons_of_pos q, List.flatMap_cons, h1 a q]
    | false => rw [List.filter_cons_of_neg (by simp [q]), h2 a q, List.nil_append]
theorem preK_succ (l : List Sgn) (st : Bool × Bool) (v : List Nat) (ks : List NestedKey) (n : Nat) (h : n ≤ ks.length) : preK l st v ks (n + 1) = (preK l st v ks n).flatMap (stepK l st v ks) := by
  unfold preK
  show (List.filter _ ((rowsK l.length n).flatMap _)) = _
  rw [List.filter_flatMap]
  have key : ∀ r ∈ rowsK l.length n, ((List.range l.length).map fun i => r ++ [i]).filter (okPre l st v ks) = if okPre l st v ks r = true then stepK l st v ks r else [] := fun r hr => by
    have hl := (rowsK_ok hr).1
    rw [List.filter_map]
    unfold stepK
    have e : (okPre l st v ks ∘ fun i => r ++ [i]) = fun i => okPre l st v ks r && testL l st v ks r.length (r ++ [i]) := funext fun i => okPre_snoc l st v ks r i (by omega)
    rw [e]
    cases okPre l st v ks r with
    | true => simp only [Bool.true_and, if_true]
    | false => simp
  rw [flat_congr key]
  exact flat_filter (okPre l st v ks) _ _ (fun r h => if_pos h) (fun r h => if_neg (by rw [h]; decide)) _
theorem read_pre (l : List Sgn) (st : Bool × Bool) (v : List Nat) (ks : List NestedKey) : (preK l st v ks ks.length).filter (fun r => decide (glsK l r st v = .tup ks)) = readL l st v ks := by
  unfold preK readL
  rw [List.filter_filter]
  refine List.filter_congr fun r hr => ?_
  cases q : decide (glsK l r st v = .tup ks) with
  | false => rw [Bool.false_and]
  | true =>
    rw [Bool.true_and]
    have e := of_decide_eq_true q
    unfold glsK at e
    injection e with e
    unfold okPre
    rw [e]; simp
theorem preK_len (l : List Sgn) (st : Bool × Bool) (v : List Nat) (ks : List NestedKey) (n : Nat) : (preK l st v ks n).length ≤ l.length ^ n := by
  rw [← rowsK_len]; exact List.length_filter_le _ _
/-! ### read -/
def isGlsD (v : List Nat) : D → Bool
  | .tup ds => decide (ds.length ≤ 5) && ds.all (isGlanceD v)
  | _ => false
/-- glances with their keys -/
structure Gls (ds : List D) (ks : List NestedKey) : Prop where
  key : nkPA (D.pyA ds) = some ks
  shn : ∀ d ∈ ds, shn 2 d
theorem gls_of {v : List Nat} (hv : ∀ i ∈ v, i ≤ 4) : ∀ {ds : List D}, ds.all (isGlanceD v) = true → ∃ ks, Gls ds ks
  | [], _ => ⟨[], by simp [D.pyA, nkPA], fun d hd => by cases hd⟩
  | d :: ds, h => by
    rw [List.all_cons, Bool.and_eq_true] at h
    obtain ⟨k, k1, k2⟩ := glance_key hv h.1
    obtain ⟨ks, h1⟩ := gls_of hv h.2
    refine ⟨k :: ks, by rw [D.pyA, nkPA, k1, h1.key], fun x hx => ?_⟩
    rcases List.mem_cons.mp hx with rfl | hx
    · exact k2
    · exact h1.shn x hx
theorem Gls.nk {ds : List D} {ks : List NestedKey} (h : Gls ds ks) : nkP (D.tup ds).py = some (.tup ks) := by rw [D.py, nkP, h.key]; rfl
theorem Gls.len : ∀ {ds : List D} {ks : List NestedKey}, Gls ds ks → ds.length = ks.length
  | [], ks, h => by
    have := h.key
    rw [D.pyA, nkPA] at this; cases this; rfl
  | d :: ds, ks, h => by
    have e := h.key
    rw [D.pyA] at e
    obtain ⟨k, r, h1, h2, rfl⟩ := nk_cons e
    rw [List.length_cons, List.length_cons, Gls.len ⟨h2, fun x hx => h.shn x (List.mem_cons_of_mem _ hx)⟩]
theorem Gls.get : ∀ {ds : List D} {ks : List NestedKey} {j : Nat}, Gls ds ks → j < ds.length → ∃ d k, ds[j]? = some d ∧ ks[j]? = some k ∧ nkP d.py = some k ∧ DL.shn 2 d
  | [], ks, j, h, hj => by cases hj
  | d :: ds, ks, j, h, hj => by
    have e := h.key
    rw [D.pyA] at e
    obtain ⟨k, r, h1, h2, rfl⟩ := nk_cons e
    cases j with
    | zero => exact ⟨d, k, rfl, rfl, h1, h.shn d (by simp)⟩
    | succ j => exact Gls.get (j := j) ⟨h2, fun x hx => h.shn x (List.mem_cons_of_mem _ hx)⟩ (by simpa using hj)
@[simp] def sd_read : SpD := fun ds P R => ∃ a s b c, ds = [a, s, b, c] ∧ s.plain = true ∧ Args a b c R fun l st v => (isGlsD v s = false → R "InvalidGlances") ∧ ∀ gs ks, s = .tup gs → gs.length ≤ 5 → gs.all (isGlanceD v) = true → Gls gs ks → P (.lst ((readL l st v ks).map rowD))
theorem len_read : ∀ ds P R, sd_read ds P R → ds.length = 4 := fun ds P R h => by obtain ⟨_, _, _, _, rfl, _⟩ := h; rfl
theorem step_len (l : List Sgn) (st : Bool × Bool) (v : List Nat) (ks : List NestedKey) (h : l.length ≤ 6) : ∀ rs : List (List Nat), (rs.flatMap (stepK l st v ks)).length ≤ rs.length * 6
  | [] => by simp
  | a :: r => by
    have ih := step_len l st v ks h r
    rw [List.flatMap_cons, List.length_append, List.length_cons]
    have : (stepK l st v ks a).length ≤ 6 := by
      unfold stepK
      rw [List.length_map]
      refine Nat.le_trans (List.length_filter_le _ _) ?_
      rw [List.length_range]; exact h
    omega
def t_read : DST :=
    (sSeq (sDrop (dCall sd_check_signs (dCons (dV 0) dNil)))
    (sSeq (sDrop (dCall sd_check_style (dCons (dV 2) dNil)))
    (sSeq (sDrop (dCall sd_check_view (dCons (dV 3) dNil)))
    (sSeq (sIf (qOr (qNot (qV (dIsT isTupD (dV 1)))) (qOr (qV (dOp (fII fun i j => .bl (decide (j < i))) (dLen (dV 1)) (dC (.int 5)))) (qNot (qV (dAll (dOfL (dLc (dItems (dV 1)) (gN 4) qYes (dCall sd_is_glance (dCons (dV 3) (dCons (dV 4) dNil))) [4])))))))
      (sRaise "InvalidGlances")
      sNext)
    (sSeq (sAsg (dOfL (dLst (dCons (dTup dNil) dNil))) (gN 5))
    (sSeq (sFor (dRange (dLen (dV 1))) (gN 6)
      (sSeq (sNew 7 (dLst dNil))
      (sSeq (sFor (dItems (dV 5)) (gN 8)
        (sFor (dRange (dLen (dV 0))) (gN 9)
          (sSeq (sAsg (dOp fAdd (dV 8) (dTup (dCons (dV 9) dNil))) (gN 10))
          (sIf (qOr (qV (dOp fEq (dV 6) (dC (.int 0)))) (qV (dOp fEq (dOp fIx (dCall sd_glances_of (dCons (dV 0) (dCons (dV 10) (dCons (dV 2) (dCons (dV 3) dNil))))) (dOp (fII fun i j => .int (i - j)) (dV 6) (dC (.int 1)))) (dOp fIx (dV 1) (dOp (fII fun i j => .int (i - j)) (dV 6) (dC (.int 1)))))))
            (sApp 7 (dV 10))
            sNext))))
      (sGive 7 (sAsg (dV 7) (gN 5))))))
    (sRet (dOfL (dLc (dItems (dV 5)) (gN 8) (qV (dOp fEq (dCall sd_glances_of (dCons (dV 0) (dCons (dV 8) (dCons (dV 2) (dCons (dV 3) dNil))))) (dV 1))) (dV 8) [8])))))))))

theorem vc_read : ∀ ds P R, sd_read ds P R → t_read (startR ["signs", "some", "style", "view", "one", "rows", "at", "longer", "row", "number", "there"] ds) ⟨fun _ => P .non, P, fun _ => False, fun _ => False, R⟩ := fun ds P R h => by
  obtain ⟨a, s, b, c, rfl, ps, pa, pb, pc, h1, h2⟩ := h
  show t_read [.val a, .val s, .val b, .val c, .non, .non, .non, .non, .non, .non, .non] _
  refine ⟨a, rfl, pa, fun ha => ?_, h1⟩
  obtain ⟨l, ol, rfl⟩ := areSigns_iff.mp ha
  obtain ⟨h3, h4⟩ := h2 l ol rfl
  refine ⟨b, rfl, pb, fun hb => ?_, h3⟩
  obtain ⟨st, rfl⟩ := isSty_iff.mp hb
  obtain ⟨h5, h6⟩ := h4 st rfl
  refine ⟨c, rfl, pc, fun hc => ?_, h5⟩
  obtain ⟨v, ov, rfl⟩ := isView_iff.mp hc
  obtain ⟨h7, h8⟩ := h6 v ov rfl
  dsimp only
  refine seq_if_any (!isGlsD v s) (fun K kk => ?_) (fun z => ?_) (fun z => ?_)
  · cases s with
    | tup gs =>
      refine (show ∀ (x0 x2 x3 x4 x5 x6 x7 x8 x9 x10 : Sl) (K : Bool → Prop) (R : RX), K false → qNot (qV (dIsT isTupD (dV 1))) [x0, .val (.tup gs), x2, x3, x4, x5, x6, x7, x8, x9, x10] K R from fun x0 x2 x3 x4 x5 x6 x7 x8 x9 x10 K R k => k) _ _ _ _ _ _ _ _ _ _ _ _ (iteF ?_)
      have kk : K (!(decide (gs.length ≤ 5) && gs.all (isGlanceD v))) := kk
      have e : decide ((5 : Int) < (gs.length : Int)) = !decide (gs.length ≤ 5) := by rw [← decide_not, decide_eq_decide]; omega
      show (if decide ((5 : Int) < (gs.length : Int)) = true then K true else _)
      rw [e]
      cases q : decide (gs.length ≤ 5) with
      | false => rw [q] at kk; exact kk
      | true =>
        rw [q, Bool.true_and] at kk
        refine iteF ?_
        refine lc_all (K := fun b => K (!b)) (isGlanceD v) gs (fun x hx K k => ⟨v, x, rfl, ov.le, ?_, k⟩) kk
        rw [plain_tup] at ps
        exact List.all_eq_true.mp ps x hx
    | _ => first | exact kk | (simp at ps)
  · rw [Bool.not_eq_true'] at z
    exact h7 z
  rw [Bool.not_eq_false'] at z
  cases s with
  | tup gs =>
    have z : (decide (gs.length ≤ 5) && gs.all (isGlanceD v)) = true := z
    rw [Bool.and_eq_true, decide_eq_true_eq] at z
    obtain ⟨ks, hg⟩ := gls_of ov.le z.2
    have h8 := h8 gs ks rfl z.1 z.2 hg
    have l6 := okL_len ol
    have lk := hg.len
    refine seq_asg (.lst [.tup []]) (fun P k => ⟨line0, line1, k⟩) ?_
    simp only [List.set_cons_succ, List.set_cons_zero]
    have r0 : ([D.tup []] : List D) = (preK l st v ks 0).map rowD := rfl
    rw [r0]
    refine seq_for ((List.range gs.length).map natD) (fun P k => ⟨⟨by omega, by omega⟩, by rw [rangeN]; exact k⟩) ?_
    refine for_inv natD (fun pre ρ => ∃ x4 x6 x7 x8 x9 x10 : Sl, ρ = [.val (SsD l), .val (.tup gs), .val (styD st), .val (rowD v), x4, .val (.lst ((preK l st v ks pre.length).map rowD)), x6, x7, x8, x9, x10]) (List.range gs.length) [] _ ⟨.non, .non, .non, .non, .non, .non, rfl⟩ ?_ ?_
    · rintro pre n post _ N hp ⟨x4, x6, x7, x8, x9, x10, rfl⟩ hN
      obtain ⟨rfl, hn⟩ := range_split hp
      generalize hn' : pre.length = n at hn
      simp only [List.set_cons_succ, List.set_cons_zero]
      refine seq_new [] (fun P k => ⟨line0, k⟩) ?_
      simp only [List.set_cons_succ, List.set_cons_zero]
      refine seq_for ((preK l st v ks n).map rowD) (fun P k => k) ?_
      refine for_inv rowD (fun pre2 ρ => ∃ x4 x8 x9 x10 : Sl, ρ = [.val (SsD l), .val (.tup gs), .val (styD st), .val (rowD v), x4, .val (.lst ((preK l st v ks n).map rowD)), .val (natD n), .own ((pre2.flatMap (stepK l st v ks)).map rowD), x8, x9, x10]) (preK l st v ks n) [] _ ⟨x4, x8, x9, x10, rfl⟩ ?_ ?_
      · rintro pre2 r post2 _ N2 hp2 ⟨x4, x8, x9, x10, rfl⟩ hN2
        simp only [List.set_cons_succ, List.set_cons_zero]
        have hr : r ∈ preK l st v ks n := by rw [List.nil_append] at hp2; rw [hp2]; simp
        obtain ⟨rl, ri⟩ := rowsK_ok (m := l.length) (n := n) (r := r) (List.mem_filter.mp (show r ∈ (rowsK l.length n).filter (okPre l st v ks) from hr)).1
        have hp2l : pre2.length < (preK l st v ks n).length := by
          rw [List.nil_append] at hp2; rw [hp2]; simp
        have fl := step_len l st v ks l6.2 pre2
        have big : (preK l st v ks n).length ≤ 6 ^ 5 := Nat.le_trans (preK_len l st v ks n) (Nat.le_trans (Nat.pow_le_pow_left l6.2 n) (Nat.pow_le_pow_right (by decide) (by omega)))
        refine one_for ((List.range l.length).map natD) (fun P k => ⟨⟨by omega, by rw [List.length_map]; omega⟩, by rw [List.length_map, rangeN]; exact k⟩) ?_
        refine for_inv natD (fun pre3 ρ => ∃ x4 x9 x10 : Sl, ρ = [.val (SsD l), .val (.tup gs), .val (styD st), .val (rowD v), x4, .val (.lst ((preK l st v ks n).map rowD)), .val (natD n), .own (((pre2.flatMap (stepK l st v ks)) ++ (pre3.filter fun i => testL l st v ks r.length (r ++ [i])).map fun i => r ++ [i]).map rowD), .val (rowD r), x9, x10]) (List.range l.length) [] _ ⟨x4, x9, x10, by simp⟩ ?_ ?_
        · rintro pre3 i post3 _ N3 hp3 ⟨x4, x9, x10, rfl⟩ hN3
          obtain ⟨ei, hi⟩ := range_split hp3
          simp only [List.set_cons_succ, List.set_cons_zero]
          have e1 : D.tup (r.map natD ++ [natD i]) = rowD (r ++ [i]) := by unfold rowD; rw [List.map_append]; rfl
          refine seq_asg (rowD (r ++ [i])) (fun P k => ⟨line1, ?_, ?_⟩) ?_
          · rw [List.length_map, rl]; exact ofNat_line (by show n + 1 ≤ 1000; omega)
          · rw [e1]; exact k
          simp only [List.set_cons_succ, List.set_cons_zero]
          have hi2 : i < l.length := by omega
          have tok : (∀ j ∈ r ++ [i], j < l.length) := fun j hj => by
            rcases List.mem_append.mp hj with hj | hj
            · exact ri j hj
            · rw [List.mem_singleton.mp hj]; exact hi2
          refine one_if (testL l st v ks r.length (r ++ [i])) (fun K kk => ?_) (fun z => ?_) (fun z => ?_)
          · refine ⟨shp_int _, shp_int _, ?_⟩
            have e : ((n : Int) == 0) = decide (n = 0) := by rw [beq_dec', decide_eq_decide]; omega
            show (if eqD (.int (n : Int)) (.int 0) = true then K true else _)
            rw [eqD_int, e]
            unfold testL at kk
            rw [rl] at kk
            cases q : decide (n = 0) with
            | true => rw [q, Bool.true_or] at kk; exact iteT kk
            | false =>
              rw [q, Bool.false_or] at kk
              have q := of_decide_eq_false q
              refine iteF ?_
              refine ⟨l, r ++ [i], st, v, rfl, tok, by rw [List.length_append, rl]; simp; omega, ov.le, ?_⟩
              have en : (n : Int) - 1 = ((n - 1 : Nat) : Int) := by omega
              show atD ((shownRow l (r ++ [i]) st).map (glD v)) ((n : Int) - 1) _
              rw [en]
              have hlen : n - 1 < (shownRow l (r ++ [i]) st).length := by rw [shownRow_len, List.length_append, rl]; omega
              unfold atD
              rw [atI_nat (v := glD v ((shownRow l (r ++ [i]) st)[n - 1])) (by rw [List.getElem?_map, List.getElem?_eq_getElem hlen]; rfl)]
              obtain ⟨d, k, hd, hk, hd2, hd3⟩ := hg.get (j := n - 1) (by omega)
              show atD gs ((n : Int) - 1) _
              rw [en]
              unfold atD
              rw [atI_nat hd]
              refine ⟨(shn_gl _ _).shp, hd3.shp, ?_⟩
              rw [eqD_key (nk_gl v _) hd2]
              rw [List.getElem?_map, List.getElem?_eq_getElem hlen, hk] at kk
              have : decide (Option.map (glK v) (some ((shownRow l (r ++ [i]) st)[n - 1])) = some k) = decide (glK v ((shownRow l (r ++ [i]) st)[n - 1]) = k) := by
                rw [decide_eq_decide, Option.map_some]
                exact ⟨fun e => Option.some.inj e, fun e => by rw [e]⟩
              rw [this] at kk
              exact kk
          · refine one_app (d := rowD (r ++ [i])) rfl (fun P k => k) ?_ ?_
            · rw [List.length_map, List.length_append, List.length_map]
              have : (pre3.filter fun i => testL l st v ks r.length (r ++ [i])).length ≤ pre3.length := List.length_filter_le _ _
              have b5 : (6 : Nat) ^ 5 = 7776 := by decide
              exact Nat.lt_of_le_of_lt (show _ ≤ 60000 by omega) (by decide)
            simp only [List.set_cons_succ, List.set_cons_zero]
            have e2 : ((pre2.flatMap (stepK l st v ks)) ++ (pre3.filter fun i => testL l st v ks r.length (r ++ [i])).map fun i => r ++ [i]).map rowD ++ [rowD (r ++ [i])] = ((pre2.flatMap (stepK l st v ks)) ++ ((pre3 ++ [i]).filter fun i => testL l st v ks r.length (r ++ [i])).map fun i => r ++ [i]).map rowD := by
              rw [List.filter_append, List.filter_cons_of_pos (p := fun i => testL l st v ks r.length (r ++ [i])) z, List.filter_nil]
              simp
            exact hN3 _ ⟨x4, .val (natD i), .val (rowD (r ++ [i])), by rw [e2]⟩
          · have e2 : ((pre3 ++ [i]).filter fun i => testL l st v ks r.length (r ++ [i])) = pre3.filter fun i => testL l st v ks r.length (r ++ [i]) := by
              rw [List.filter_append, List.filter_cons_of_neg (p := fun i => testL l st v ks r.length (r ++ [i])) (by rw [z]; decide), List.filter_nil, List.append_nil]
            exact hN3 _ ⟨x4, .val (natD i), .val (rowD (r ++ [i])), by rw [e2]⟩
        · rintro _ ⟨x4, x9, x10, rfl⟩
          refine hN2 _ ⟨x4, .val (rowD r), x9, x10, ?_⟩
          rw [List.flatMap_append, List.nil_append]
          congr 8
          simp [stepK]
      · rintro _ ⟨x4, x8, x9, x10, rfl⟩
        dsimp only
        refine give_at rfl ?_
        simp only [List.set_cons_succ, List.set_cons_zero]
        refine one_asg _ (fun P k => k) ?_
        simp only [List.set_cons_succ, List.set_cons_zero]
        have e3 : preK l st v ks (pre ++ [pre.length]).length = ([] ++ preK l st v ks n).flatMap (stepK l st v ks) := by
          rw [List.length_append, List.length_singleton, hn', preK_succ l st v ks n (by omega), List.nil_append]
        exact hN _ ⟨x4, .val (natD n), .val (.lst ((([] ++ preK l st v ks n).flatMap (stepK l st v ks)).map rowD)), x8, x9, x10, by rw [e3]⟩
    · rintro _ ⟨x4, x6, x7, x8, x9, x10, rfl⟩
      rw [List.nil_append, List.length_range]
      dsimp only
      refine one_ret (.lst ((readL l st v ks).map rowD)) (fun P k => ?_) h8
      rw [← read_pre, ← lk] at k
      refine lc_gen (P := fun ds => P (.lst ds)) rowD _ rowD (preK l st v ks gs.length) (fun r hr K kk => ?_) (fun r hr _ K kk => kk) k
      obtain ⟨rl, ri⟩ := rowsK_ok (m := l.length) (n := gs.length) (r := r) (List.mem_filter.mp (show r ∈ (rowsK l.length gs.length).filter (okPre l st v ks) from hr)).1
      refine ⟨l, r, st, v, rfl, ri, by omega, ov.le, (shn_gls _ _ _ _).shp, (shn_tup hg.shn).shp, ?_⟩
      rw [eqD_key (nk_gls l r st v) (hg.nk)]
      exact kk
  | _ => cases z
/-- readings, their number: their arguments -/
def ArgsG (a s b c : D) (R : RX) (K : List (List Nat) → Prop) : Prop := s.plain = true ∧ Args a b c R fun l st v => (isGlsD v s = false → R "InvalidGlances") ∧ ∀ gs ks, s = .tup gs → gs.length ≤ 5 → gs.all (isGlanceD v) = true → Gls gs ks → K (readL l st v ks)
@[simp] def sd_readings : SpD := fun ds P R => ∃ a s b c, ds = [a, s, b, c] ∧ ArgsG a s b c R fun rs => P (.tup (rs.map rowD))
theorem len_readings : ∀ ds P R, sd_readings ds P R → ds.length = 4 := fun ds P R h => by obtain ⟨_, _, _, _, rfl, _⟩ := h; rfl
def t_readings : DST :=
    (sRet (dTuple (dCall sd_read (dCons (dV 0) (dCons (dV 1) (dCons (dV 2) (dCons (dV 3) dNil)))))))

theorem vc_readings : ∀ ds P R, sd_readings ds P R → t_readings (startR ["signs", "some", "style", "view"] ds) ⟨fun _ => P .non, P, fun _ => False, fun _ => False, R⟩ := fun ds P R h => by
  obtain ⟨a, s, b, c, rfl, h⟩ := h
  exact ⟨a, s, b, c, rfl, h⟩
@[simp] def sd_count_readings : SpD := fun ds P R => ∃ a s b c, ds = [a, s, b, c] ∧ ArgsG a s b c R fun rs => P (.int rs.length)
theorem len_count_readings : ∀ ds P R, sd_count_readings ds P R → ds.length = 4 := fun ds P R h => by obtain ⟨_, _, _, _, rfl, _⟩ := h; rfl
def t_count_readings : DST :=
    (sRet (dLen (dCall sd_read (dCons (dV 0) (dCons (dV 1) (dCons (dV 2) (dCons (dV 3) dNil)))))))

theorem vc_count_readings : ∀ ds P R, sd_count_readings ds P R → t_count_readings (startR ["signs", "some", "style", "view"] ds) ⟨fun _ => P .non, P, fun _ => False, fun _ => False, R⟩ := fun ds P R h => by
  obtain ⟨a, s, b, c, rfl, h1, h2, h3, h4, h5, h6⟩ := h
  refine ⟨a, s, b, c, rfl, h1, h2, h3, h4, h5, fun l ol e => ⟨(h6 l ol e).1, fun st e2 => ⟨((h6 l ol e).2 st e2).1, fun v ov e3 => ⟨(((h6 l ol e).2 st e2).2 v ov e3).1, fun gs ks e4 h7 h8 h9 => ?_⟩⟩⟩⟩
  have := (((h6 l ol e).2 st e2).2 v ov e3).2 gs ks e4 h7 h8 h9
  show P (.int (((readL l st v ks).map rowD).length : Int))
  rw [List.length_map]; exact this
@[simp] def sd_law_lines : SpD := fun ds P _ => ∃ m n : Nat, ds = [.int (m : Int), .int (n : Int)] ∧ m ^ n ≤ 100000 ∧ n ≤ 100 ∧ m ≤ 100 ∧ P (.lst ((rowsK m n).map rowD))
theorem len_law_lines : ∀ ds P R, sd_law_lines ds P R → ds.length = 2 := fun ds P R h => by obtain ⟨_, _, rfl, _⟩ := h; rfl
def t_law_lines : DST :=
    (sSeq (sAsg (dOfL (dLst (dCons (dTup dNil) dNil))) (gN 2))
    (sSeq (sFor (dRange (dV 1)) (gN 3)
      (sSeq (sNew 4 (dLst dNil))
      (sSeq (sFor (dItems (dV 2)) (gN 5)
        (sExt 4 (dOfL (dLc (dRange (dV 0)) (gN 6) qYes (dOp fAdd (dV 5) (dTup (dCons (dV 6) dNil))) [6]))))
      (sGive 4 (sAsg (dV 4) (gN 2))))))
    (sRet (dV 2))))

theorem vc_law_lines : ∀ ds P R, sd_law_lines ds P R → t_law_lines (startR ["_law_many", "_law_long", "_law_rows", "_law_k", "_law_longer", "_law_row", "_law_number"] ds) ⟨fun _ => P .non, P, fun _ => False, fun _ => False, R⟩ := fun ds P R h => by
  obtain ⟨m, n, rfl, hmn, hn, hm, h⟩ := h
  show t_law_lines [.val (.int m), .val (.int n), .non, .non, .non, .non, .non] _
  refine seq_asg (.lst [.tup []]) (fun P k => ⟨line0, line1, k⟩) ?_
  simp only [List.set_cons_succ, List.set_cons_zero]
  have r0 : ([D.tup []] : List D) = (rowsK m 0).map rowD := rfl
  rw [r0]
  refine seq_for ((List.range n).map natD) (fun P k => ⟨⟨by omega, by omega⟩, by rw [rangeN]; exact k⟩) ?_
  refine for_inv natD (fun pre ρ => ∃ x3 x4 x5 x6 : Sl, ρ = [.val (.int m), .val (.int n), .val (.lst ((rowsK m pre.length).map rowD)), x3, x4, x5, x6]) (List.range n) [] _ ⟨.non, .non, .non, .non, rfl⟩ ?_ ?_
  · rintro pre j post _ N hp ⟨x3, x4, x5, x6, rfl⟩ hN
    obtain ⟨rfl, hj⟩ := range_split hp
    generalize hj' : pre.length = j at hj
    simp only [List.set_cons_succ, List.set_cons_zero]
    refine seq_new [] (fun P k => ⟨line0, k⟩) ?_
    simp only [List.set_cons_succ, List.set_cons_zero]
    refine seq_for ((rowsK m j).map rowD) (fun P k => k) ?_
    refine for_inv rowD (fun pre2 ρ => ∃ x5 x6 : Sl, ρ = [.val (.int m), .val (.int n), .val (.lst ((rowsK m j).map rowD)), .val (natD j), .own ((pre2.flatMap fun r => (List.range m).map fun i => r ++ [i]).map rowD), x5, x6]) (rowsK m j) [] _ ⟨x5, x6, rfl⟩ ?_ ?_
    · rintro pre2 r post2 _ N2 hp2 ⟨x5, x6, rfl⟩ hN2
      simp only [List.set_cons_succ, List.set_cons_zero]
      have hr : r ∈ rowsK m j := by rw [List.nil_append] at hp2; rw [hp2]; simp
      obtain ⟨rl, ri⟩ := rowsK_ok hr
      refine one_ext (es := (List.range m).map fun i => rowD (r ++ [i])) rfl (fun P k => ⟨⟨by omega, by omega⟩, ?_⟩) ?_ ?_
      · rw [rangeN]
        refine lc_map (P := fun ds => P (.lst ds)) natD (fun i => rowD (r ++ [i])) (List.range m) (fun i _ K k => ⟨line1, ?_, ?_⟩) k
        · rw [List.length_map, rl]; exact ofNat_line (by show j + 1 ≤ 1000; omega)
        · have e1 : D.tup (r.map natD ++ [natD i]) = rowD (r ++ [i]) := by unfold rowD; rw [List.map_append]; rfl
          rw [e1]; exact k
      · have e : ((rowsK m (j + 1)).length) = m ^ (j + 1) := rowsK_len m (j + 1)
        have e2 : rowsK m (j + 1) = (pre2 ++ r :: post2).flatMap fun r => (List.range m).map fun i => r ++ [i] := by rw [← hp2, List.nil_append]; rfl
        rw [e2, List.flatMap_append, List.flatMap_cons, List.length_append, List.length_append, List.length_map, List.length_range] at e
        have e3 : m ^ (j + 1) ≤ 100000 := by
          rcases Nat.eq_zero_or_pos m with rfl | hm0
          · rw [Nat.zero_pow (by omega)]; omega
          · exact Nat.le_trans (Nat.pow_le_pow_right hm0 hj) hmn
        rw [List.length_map, List.length_map, List.length_range]
        exact Nat.le_trans (show _ ≤ 100000 by omega) (by decide)
      simp only [List.set_cons_succ, List.set_cons_zero]
      have e4 : (pre2.flatMap fun r => (List.range m).map fun i => r ++ [i]).map rowD ++ (List.range m).map (fun i => rowD (r ++ [i])) = ((pre2 ++ [r]).flatMap fun r => (List.range m).map fun i => r ++ [i]).map rowD := by
        rw [List.flatMap_append, List.map_append]
        congr 1
        simp
      exact hN2 _ ⟨.val (rowD r), x6, by rw [e4]⟩
    · rintro _ ⟨x5, x6, rfl⟩
      dsimp only
      refine give_at rfl ?_
      simp only [List.set_cons_succ, List.set_cons_zero]
      refine one_asg _ (fun P k => k) ?_
      simp only [List.set_cons_succ, List.set_cons_zero]
      have e3 : rowsK m (pre ++ [pre.length]).length = ([] ++ rowsK m j).flatMap fun r => (List.range m).map fun i => r ++ [i] := by
        rw [List.length_append, List.length_singleton, hj', List.nil_append]; rfl
      exact hN _ ⟨.val (natD j), .val (.lst ((([] ++ rowsK m j).flatMap fun r => (List.range m).map fun i => r ++ [i]).map rowD)), x5, x6, by rw [e3]⟩
  · rintro _ ⟨x3, x4, x5, x6, rfl⟩
    rw [List.nil_append, List.length_range]
    exact h
end DL
namespace DL
open PySem PySem.Spec PyProof.Rows L2
/-! ### the first pair: when there is none -/
theorem firstP_none {α : Type} (R : α → α → Bool) : ∀ (rows acc : List α), firstP R rows acc = none ↔ (∀ r ∈ rows, ∀ a ∈ acc, R a r = false) ∧ rows.Pairwise fun a b => R a b = false
  | [], acc => by simp [firstP]
  | r :: rows, acc => by
    unfold firstP
    cases q : acc.find? (fun a => R a r) with
    | some a =>
      have h1 := List.find?_some q
      have h2 := List.mem_of_find?_eq_some q
      simp only [reduceCtorEq, false_iff, not_and]
      intro h
      have := h r (by simp) a h2
      rw [h1] at this; cases this
    | none =>
      rw [firstP_none R rows (acc ++ [r]), List.pairwise_cons]
      rw [List.find?_eq_none] at q
      constructor
      · rintro ⟨h1, h2⟩
        refine ⟨fun x hx a ha => ?_, fun x hx => h1 x hx r (by simp), h2⟩
        rcases List.mem_cons.mp hx with rfl | hx
        · have := q a ha; simpa using this
        · exact h1 x hx a (by simp [ha])
      · rintro ⟨h1, h2, h3⟩
        refine ⟨fun x hx a ha => ?_, h3⟩
        rcases List.mem_append.mp ha with ha | ha
        · exact h1 x (by simp [hx]) a ha
        · rw [List.mem_singleton.mp ha]; exact h2 x hx
theorem alike_iff {l : List Sgn} {st : Bool × Bool} {v : List Nat} {r q : List Nat} : alike l st v r q = true ↔ glsK l r st v = glsK l q st v := by unfold alike; exact decide_eq_true_iff
theorem nodup_map {α β : Type} (f : α → β) (hf : ∀ a b, f a = f b → a = b) : ∀ l : List α, l.Nodup → (l.map f).Nodup
  | [], _ => .nil
  | a :: l, h => by
    rw [List.map_cons, List.nodup_cons]
    rw [List.nodup_cons] at h
    refine ⟨fun hm => ?_, nodup_map f hf l h.2⟩
    obtain ⟨b, hb, e⟩ := List.mem_map.mp hm
    exact h.1 (by rw [← hf b a e]; exact hb)
theorem nodup_flat {α β : Type} (f : α → List β) : ∀ l : List α, l.Nodup → (∀ a ∈ l, (f a).Nodup) → (∀ a ∈ l, ∀ b ∈ l, a ≠ b → ∀ x ∈ f a, x ∉ f b) → (l.flatMap f).Nodup
  | [], _, _, _ => .nil
  | a :: l, h, h1, h2 => by
    rw [List.nodup_cons] at h
    rw [List.flatMap_cons, List.nodup_append]
    refine ⟨h1 a (by simp), nodup_flat f l h.2 (fun b hb => h1 b (List.mem_cons_of_mem _ hb)) fun b hb c hc => h2 b (List.mem_cons_of_mem _ hb) c (List.mem_cons_of_mem _ hc), fun x hx y hy e => ?_⟩
    obtain ⟨b, hb, hy⟩ := List.mem_flatMap.mp hy
    subst e
    exact h2 a (by simp) b (List.mem_cons_of_mem _ hb) (fun e => h.1 (by rw [e]; exact hb)) x hx hy
theorem pw_all {α : Type} {R : α → α → Prop} (sym : ∀ a b, R a b → R b a) (rfl' : ∀ a, R a a) : ∀ {l : List α}, l.Pairwise R → ∀ {a b}, a ∈ l → b ∈ l → R a b
  | x :: l, h, a, b, ha, hb => by
    rw [List.pairwise_cons] at h
    rcases List.mem_cons.mp ha with ea | ha
    · rcases List.mem_cons.mp hb with eb | hb
      · rw [ea, eb]; exact rfl' _
      · rw [ea]; exact h.1 b hb
    · rcases List.mem_cons.mp hb with eb | hb
      · rw [eb]; exact sym _ _ (h.1 a ha)
      · exact pw_all sym rfl' h.2 ha hb
theorem shortRows_nodup (n : Nat) : (shortRows n).Nodup := by
  unfold shortRows
  rw [List.nodup_append]
  refine ⟨nodup_map _ (fun a b e => by simpa using e) _ List.nodup_range, ?_, fun a ha b hb e => ?_⟩
  · refine nodup_flat _ _ List.nodup_range (fun i _ => nodup_map _ (fun a b e => by simpa using e) _ List.nodup_range) fun i _ j _ hij x hx hy => ?_
    obtain ⟨a, _, rfl⟩ := List.mem_map.mp hx
    obtain ⟨b, _, e⟩ := List.mem_map.mp hy
    simp at e
    exact hij e.1.symm
  · obtain ⟨i, _, rfl⟩ := List.mem_map.mp ha
    obtain ⟨j, _, hb⟩ := List.mem_flatMap.mp hb
    obtain ⟨k, _, rfl⟩ := List.mem_map.mp hb
    cases e
theorem mem_short {n : Nat} {r : List Nat} : r ∈ shortRows n ↔ (r.length = 1 ∨ r.length = 2) ∧ ∀ i ∈ r, i < n := by
  constructor
  · intro h
    refine ⟨?_, (short_ok h).1⟩
    unfold shortRows at h
    rcases List.mem_append.mp h with h | h
    · obtain ⟨i, _, rfl⟩ := List.mem_map.mp h; exact .inl rfl
    · obtain ⟨i, _, h⟩ := List.mem_flatMap.mp h
      obtain ⟨j, _, rfl⟩ := List.mem_map.mp h; exact .inr rfl
  · rintro ⟨h1, h2⟩
    unfold shortRows
    match r, h1 with
    | [i], _ => exact List.mem_append_left _ (List.mem_map.mpr ⟨i, List.mem_range.mpr (h2 i (by simp)), rfl⟩)
    | [i, j], _ => exact List.mem_append_right _ (List.mem_flatMap.mpr ⟨i, List.mem_range.mpr (h2 i (by simp)), List.mem_map.mpr ⟨j, List.mem_range.mpr (h2 j (by simp)), rfl⟩⟩)
    | [], h => simp at h
    | _ :: _ :: _ :: _, h => simp at h
/-- clear: rows of one or two signs are told apart -/
theorem clear_iff {l : List Sgn} {st : Bool × Bool} {v : List Nat} : clearB l st v = true ↔ ∀ r q : List Nat, ((r.length = 1 ∨ r.length = 2) ∧ ∀ i ∈ r, i < l.length) → ((q.length = 1 ∨ q.length = 2) ∧ ∀ i ∈ q, i < l.length) → glsK l r st v = glsK l q st v → r = q := by
  unfold clearB pairOf
  rw [Option.isNone_iff_eq_none, firstP_none]
  constructor
  · rintro ⟨_, h⟩ r q hr hq e
    by_cases z : r = q
    · exact z
    · exfalso
      have sym : ∀ a b, alike l st v a b = alike l st v b a := fun a b => by unfold alike; rw [decide_eq_decide]; exact eq_comm
      have hs : (shortRows l.length).Pairwise (fun a b => a ≠ b → alike l st v a b = false) := h.imp (fun {a b} (h' : alike l st v a b = false) (_ : a ≠ b) => h')
      have := pw_all (R := fun a b => a ≠ b → alike l st v a b = false) (fun a b h n => by rw [sym]; exact h (Ne.symm n)) (fun a n => absurd rfl n) hs (mem_short.mpr hr) (mem_short.mpr hq) z
      rw [alike_iff.mpr e] at this; cases this
  · intro h
    refine ⟨(fun r _ a ha => by cases ha), ?_⟩
    have nd := shortRows_nodup l.length
    refine List.Pairwise.imp_of_mem (R := fun a b => a ≠ b) (fun {a b} ha hb n => ?_) nd
    cases q : alike l st v a b with
    | false => rfl
    | true => exact absurd (h a b (mem_short.mp ha) (mem_short.mp hb) (alike_iff.mp q)) n
/-! ### rows of any length -/
theorem entK_eq (s : Sgn) (c : Sec) {i : Nat} (h : i < 4) : entK { s with sc := c } i = entK s i := by
  rcases (by omega : i = 0 ∨ i = 1 ∨ i = 2 ∨ i = 3) with rfl | rfl | rfl | rfl <;> rfl
theorem entK_ge (s t : Sgn) (h : s.sc = t.sc) {i : Nat} (hi : ¬ i < 4) : entK s i = entK t i := by
  unfold entK
  match i, hi with
  | 0, hi => omega
  | 1, hi => omega
  | 2, hi => omega
  | 3, hi => omega
  | i + 4, _ => simp only [h]
theorem glK_eq {v : List Nat} {s t : Sgn} : glK v s = glK v t ↔ ∀ i ∈ v, entK s i = entK t i := by
  unfold glK
  constructor
  · intro h i hi
    injection h with h
    exact List.map_inj_left.mp h i hi
  · intro h
    rw [List.map_inj_left.mpr h]
/-- the second hands exchanged for one and the same -/
theorem glK_sc {v : List Nat} {s t : Sgn} {c d : Sec} (h : glK v { s with sc := c } = glK v { t with sc := d }) (e : s.sc = t.sc) : glK v s = glK v t := by
  rw [glK_eq] at h ⊢
  intro i hi
  by_cases z : i < 4
  · have := h i hi
    rw [entK_eq s c z, entK_eq t d z] at this; exact this
  · exact entK_ge s t e z
theorem seen_is (p : Option Sgn) (x : Sgn) (n : Option Sgn) (st : Bool × Bool) : ∃ c, seenB p x n st = { x with sc := c } := by
  unfold seenB
  split
  · split
    · exact ⟨_, rfl⟩
    · split
      · exact ⟨_, rfl⟩
      · exact ⟨x.sc, rfl⟩
  · exact ⟨x.sc, rfl⟩
theorem seen_own {p : Option Sgn} {x : Sgn} {n : Option Sgn} {st : Bool × Bool} (h : x.sc ≠ .non) : seenB p x n st = x := by unfold seenB; rw [if_neg h]
theorem takeH_some {x : Sgn} {on : Bool} {o : Option Sgn} {q : Sec} (h : takeH x on o = some q) : ∃ t, o = some t ∧ t.sc = q ∧ q ≠ .non := by
  cases o with
  | none => cases h
  | some t =>
    refine ⟨t, rfl, ?_⟩
    cases e : t.sc with
    | hand a b =>
      simp only [takeH, e] at h
      split at h
      · cases h; exact ⟨rfl, fun z => by cases z⟩
      · cases h
    | non => simp only [takeH, e] at h; cases h
    | m => simp only [takeH, e] at h; cases h
theorem shown1 (l : List Sgn) (a : Nat) (st : Bool × Bool) : shownRow l [a] st = [l.getD a s0] := by
  show [seenB none (l.getD a s0) none st] = _
  have : seenB none (l.getD a s0) none st = l.getD a s0 := by unfold seenB; split <;> rfl
  rw [this]
theorem shown2 (l : List Sgn) (a b : Nat) (st : Bool × Bool) : shownRow l [a, b] st = [seenB none (l.getD a s0) (some (l.getD b s0)) st, seenB (some (l.getD a s0)) (l.getD b s0) none st] := rfl
theorem one_inj {l : List Sgn} {st : Bool × Bool} {v : List Nat} (h : clearB l st v = true) {a b : Nat} (ha : a < l.length) (hb : b < l.length) (e : glK v (l.getD a s0) = glK v (l.getD b s0)) : a = b := by
  have := clear_iff.mp h [a] [b] ⟨.inl rfl, fun i hi => by rw [List.mem_singleton.mp hi]; exact ha⟩ ⟨.inl rfl, fun i hi => by rw [List.mem_singleton.mp hi]; exact hb⟩ (by
    unfold glsK
    rw [shown1, shown1, List.map_cons, List.map_cons, e])
  simpa using this
theorem two_inj {l : List Sgn} {st : Bool × Bool} {v : List Nat} (h : clearB l st v = true) {a b c d : Nat} (ha : a < l.length) (hb : b < l.length) (hc : c < l.length) (hd : d < l.length) (e : glsK l [a, b] st v = glsK l [c, d] st v) : a = c ∧ b = d := by
  have hm : ∀ {a b : Nat}, a < l.length → b < l.length → ∀ i ∈ [a, b], i < l.length := fun {a b} ha hb i hi => by
    simp only [List.mem_cons, List.not_mem_nil, or_false] at hi
    rcases hi with rfl | rfl
    · exact ha
    · exact hb
  have := clear_iff.mp h [a, b] [c, d] ⟨.inr rfl, hm ha hb⟩ ⟨.inr rfl, hm hc hd⟩ e
  simpa using this
/-- one that takes a hand beside one that has it: a row of two tells -/
theorem take_no {l : List Sgn} {st : Bool × Bool} {v : List Nat} (h : clearB l st v = true) {a b : Nat} (ha : a < l.length) (hb : b < l.length) (p n : Option Nat) (hp : ∀ j, p = some j → j < l.length) (hn : ∀ j, n = some j → j < l.length) (h1 : (l.getD a s0).sc = .non) (h2 : (l.getD b s0).sc ≠ .non)
    (e : glK v (seenB (p.map fun j => l.getD j s0) (l.getD a s0) (n.map fun j => l.getD j s0) st) = glK v (l.getD b s0)) : False := by
  have ne : a ≠ b := fun z => h2 (by rw [← z]; exact h1)
  unfold seenB at e
  rw [if_pos h1] at e
  cases q1 : takeH (l.getD a s0) st.1 (p.map fun j => l.getD j s0) with
  | some q =>
    rw [q1] at e
    obtain ⟨t, ht, hq, hqn⟩ := takeH_some q1
    cases p with
    | none => cases ht
    | some j =>
      have ht : l.getD j s0 = t := Option.some.inj ht
      have hj := hp j rfl
      refine ne (two_inj h hj ha hj hb ?_).2
      unfold glsK
      have own : (l.getD j s0).sc ≠ .non := by rw [ht, hq]; exact hqn
      rw [shown2, shown2, seen_own own, seen_own own, seen_own h2]
      have : seenB (some (l.getD j s0)) (l.getD a s0) none st = { l.getD a s0 with sc := q } := by
        unfold seenB
        rw [if_pos h1]
        have q1 : takeH (l.getD a s0) st.1 (some (l.getD j s0)) = some q := q1
        rw [q1]
      rw [this, List.map_cons, List.map_cons, List.map_cons, List.map_cons]
      have e : glK v { l.getD a s0 with sc := q } = glK v (l.getD b s0) := e
      rw [e]
  | none =>
    rw [q1] at e
    cases q2 : takeH (l.getD a s0) st.2 (n.map fun j => l.getD j s0) with
    | some q =>
      rw [q2] at e
      obtain ⟨t, ht, hq, hqn⟩ := takeH_some q2
      cases n with
      | none => cases ht
      | some j =>
        have ht : l.getD j s0 = t := Option.some.inj ht
        have hj := hn j rfl
        refine ne (two_inj h ha hj hb hj ?_).1
        unfold glsK
        have own : (l.getD j s0).sc ≠ .non := by rw [ht, hq]; exact hqn
        rw [shown2, shown2, seen_own own, seen_own own, seen_own h2]
        have : seenB none (l.getD a s0) (some (l.getD j s0)) st = { l.getD a s0 with sc := q } := by
          unfold seenB
          rw [if_pos h1]
          have q2 : takeH (l.getD a s0) st.2 (some (l.getD j s0)) = some q := q2
          have q0 : takeH (l.getD a s0) st.1 none = none := rfl
          rw [q0, q2]
        rw [this, List.map_cons, List.map_cons, List.map_cons, List.map_cons]
        have e : glK v { l.getD a s0 with sc := q } = glK v (l.getD b s0) := e
        rw [e]
    | none =>
      rw [q2] at e
      exact ne (one_inj h ha hb e)
theorem seen_at (l : List Sgn) (r : List Nat) (st : Bool × Bool) {i : Nat} (h : i < r.length) : ∃ p n : Option Nat, (∀ j, p = some j → j ∈ r) ∧ (∀ j, n = some j → j ∈ r) ∧ (shownRow l r st)[i]? = some (seenB (p.map fun j => l.getD j s0) (l.getD r[i] s0) (n.map fun j => l.getD j s0) st) := by
  refine ⟨if i = 0 then none else r[i - 1]?, r[i + 1]?, fun j hj => ?_, fun j hj => List.mem_of_getElem? hj, ?_⟩
  · split at hj
    · cases hj
    · exact List.mem_of_getElem? hj
  · unfold shownRow
    rw [seenRow_get, pick_len, if_pos h]
    have e1 : ∀ k : Nat, (pick l r)[k]? = (r[k]?).map fun j => l.getD j s0 := fun k => by unfold pick; rw [List.getElem?_map]
    have e2 : prevO (pick l r) i = (if i = 0 then none else r[i - 1]?).map fun j => l.getD j s0 := by
      unfold prevO
      split
      · rfl
      · exact e1 _
    rw [e1, e2, List.getD_eq_getElem?_getD, e1, List.getElem?_eq_getElem h]; rfl
/-- in a clear list all rows are told apart -/
theorem clear_all {l : List Sgn} {st : Bool × Bool} {v : List Nat} (h : clearB l st v = true) {r q : List Nat} (hr : ∀ i ∈ r, i < l.length) (hq : ∀ i ∈ q, i < l.length) (e : glsK l r st v = glsK l q st v) : r = q := by
  unfold glsK at e
  injection e with e
  have el : r.length = q.length := by
    have := congrArg List.length e
    simpa [shownRow_len] using this
  apply List.ext_getElem el
  intro i h1 h2
  have ha := hr _ (List.getElem_mem h1)
  have hb := hq _ (List.getElem_mem h2)
  obtain ⟨p, n, hp, hn, e1⟩ := seen_at l r st h1
  obtain ⟨p', n', hp', hn', e2⟩ := seen_at l q st h2
  have eg : glK v (seenB (p.map fun j => l.getD j s0) (l.getD r[i] s0) (n.map fun j => l.getD j s0) st) = glK v (seenB (p'.map fun j => l.getD j s0) (l.getD q[i] s0) (n'.map fun j => l.getD j s0) st) := by
    have := congrArg (fun x => x[i]?) e
    simp only [List.getElem?_map, e1, e2, Option.map_some] at this
    exact Option.some.inj this
  by_cases z1 : (l.getD r[i] s0).sc = .non
  · by_cases z2 : (l.getD q[i] s0).sc = .non
    · obtain ⟨c, ec⟩ := seen_is (p.map fun j => l.getD j s0) (l.getD r[i] s0) (n.map fun j => l.getD j s0) st
      obtain ⟨d, ed⟩ := seen_is (p'.map fun j => l.getD j s0) (l.getD q[i] s0) (n'.map fun j => l.getD j s0) st
      rw [ec, ed] at eg
      exact one_inj h ha hb (glK_sc eg (by rw [z1, z2]))
    · rw [seen_own z2] at eg
      exact (take_no h ha hb p n (fun j hj => hr j (hp j hj)) (fun j hj => hr j (hn j hj)) z1 z2 eg).elim
  · by_cases z2 : (l.getD q[i] s0).sc = .non
    · rw [seen_own z1] at eg
      exact (take_no h hb ha p' n' (fun j hj => hq j (hp' j hj)) (fun j hj => hq j (hn' j hj)) z2 z1 eg.symm).elim
    · rw [seen_own z1, seen_own z2] at eg
      exact one_inj h ha hb eg
end DL
namespace DL
open PySem PySem.Spec PyProof.Rows L2
/-! ### rows turned round -/
def swpS (st : Bool × Bool) : Bool × Bool := (st.2, st.1)
theorem takeH_off (x : Sgn) (o : Option Sgn) : takeH x false o = none := by
  cases o with
  | none => rfl
  | some t => cases e : t.sc <;> simp [takeH, e]
/-- behind and ahead exchanged, as long as not both are True -/
theorem seen_swap (p : Option Sgn) (x : Sgn) (n : Option Sgn) (st : Bool × Bool) (h : (st.1 && st.2) = false) : seenB p x n st = seenB n x p (swpS st) := by
  obtain ⟨a, b⟩ := st
  unfold seenB swpS
  split
  · cases a with
    | true =>
      cases b with
      | true => cases h
      | false =>
        simp only [takeH_off]
    | false =>
      simp only [takeH_off]
  · rfl
theorem prevO_get (l : List Sgn) (i : Nat) : prevO l i = if i = 0 then none else l[i - 1]? := rfl
theorem seenRow_rev (l : List Sgn) (st : Bool × Bool) (h : (st.1 && st.2) = false) : seenRow l.reverse (swpS st) = (seenRow l st).reverse := by
  apply List.ext_getElem?
  intro i
  by_cases hi : i < l.length
  · have er : (seenRow l st).reverse[i]? = (seenRow l st)[l.length - 1 - i]? := by rw [List.getElem?_reverse (by rw [seenRow_len]; exact hi), seenRow_len]
    rw [er, seenRow_get, if_pos (by rw [List.length_reverse]; exact hi), seenRow_get, if_pos (by omega)]
    have e1 : l.reverse.getD i s0 = l.getD (l.length - 1 - i) s0 := by
      rw [List.getD_eq_getElem?_getD, List.getD_eq_getElem?_getD, List.getElem?_reverse hi]
    have e2 : prevO l.reverse i = l[l.length - 1 - i + 1]? := by
      rw [prevO_get]
      split
      · rename_i z
        rw [z, List.getElem?_eq_none (by omega)]
      · rw [List.getElem?_reverse (by omega)]
        congr 1 <;> omega
    have e3 : l.reverse[i + 1]? = prevO l (l.length - 1 - i) := by
      rw [prevO_get]
      split
      · rw [List.getElem?_eq_none (by rw [List.length_reverse]; omega)]
      · rw [List.getElem?_reverse (by omega)]
        congr 1 <;> omega
    rw [e1, e2, e3, ← seen_swap _ _ _ _ h]
  · rw [List.getElem?_eq_none (by rw [seenRow_len, List.length_reverse]; omega), List.getElem?_eq_none (by rw [List.length_reverse, seenRow_len]; omega)]
theorem pick_rev (l : List Sgn) (r : List Nat) : pick l r.reverse = (pick l r).reverse := by unfold pick; rw [List.map_reverse]
theorem shown_rev (l : List Sgn) (r : List Nat) (st : Bool × Bool) (h : (st.1 && st.2) = false) : shownRow l r.reverse (swpS st) = (shownRow l r st).reverse := by
  unfold shownRow
  rw [pick_rev, seenRow_rev _ _ h]
theorem gls_rev (l : List Sgn) (r : List Nat) (st : Bool × Bool) (v : List Nat) (h : (st.1 && st.2) = false) : (shownRow l r.reverse (swpS st)).map (glK v) = ((shownRow l r st).map (glK v)).reverse := by
  rw [shown_rev _ _ _ h, List.map_reverse]
theorem clear_swp (l : List Sgn) (st : Bool × Bool) (v : List Nat) (h : (st.1 && st.2) = false) : clearB l (swpS st) v = clearB l st v := by
  have key : ∀ st : Bool × Bool, (st.1 && st.2) = false → clearB l st v = true → clearB l (swpS st) v = true := fun st h c => by
    refine clear_iff.mpr fun r q hr hq e => ?_
    have hh : ((swpS st).1 && (swpS st).2) = false := by show (st.2 && st.1) = false; rw [Bool.and_comm]; exact h
    have e2 : glsK l r.reverse st v = glsK l q.reverse st v := by
      unfold glsK at e ⊢
      have a := gls_rev l r (swpS st) v hh
      have b := gls_rev l q (swpS st) v hh
      have ss : swpS (swpS st) = st := rfl
      rw [ss] at a b
      injection e with e
      rw [a, b, e]
    have := clear_iff.mp c r.reverse q.reverse ⟨by rw [List.length_reverse]; exact hr.1, fun i hi => hr.2 i (List.mem_reverse.mp hi)⟩ ⟨by rw [List.length_reverse]; exact hq.1, fun i hi => hq.2 i (List.mem_reverse.mp hi)⟩ e2
    have := congrArg List.reverse this
    rw [List.reverse_reverse, List.reverse_reverse] at this; exact this
  cases a : clearB l st v with
  | true => exact key st h a
  | false =>
    cases b : clearB l (swpS st) v with
    | false => rfl
    | true =>
      have := key (swpS st) (by show (st.2 && st.1) = false; rw [Bool.and_comm]; exact h) b
      have ss : swpS (swpS st) = st := rfl
      rw [ss, a] at this; cases this
end DL
namespace DL
open PySem PySem.Spec PyProof.Rows L2
/-! ### rows in their order -/
def intL (r : List Nat) : List Int := r.map fun i : Nat => (i : Int)
theorem row_py2 (r : List Nat) : (rowD r).py = .tuple ((intL r).map PyData.int) := by
  unfold rowD
  simp only [D.py]
  rw [row_py]; rfl
theorem leD_rows (r q : List Nat) : leD (rowD r) (rowD q) = !decide (intL q < intL r) := by
  show PySem.W.dataLe false D.py (rowD r) (rowD q) = _
  rw [PySem.W.dataLe_eq]
  show (!PySem.W.dataLt (rowD q).py (rowD r).py) = _
  rw [row_py2, row_py2, PySem.W.dataLt_tuple]
  congr 1
  exact PySem.W.dataLt_ints _ _
theorem rowsK_asc (m : Nat) : ∀ n, (rowsK m n).Pairwise fun r q => intL r < intL q
  | 0 => List.pairwise_singleton _ _
  | n + 1 => by
    have ih := rowsK_asc m n
    show ((rowsK m n).flatMap fun r => (List.range m).map fun i => r ++ [i]).Pairwise _
    have pre : ∀ (a b c : List Int), b < c → a ++ b < a ++ c := fun a b c h => by
      induction a with
      | nil => exact h
      | cons x a ih => exact List.Lex.cons ih
    have lt2 : ∀ (a b c d : List Int), a.length = b.length → a < b → a ++ c < b ++ d := fun a b c d hl h => by
      induction h with
      | nil => cases hl
      | rel h => exact List.Lex.rel h
      | cons h ih => exact List.Lex.cons (ih (by simpa using hl))
    have key : ∀ l : List (List Nat), l.Pairwise (fun r q => intL r < intL q) → (∀ r ∈ l, r.length = n) → (l.flatMap fun r => (List.range m).map fun i => r ++ [i]).Pairwise fun r q => intL r < intL q := fun l => by
      induction l with
      | nil => intro _ _; exact .nil
      | cons a l ihl =>
        intro h hl
        rw [List.pairwise_cons] at h
        rw [List.flatMap_cons, List.pairwise_append]
        refine ⟨?_, ihl h.2 fun r hr => hl r (List.mem_cons_of_mem _ hr), fun x hx y hy => ?_⟩
        · rw [List.pairwise_map]
          refine List.pairwise_lt_range.imp fun {i j} hij => ?_
          unfold intL
          rw [List.map_append, List.map_append]
          exact pre _ _ _ (List.Lex.rel (Int.ofNat_lt.mpr hij))
        · obtain ⟨i, _, rfl⟩ := List.mem_map.mp hx
          obtain ⟨b, hb, hy⟩ := List.mem_flatMap.mp hy
          obtain ⟨j, _, rfl⟩ := List.mem_map.mp hy
          unfold intL
          rw [List.map_append, List.map_append]
          refine lt2 _ _ _ _ ?_ (h.1 b hb)
          show (a.map _).length = (b.map _).length
          rw [List.length_map, List.length_map, hl a (by simp), hl b (List.mem_cons_of_mem _ hb)]
    exact key _ ih fun r hr => (rowsK_ok hr).1
theorem intL_inj {r q : List Nat} (h : intL r = intL q) : r = q := by
  unfold intL at h
  induction r generalizing q with
  | nil => cases q with
    | nil => rfl
    | cons _ _ => cases h
  | cons a r ih => cases q with
    | nil => cases h
    | cons b q =>
      rw [List.map_cons, List.map_cons] at h
      injection h with h1 h2
      rw [Int.ofNat_inj.mp h1, ih h2]
theorem tri_L : ∀ a b : List Int, a < b ∨ a = b ∨ b < a
  | [], [] => .inr (.inl rfl)
  | [], _ :: _ => .inl List.Lex.nil
  | _ :: _, [] => .inr (.inr List.Lex.nil)
  | x :: a, y :: b => by
    rcases Int.lt_trichotomy x y with z | z | z
    · exact .inl (List.Lex.rel z)
    · subst z
      rcases tri_L a b with h | h | h
      · exact .inl (List.Lex.cons h)
      · exact .inr (.inl (by rw [h]))
      · exact .inr (.inr (List.Lex.cons h))
    · exact .inr (.inr (List.Lex.rel z))
theorem asc_uniq : ∀ (l m : List (List Nat)), l.Pairwise (fun r q => intL r < intL q) → m.Pairwise (fun r q => intL r < intL q) → (∀ x, x ∈ l ↔ x ∈ m) → l = m
  | [], [], _, _, _ => rfl
  | [], b :: m, _, _, h => by have := (h b).mpr (by simp); cases this
  | a :: l, [], _, _, h => by have := (h a).mp (by simp); cases this
  | a :: l, b :: m, h1, h2, h => by
    rw [List.pairwise_cons] at h1 h2
    have irr : ∀ x : List Int, ¬ x < x := fun x => List.lt_irrefl x
    have e : a = b := by
      rcases List.mem_cons.mp ((h a).mp (by simp)) with e | ha
      · exact e
      · rcases List.mem_cons.mp ((h b).mpr (by simp)) with e | hb
        · exact e.symm
        · exact absurd (List.lt_trans (h1.1 b hb) (h2.1 a ha)) (irr _)
    subst e
    rw [asc_uniq l m h1.2 h2.2 fun x => ?_]
    constructor
    · intro hx
      rcases List.mem_cons.mp ((h x).mp (List.mem_cons_of_mem _ hx)) with e | hm
      · rw [e] at hx; exact absurd (h1.1 a hx) (irr _)
      · exact hm
    · intro hx
      rcases List.mem_cons.mp ((h x).mpr (List.mem_cons_of_mem _ hx)) with e | hm
      · rw [e] at hx; exact absurd (h2.1 a hx) (irr _)
      · exact hm
def leR (r q : List Nat) : Bool := leD (rowD r) (rowD q)
theorem leR_eq (r q : List Nat) : leR r q = !decide (intL q < intL r) := leD_rows r q
theorem sort_asc (l : List (List Nat)) (nd : l.Nodup) : (l.mergeSort leR).Pairwise fun r q => intL r < intL q := by
  have h := List.pairwise_mergeSort (le := leR) (fun a b c h1 h2 => by
    rw [leR_eq, Bool.not_eq_true', decide_eq_false_iff_not] at h1 h2 ⊢
    exact fun h => by
      rcases tri_L (intL c) (intL b) with z | z | z
      · exact h2 z
      · rw [z] at h; exact h1 h
      · exact h1 (List.lt_trans z h)) (fun a b => by
    rw [leR_eq, leR_eq, Bool.or_eq_true, Bool.not_eq_true', Bool.not_eq_true', decide_eq_false_iff_not, decide_eq_false_iff_not]
    by_cases z : intL b < intL a
    · exact .inr fun h => List.lt_irrefl _ (List.lt_trans z h)
    · exact .inl z) l
  have nd2 : (l.mergeSort leR).Nodup := (List.mergeSort_perm l leR).nodup_iff.mpr nd
  refine (h.and nd2).imp fun {a b} hab => ?_
  obtain ⟨h1, h2⟩ := hab
  rw [leR_eq, Bool.not_eq_true', decide_eq_false_iff_not] at h1
  rcases tri_L (intL a) (intL b) with z | z | z
  · exact z
  · exact absurd (intL_inj z) h2
  · exact absurd z h1
theorem rowsK_mem {m n : Nat} {r : List Nat} : r ∈ rowsK m n ↔ r.length = n ∧ ∀ i ∈ r, i < m := by
  refine ⟨rowsK_ok, ?_⟩
  induction n generalizing r with
  | zero =>
    rintro ⟨h, _⟩
    rw [List.eq_nil_of_length_eq_zero h]; exact List.mem_singleton.mpr rfl
  | succ n ih =>
    rintro ⟨h1, h2⟩
    rcases List.eq_nil_or_concat r with rfl | ⟨q, i, rfl⟩
    · cases h1
    · rw [List.concat_eq_append] at h1 h2 ⊢
      rw [List.length_append, List.length_singleton] at h1
      exact List.mem_flatMap.mpr ⟨q, ih ⟨by omega, fun j hj => h2 j (by simp [hj])⟩, List.mem_map.mpr ⟨i, List.mem_range.mpr (h2 i (by simp)), rfl⟩⟩
theorem readL_mem {l : List Sgn} {st : Bool × Bool} {v : List Nat} {ks : List NestedKey} {r : List Nat} : r ∈ readL l st v ks ↔ (r.length = ks.length ∧ ∀ i ∈ r, i < l.length) ∧ glsK l r st v = .tup ks := by
  unfold readL
  rw [List.mem_filter, rowsK_mem, decide_eq_true_iff]
theorem readL_asc (l : List Sgn) (st : Bool × Bool) (v : List Nat) (ks : List NestedKey) : (readL l st v ks).Pairwise fun r q => intL r < intL q := (rowsK_asc _ _).filter _
theorem asc_nodup {l : List (List Nat)} (h : l.Pairwise fun r q => intL r < intL q) : l.Nodup := h.imp fun {a b} hab e => by rw [e] at hab; exact List.lt_irrefl _ hab
/-- readings turned round are those of the glances turned round -/
theorem readL_rev (l : List Sgn) (st : Bool × Bool) (v : List Nat) (ks : List NestedKey) (h : (st.1 && st.2) = false) : readL l (swpS st) v ks.reverse = ((readL l st v ks).map List.reverse).mergeSort leR := by
  have nd : ((readL l st v ks).map List.reverse).Nodup := nodup_map _ (fun a b e => by
    have := congrArg List.reverse e
    rw [List.reverse_reverse, List.reverse_reverse] at this; exact this) _ (asc_nodup (readL_asc l st v ks))
  refine asc_uniq _ _ (readL_asc _ _ _ _) (sort_asc _ nd) fun x => ?_
  rw [List.mem_mergeSort, readL_mem, List.mem_map]
  have gl : ∀ r : List Nat, glsK l r.reverse (swpS st) v = .tup ks.reverse ↔ glsK l r st v = .tup ks := fun r => by
    unfold glsK
    rw [gls_rev _ _ _ _ h]
    constructor
    · intro e
      injection e with e
      have := congrArg List.reverse e
      rw [List.reverse_reverse, List.reverse_reverse] at this
      rw [this]
    · intro e
      injection e with e
      rw [e]
  constructor
  · rintro ⟨⟨h1, h2⟩, h3⟩
    refine ⟨x.reverse, readL_mem.mpr ⟨⟨by rw [List.length_reverse, h1, List.length_reverse], fun i hi => h2 i (List.mem_reverse.mp hi)⟩, ?_⟩, List.reverse_reverse x⟩
    have := gl x.reverse
    rw [List.reverse_reverse] at this
    exact this.mp h3
  · rintro ⟨r, hr, rfl⟩
    obtain ⟨⟨h1, h2⟩, h3⟩ := readL_mem.mp hr
    exact ⟨⟨by rw [List.length_reverse, List.length_reverse, h1], fun i hi => h2 i (List.mem_reverse.mp hi)⟩, (gl r).mpr h3⟩
end DL
namespace DL
open PySem PySem.Spec PyProof.Rows L2
/-! ### calls with right arguments -/
theorem no_signs {l : List Sgn} {R : RX} (ol : okL l = true) : areSignsD (SsD l) = false → R "InvalidSigns" := fun z => by rw [areSigns_iff.mpr ⟨l, ol, rfl⟩] at z; cases z
theorem no_style {st : Bool × Bool} {R : RX} : isStyD (styD st) = false → R "InvalidStyle" := fun z => by rw [isSty_iff.mpr ⟨st, rfl⟩] at z; cases z
theorem no_view {v : List Nat} {R : RX} (ov : OkV v) : isViewD (rowD v) = false → R "InvalidView" := fun z => by rw [isView_iff.mpr ⟨v, ov, rfl⟩] at z; cases z
theorem no_row {l l' : List Sgn} {r : List Nat} {R : RX} (e : SsD l = SsD l') (r8 : r.length ≤ 8) (rl : ∀ i ∈ r, i < l.length) : isRowD l'.length (rowD r) = false → R "InvalidRow" := fun z => by
  obtain rfl := SsD_inj e
  rw [isRow_iff.mpr ⟨r, ⟨r8, rl⟩, rfl⟩] at z; cases z
theorem shown_ok {l : List Sgn} {r : List Nat} {st : Bool × Bool} {P : D → Prop} {R : RX} (ol : okL l = true) (r8 : r.length ≤ 8) (rl : ∀ i ∈ r, i < l.length) (k : P (.tup ((shownRow l r st).map Sgn.d))) : sd_shown [SsD l, rowD r, styD st] P R :=
  ⟨SsD l, rowD r, styD st, rfl, plain_SsD l, plain_row r, plain_sty st, no_signs ol, fun l' ok e => ⟨no_row e r8 rl, fun r' r8' rl' e2 => ⟨no_style, fun st' e3 => by
    obtain rfl := SsD_inj e
    obtain rfl := rowD_inj e2
    obtain rfl := styD_inj e3
    exact k⟩⟩⟩
theorem glances_ok {l : List Sgn} {r : List Nat} {st : Bool × Bool} {v : List Nat} {P : D → Prop} {R : RX} (ol : okL l = true) (r8 : r.length ≤ 8) (rl : ∀ i ∈ r, i < l.length) (ov : OkV v) (k : P (glsD l r st v)) : sd_glances [SsD l, rowD r, styD st, rowD v] P R :=
  ⟨SsD l, rowD r, styD st, rowD v, rfl, plain_SsD l, plain_row r, plain_sty st, plain_row v, no_signs ol, fun l' ok e => ⟨no_row e r8 rl, fun r' r8' rl' e2 => ⟨no_style, fun st' e3 => ⟨no_view ov, fun v' ov' e4 => by
    obtain rfl := SsD_inj e
    obtain rfl := rowD_inj e2
    obtain rfl := styD_inj e3
    obtain rfl := rowD_inj e4
    exact k⟩⟩⟩⟩
theorem args_ok {l : List Sgn} {st : Bool × Bool} {v : List Nat} {R : RX} {K : List Sgn → Bool × Bool → List Nat → Prop} (ol : okL l = true) (ov : OkV v) (k : K l st v) : Args (SsD l) (styD st) (rowD v) R K := by
  refine ⟨plain_SsD l, plain_sty st, plain_rowD v, no_signs ol, fun l' ok e => ⟨no_style, fun st' e2 => ⟨no_view ov, fun v' ov' e3 => ?_⟩⟩⟩
  obtain rfl := SsD_inj e
  obtain rfl := styD_inj e2
  obtain rfl := rowD_inj e3
  exact k
theorem good_ent (s : Sgn) {i : Nat} (h : i ≤ 4) : isEntryD (i : Int) (ent s i) = true := by
  rcases (by omega : i = 0 ∨ i = 1 ∨ i = 2 ∨ i = 3 ∨ i = 4) with rfl | rfl | rfl | rfl | rfl
  · show isEntryD 0 (ent s 0) = true
    rw [isEntry0, decSh_iff.mpr (show ent s 0 = .str s.sh.s from rfl)]; rfl
  · show isEntryD 1 (ent s 1) = true
    rw [isEntry1, decTn_iff.mpr (show ent s 1 = .str s.tn.s from rfl)]; rfl
  · show isEntryD 2 (ent s 2) = true
    rw [isEntry2, decMv_iff.mpr (show ent s 2 = .str s.mv.s from rfl)]; rfl
  · show isEntryD 3 (ent s 3) = true
    rw [isEntry3, decPl_iff.mpr (show ent s 3 = .int s.pl.i from rfl)]; rfl
  · show isEntryD 4 (ent s 4) = true
    rw [isEntry4, decSc_iff.mpr (show ent s 4 = s.sc.d from rfl)]; rfl
theorem zip_self_map {α β : Type} (f : α → β) : ∀ l : List α, l.zip (l.map f) = l.map fun i => (i, f i)
  | [] => rfl
  | a :: l => by rw [List.map_cons, List.zip_cons_cons, List.map_cons, zip_self_map f l]
theorem good_gl {v : List Nat} (hv : ∀ i ∈ v, i ≤ 4) (s : Sgn) : isGlanceD v (glD v s) = true := by
  show (decide ((v.map (ent s)).length = v.length) && (v.zip (v.map (ent s))).all fun p => isEntryD (p.1 : Int) p.2) = true
  rw [decide_eq_true (List.length_map ..), Bool.true_and]
  refine List.all_eq_true.mpr fun p hp => ?_
  have e := zip_self_map (ent s) v
  rw [e] at hp
  obtain ⟨i, hi, rfl⟩ := List.mem_map.mp hp
  exact good_ent s (hv i hi)
theorem gls_gl (v : List Nat) (gs : List Sgn) : Gls (gs.map (glD v)) (gs.map (glK v)) := ⟨nkPA_map (glD v) (glK v) gs fun s _ => nk_gl v s, fun d hd => by
  obtain ⟨s, _, rfl⟩ := List.mem_map.mp hd
  exact shn_gl v s⟩
theorem plain_ent (s : Sgn) (i : Nat) : (ent s i).plain = true := by
  unfold ent
  split <;> first | simp | (cases s.sc <;> simp [Sec.d])
theorem plain_gl (v : List Nat) (s : Sgn) : (glD v s).plain = true := by
  unfold glD
  rw [plain_tup]
  exact List.all_eq_true.mpr fun d h => by obtain ⟨i, _, rfl⟩ := List.mem_map.mp h; exact plain_ent s i
theorem argsG_ok {l : List Sgn} {st : Bool × Bool} {v : List Nat} {q : List Sgn} {R : RX} {K : List (List Nat) → Prop} (ol : okL l = true) (ov : OkV v) (q5 : q.length ≤ 5) (kk : K (readL l st v (q.map (glK v)))) : ArgsG (SsD l) (.tup (q.map (glD v))) (styD st) (rowD v) R K := by
  have good : (q.map (glD v)).all (isGlanceD v) = true := List.all_eq_true.mpr fun d hd => by
    obtain ⟨s, _, rfl⟩ := List.mem_map.mp hd
    exact good_gl ov.le s
  refine ⟨?_, args_ok ol ov ⟨fun z => ?_, fun gs' ks e4 h5 h6 h7 => ?_⟩⟩
  · rw [plain_tup]
    exact List.all_eq_true.mpr fun d hd => by obtain ⟨s, _, rfl⟩ := List.mem_map.mp hd; exact plain_gl v s
  · have : isGlsD v (.tup (q.map (glD v))) = true := by
      show (decide ((q.map (glD v)).length ≤ 5) && (q.map (glD v)).all (isGlanceD v)) = true
      rw [List.length_map, decide_eq_true q5, good]; rfl
    rw [this] at z; cases z
  · injection e4 with e4
    subst e4
    have : ks = q.map (glK v) := by
      have a := h7.key
      rw [(gls_gl v q).key] at a
      exact (Option.some.inj a).symm
    rw [this]; exact kk
theorem shn_rows (rs : List (List Nat)) : shn 2 (.tup (rs.map rowD)) := shn_tup fun d hd => by
  obtain ⟨r, _, rfl⟩ := List.mem_map.mp hd
  exact shn_row r
theorem eqD_rows (rs : List (List Nat)) : eqD (.tup (rs.map rowD)) (.tup (rs.map rowD)) = true := eqD_refl_tup fun d hd => by
  obtain ⟨r, _, rfl⟩ := List.mem_map.mp hd
  rw [eqD_row]; exact decide_eq_true rfl
theorem ne_same {d : D} (s : shp d = true) (e : eqD d d = true) {K : Bool → Prop} (k : K false) : fNe d d (isB K) := ⟨s, s, by rw [e]; exact k⟩
theorem ne_Ss (l : List Sgn) {K : Bool → Prop} (k : K false) : fNe (.tup (l.map Sgn.d)) (.tup (l.map Sgn.d)) (isB K) := ne_same (shp_Ss l) (eqD_reflSs l) k
theorem rowD_rev (r : List Nat) : D.tup (r.map natD).reverse = rowD r.reverse := by unfold rowD; rw [List.map_reverse]
end DL
namespace DL
open PySem PySem.Spec PyProof.Rows L2
/-! ### the number of all signs -/
def cntS (a : Shp) (m : Mov) : Nat := (allSc'.filter (goTog a m)).length
def sumM (a : Shp) (l : List Mov) : Nat := (l.map (cntS a)).sum
def sumS (l : List Shp) : Nat := (l.map fun a => sumM a allMv').sum
theorem sumM_snoc (a : Shp) (l : List Mov) (m : Mov) : sumM a (l ++ [m]) = sumM a l + cntS a m := by simp [sumM]
theorem sumS_snoc (l : List Shp) (a : Shp) : sumS (l ++ [a]) = sumS l + sumM a allMv' := by simp [sumS]
@[simp] def sd_count_signs : SpD := fun ds P _ => ds = [] ∧ P (.int 2832)
theorem len_count_signs : ∀ ds P R, sd_count_signs ds P R → ds.length = 0 := fun ds P R h => by obtain ⟨rfl, _⟩ := h; rfl
def t_count_signs : DST :=
    (sSeq (sAsg (dC (.int 0)) (gN 0))
    (sSeq (sFor (dItems (dC (.str "abcd"))) (gN 1)
      (sFor (dItems (dC (.str "nuwlr"))) (gN 2)
        (sAugI 0 (dLen (dOfL (dLc (dItems (dCall sd_entries (dCons (dC (.int 4)) dNil))) (gN 3) (qV (dCall sd_do_go_together (dCons (dV 1) (dCons (dV 2) (dCons (dV 3) dNil))))) (dC (.int 1)) [3]))))))
    (sRet (dOp (fIC CMul fun i j => .int (i * j)) (dOp (fIC CMul fun i j => .int (i * j)) (dV 0) (dLen (dC (.str "iolr")))) (dC (.int 3))))))

theorem vc_count_signs : ∀ ds P R, sd_count_signs ds P R → t_count_signs (startR ["found", "shape", "move", "second"] ds) ⟨fun _ => P .non, P, fun _ => False, fun _ => False, R⟩ := fun ds P R h => by
  obtain ⟨rfl, h⟩ := h
  show t_count_signs [.non, .non, .non, .non] _
  refine seq_asg (.int 0) (fun P k => k) ?_
  simp only [List.set_cons_succ, List.set_cons_zero]
  refine seq_for (allSh'.map fun x => .str x.s) (fun P k => ⟨by decide, by rw [chars_sh]; exact k⟩) ?_
  refine for_inv (fun x : Shp => D.str x.s) (fun pre ρ => ∃ x1 x2 x3 : Sl, ρ = [.val (.int (sumS pre : Nat)), x1, x2, x3]) allSh' [] _ ⟨_, _, _, rfl⟩ ?_ ?_
  · rintro pre a post _ N _ ⟨x1, x2, x3, rfl⟩ hN
    simp only [List.set_cons_succ, List.set_cons_zero]
    refine one_for (allMv'.map fun x => .str x.s) (fun P k => ⟨by decide, by rw [chars_mv]; exact k⟩) ?_
    refine for_inv (fun x : Mov => D.str x.s) (fun pm ρ => ∃ x2 x3 : Sl, ρ = [.val (.int ((sumS pre + sumM a pm : Nat) : Int)), .val (.str a.s), x2, x3]) allMv' [] _ ⟨_, _, rfl⟩ ?_ ?_
    · rintro pm m postm _ N2 _ ⟨x2, x3, rfl⟩ hN2
      simp only [List.set_cons_succ, List.set_cons_zero]
      refine ⟨4, rfl, by decide, ?_⟩
      refine lc_gen Sec.d (goTog a m) (fun _ => .int 1) allSc' (fun q _ K k => ⟨a, m, q, rfl, k⟩) (fun q _ _ K k => k) ?_
      refine hN2 _ ⟨.val (.str m.s), x3, ?_⟩
      rw [sumM_snoc, List.length_map]
      have e : (((sumS pre + sumM a pm : Nat) : Int) + ((allSc'.filter (goTog a m)).length : Int)) = ((sumS pre + (sumM a pm + cntS a m) : Nat) : Int) := by unfold cntS; omega
      rw [e]; rfl
    · rintro _ ⟨x2, x3, rfl⟩
      exact hN _ ⟨_, _, _, by rw [List.nil_append, sumS_snoc]⟩
  · rintro _ ⟨x1, x2, x3, rfl⟩
    have e : sumS ([] ++ allSh') = 236 := by decide +kernel
    rw [e]
    refine ⟨by decide, .inl ⟨by decide, by decide⟩, .inl ⟨by decide, by decide⟩, ?_⟩
    exact h
end DL
namespace DL
open PySem PySem.Spec PyProof.Rows L2
/-! ### more calls with right arguments; tests one by one -/
theorem no_sign2 {s t : Sgn} {R : RX} (gs : s.good = true) (gt : t.good = true) : isSignD s.d = false ∨ isSignD t.d = false → R "InvalidSign" := fun z => by
  rw [isSign_S, isSign_S, gs, gt] at z
  rcases z with z | z <;> cases z
theorem no_sign1 {s : Sgn} {R : RX} (gs : s.good = true) : isSignD s.d = false → R "InvalidSign" := fun z => by
  rw [isSign_S, gs] at z; cases z
theorem steps_ok {s t : Sgn} {P : D → Prop} {R : RX} (gs : s.good = true) (gt : t.good = true) (k : P (.int (stepsN s t : Nat))) : sd_steps [s.d, t.d] P R :=
  ⟨plain_S s, plain_S t, fun s' e t' e' _ _ => by
    obtain rfl := (d_eq s s').mp e
    obtain rfl := (d_eq t t').mp e'
    exact k, no_sign2 gs gt⟩
theorem diff_ok {s t : Sgn} {P : D → Prop} {R : RX} (gs : s.good = true) (gt : t.good = true) (k : P (.tup ((unlikeL s t).map .int))) : sd_differences [s.d, t.d] P R :=
  ⟨plain_S s, plain_S t, fun s' e t' e' _ _ => by
    obtain rfl := (d_eq s s').mp e
    obtain rfl := (d_eq t t').mp e'
    exact k, no_sign2 gs gt⟩
theorem chainC_ok {s t : Sgn} {P : D → Prop} {R : RX} (gs : s.good = true) (gt : t.good = true) (k : P (.tup ((chainL s t).map Sgn.d))) : sd_chain [s.d, t.d] P R :=
  ⟨plain_S s, plain_S t, fun s' e t' e' _ _ => by
    obtain rfl := (d_eq s s').mp e
    obtain rfl := (d_eq t t').mp e'
    exact k, no_sign2 gs gt⟩
theorem near_ok {s : Sgn} {P : D → Prop} {R : RX} (gs : s.good = true) (k : P (.tup ((nearL s).map Sgn.d))) : sd_neighbors [s.d] P R :=
  ⟨plain_S s, fun s' e _ => by
    obtain rfl := (d_eq s s').mp e
    exact k, no_sign1 gs⟩
theorem mir_ok {s : Sgn} {P : D → Prop} {R : RX} (gs : s.good = true) (k : P s.mir.d) : sd_mirrored [s.d] P R :=
  ⟨plain_S s, fun s' e _ => by
    obtain rfl := (d_eq s s').mp e
    exact k, no_sign1 gs⟩
theorem rest_ok {s : Sgn} {a : Shp} {t : Trn} {P : D → Prop} {R : RX} (gs : s.good = true) (k : P (.bl (goTog s.sh s.mv (.hand a t)))) : sd_can_rest [s.d, .tup [.str a.s, .str t.s]] P R := by
  have pl : (D.tup [.str a.s, .str t.s]).plain = true := by simp
  refine ⟨plain_S s, pl, fun s' e _ a' t' e2 => ?_, no_sign1 gs, fun _ z => ?_⟩
  · obtain rfl := (d_eq s s').mp e
    injection e2 with e2
    injection e2 with h1 h2
    injection h2 with h2 _
    injection h1 with h1
    injection h2 with h2
    obtain rfl := (sh_inj a a').mp h1
    obtain rfl := (tn_inj t t').mp h2
    exact k
  · rw [isHand_ok] at z; cases z
theorem few_ok {l : List Sgn} {st : Bool × Bool} {P : D → Prop} {R : RX} (ol : okL l = true) (k : P (optRow (goodV l st).head?)) : sd_fewest_things [SsD l, styD st] P R :=
  ⟨SsD l, styD st, rfl, plain_SsD l, plain_sty st, no_signs ol, fun l' ok e => ⟨no_style, fun st' e2 => by
    obtain rfl := SsD_inj e
    obtain rfl := styD_inj e2
    exact k⟩⟩
theorem out_ok {l : List Sgn} {st : Bool × Bool} {v : List Nat} {P : D → Prop} {R : RX} (ol : okL l = true) (ov : OkV v) (k : P (optRow (leave l st v))) : sd_to_leave_out [SsD l, styD st, rowD v] P R :=
  ⟨SsD l, styD st, rowD v, rfl, args_ok ol ov k⟩
theorem sty_ok {l : List Sgn} {v : List Nat} {P : D → Prop} {R : RX} (ol : okL l = true) (ov : OkV v) (k : P (.tup ((stys.filter fun st => clearB l st v).map styD))) : sd_clear_styles [SsD l, rowD v] P R :=
  ⟨SsD l, rowD v, rfl, plain_SsD l, plain_rowD v, no_signs ol, fun l' ok e => ⟨no_view ov, fun v' ov' e2 => by
    obtain rfl := SsD_inj e
    obtain rfl := rowD_inj e2
    exact k⟩⟩
theorem clear_ok {l : List Sgn} {st : Bool × Bool} {v : List Nat} {P : D → Prop} {R : RX} (ol : okL l = true) (ov : OkV v) (k : P (.bl (clearB l st v))) : sd_is_clear [SsD l, styD st, rowD v] P R :=
  ⟨SsD l, styD st, rowD v, rfl, args_ok ol ov k⟩
theorem look_ok {l : List Sgn} {st : Bool × Bool} {v : List Nat} {P : D → Prop} {R : RX} (ol : okL l = true) (ov : OkV v) (k : P (pairD (pairOf l st v))) : sd_look_alike [SsD l, styD st, rowD v] P R :=
  ⟨SsD l, styD st, rowD v, rfl, args_ok ol ov k⟩
theorem twoR_inj {r q r' q' : List Nat} (h : D.tup [rowD r, rowD q] = .tup [rowD r', rowD q']) : r = r' ∧ q = q' := by
  injection h with h
  injection h with h1 h2
  injection h2 with h2 _
  exact ⟨rowD_inj h1, rowD_inj h2⟩
theorem isTwo_ok {n : Nat} {r q : List Nat} (hr : r.length ≤ 8 ∧ ∀ i ∈ r, i < n) (hq : q.length ≤ 8 ∧ ∀ i ∈ q, i < n) : isTwoD n (.tup [rowD r, rowD q]) = true := by
  show (isRowD n (rowD r) && isRowD n (rowD q)) = true
  rw [isRow_iff.mpr ⟨r, hr, rfl⟩, isRow_iff.mpr ⟨q, hq, rfl⟩]; rfl
/-! ### one test after the other -/
section
variable {q q' : DTQ} {t u : DT} {ρ : Rho} {R : RX}
theorem or_f {K : Bool → Prop} (h : ∀ P : Bool → Prop, P false → q ρ P R) (k : q' ρ K R) : qOr q q' ρ K R := h _ (by rw [if_neg (by decide)]; exact k)
theorem or_b {K : Bool → Prop} (b : Bool) (h : ∀ P : Bool → Prop, P b → q ρ P R) (k1 : b = true → K true) (k2 : b = false → q' ρ K R) : qOr q q' ρ K R := by
  refine h _ ?_
  cases b
  · exact k2 rfl
  · exact k1 rfl
theorem and_b {K : Bool → Prop} (b : Bool) (h : ∀ P : Bool → Prop, P b → q ρ P R) (k1 : b = true → q' ρ K R) (k2 : b = false → K false) : qAnd q q' ρ K R := by
  refine h _ ?_
  cases b
  · exact k2 rfl
  · exact k1 rfl
theorem not_run {K : Bool → Prop} (b : Bool) (h : ∀ P : Bool → Prop, P b → q ρ P R) (k : K (!b)) : qNot q ρ K R := h _ k
theorem val_run {K : Bool → Prop} (b : Bool) (h : ∀ P : D → Prop, P (.bl b) → t ρ P R) (k : K b) : qV t ρ K R := h _ k
theorem eqv_run {K : Bool → Prop} (d e : D) (h1 : ∀ P : D → Prop, P d → t ρ P R) (h2 : ∀ P : D → Prop, P e → u ρ P R) (k : fEq d e (isB K)) : qV (dOp fEq t u) ρ K R := h1 _ (h2 _ k)
theorem dne_run {K : D → Prop} (d e : D) (h1 : ∀ P : D → Prop, P d → t ρ P R) (h2 : ∀ P : D → Prop, P e → u ρ P R) (k : fEq d e K) : dOp fEq t u ρ K R := h1 _ (h2 _ k)
end
theorem len_run {t : DT} {ρ : Rho} {K : D → Prop} {R : RX} (ds : List D) (h : ∀ P : D → Prop, P (.tup ds) → t ρ P R) (k : K (.int (ds.length : Int))) : dLen t ρ K R := h _ k
theorem lenL_run {t : DT} {ρ : Rho} {K : D → Prop} {R : RX} (ds : List D) (h : ∀ P : D → Prop, P (.lst ds) → t ρ P R) (k : K (.int (ds.length : Int))) : dLen t ρ K R := h _ k
theorem op2_run {t u : DT} {f : D2} {ρ : Rho} {K : D → Prop} {R : RX} (d e : D) (h1 : ∀ P : D → Prop, P d → t ρ P R) (h2 : ∀ P : D → Prop, P e → u ρ P R) (k : f d e K) : dOp f t u ρ K R := h1 _ (h2 _ k)
theorem opq_run {t u : DT} {f : D2} {ρ : Rho} {K : Bool → Prop} {R : RX} (d e : D) (h1 : ∀ P : D → Prop, P d → t ρ P R) (h2 : ∀ P : D → Prop, P e → u ρ P R) (k : f d e (isB K)) : qV (dOp f t u) ρ K R := h1 _ (h2 _ k)
theorem call1_run {sd : SpD} {t : DT} {ρ : Rho} {K : D → Prop} {R : RX} (d : D) (h : ∀ P : D → Prop, P d → t ρ P R) (k : sd [d] K R) : dCall sd (dCons t dNil) ρ K R := h _ k
theorem call2_run {sd : SpD} {t u : DT} {ρ : Rho} {K : D → Prop} {R : RX} (d e : D) (h1 : ∀ P : D → Prop, P d → t ρ P R) (h2 : ∀ P : D → Prop, P e → u ρ P R) (k : sd [d, e] K R) : dCall sd (dCons t (dCons u dNil)) ρ K R := h1 _ (h2 _ k)
theorem call3_run {sd : SpD} {t u v : DT} {ρ : Rho} {K : D → Prop} {R : RX} (d e f : D) (h1 : ∀ P : D → Prop, P d → t ρ P R) (h2 : ∀ P : D → Prop, P e → u ρ P R) (h3 : ∀ P : D → Prop, P f → v ρ P R) (k : sd [d, e, f] K R) : dCall sd (dCons t (dCons u (dCons v dNil))) ρ K R := h1 _ (h2 _ (h3 _ k))
theorem call4_run {sd : SpD} {t u v x : DT} {ρ : Rho} {K : D → Prop} {R : RX} (d e f g : D) (h1 : ∀ P : D → Prop, P d → t ρ P R) (h2 : ∀ P : D → Prop, P e → u ρ P R) (h3 : ∀ P : D → Prop, P f → v ρ P R) (h4 : ∀ P : D → Prop, P g → x ρ P R) (k : sd [d, e, f, g] K R) : dCall sd (dCons t (dCons u (dCons v (dCons x dNil)))) ρ K R := h1 _ (h2 _ (h3 _ (h4 _ k)))
theorem and_run {t u : DT} {ρ : Rho} {K : D → Prop} {R : RX} (b : Bool) (h : ∀ P : D → Prop, P (.bl b) → t ρ P R) (k1 : b = true → u ρ K R) (k2 : b = false → K (.bl false)) : dAnd t u ρ K R := by
  refine h _ ?_
  cases b
  · exact k2 rfl
  · exact k1 rfl
theorem eq_of {d e : D} {K : D → Prop} (b : Bool) (s1 : shp d = true) (s2 : shp e = true) (h : eqD d e = b) (k : K (.bl b)) : fEq d e K := ⟨s1, s2, by rw [h]; exact k⟩
theorem ne_of' {d e : D} {K : D → Prop} (b : Bool) (s1 : shp d = true) (s2 : shp e = true) (h : eqD d e = b) (k : K (.bl (!b))) : fNe d e K := ⟨s1, s2, by rw [h]; exact k⟩
theorem nev_run {t u : DT} {ρ : Rho} {K : Bool → Prop} {R : RX} (d e : D) (h1 : ∀ P : D → Prop, P d → t ρ P R) (h2 : ∀ P : D → Prop, P e → u ρ P R) (k : fNe d e (isB K)) : qV (dOp fNe t u) ρ K R := h1 _ (h2 _ k)
/-- != of equal data -/
theorem neq_run {t u : DT} {ρ : Rho} {K : Bool → Prop} {R : RX} (d : D) (s : shp d = true) (e : eqD d d = true) (h1 : ∀ P : D → Prop, P d → t ρ P R) (h2 : ∀ P : D → Prop, P d → u ρ P R) (k : K false) : qV (dOp fNe t u) ρ K R := h1 _ (h2 _ (ne_same s e k))
theorem intq_run {t u : DT} {ρ : Rho} {K : Bool → Prop} {R : RX} (i : Int) (h1 : ∀ P : D → Prop, P (.int i) → t ρ P R) (h2 : ∀ P : D → Prop, P (.int i) → u ρ P R) (k : K false) : qV (dOp fNe t u) ρ K R :=
  neq_run (.int i) (shp_int i) (by rw [eqD_int, beq_self_eq_true]) h1 h2 k
end DL
namespace DL
open PySem PySem.Spec PyProof.Rows L2
/-! ### subsets in their order -/
def keyS (r : List Nat) : List Int := (r.length : Int) :: intL r
theorem keyS_inj {r q : List Nat} (h : keyS r = keyS q) : r = q := by
  unfold keyS at h
  injection h with _ h
  exact intL_inj h
theorem alike_rows (r q : List Nat) : PySem.W.alike (.tuple ((intL r).map PyData.int)) (.tuple ((intL q).map PyData.int)) = true := by
  rw [PySem.W.alike]
  exact PySem.W.alike_ints _ _
theorem leD_siz (r q : List Nat) : leD (sizD r) (sizD q) = !decide (keyS q < keyS r) := by
  show PySem.W.dataLe false D.py (sizD r) (sizD q) = _
  rw [PySem.W.dataLe_eq]
  show (!PySem.W.dataLt (sizD q).py (sizD r).py) = _
  have py : ∀ r : List Nat, (sizD r).py = .tuple [.int (r.length : Int), .tuple ((intL r).map PyData.int)] := siz_py
  rw [py, py, PySem.W.dataLt_pair (by simp [PySem.W.alike]) (alike_rows q r), PySem.W.dataLt_int]
  congr 1
  unfold keyS
  by_cases h : (q.length : Int) = (r.length : Int)
  · have e1 : PyData.eqv (.int (q.length : Int)) (.int (r.length : Int)) = true := by simp [PyData.eqv, h]
    rw [if_pos e1]
    have lt : PySem.W.dataLt (.tuple ((intL q).map PyData.int)) (.tuple ((intL r).map PyData.int)) = decide (intL q < intL r) := by
      rw [PySem.W.dataLt_tuple]
      exact PySem.W.dataLt_ints _ _
    rw [lt]
    by_cases e : q = r
    · subst e
      have e2 : PyData.eqv (.tuple ((intL q).map PyData.int)) (.tuple ((intL q).map PyData.int)) = true := by
        have := eqD_row q q
        rw [decide_eq_true rfl] at this
        unfold eqD at this
        rw [row_py2] at this
        exact this
      rw [if_pos e2]
      exact (decide_eq_false (List.lt_irrefl _)).symm
    · have e2 : PyData.eqv (.tuple ((intL q).map PyData.int)) (.tuple ((intL r).map PyData.int)) = false := by
        have := eqD_row q r
        rw [decide_eq_false e] at this
        unfold eqD at this
        rw [row_py2, row_py2] at this
        exact this
      rw [e2, if_neg (by decide)]
      rw [h]
      simp [List.cons_lt_cons_iff]
  · have e1 : PyData.eqv (.int (q.length : Int)) (.int (r.length : Int)) = false := by simp [PyData.eqv]; omega
    rw [e1, if_neg (by decide)]
    have : ((q.length : Int) :: intL q < (r.length : Int) :: intL r) = ((q.length : Int) < (r.length : Int)) := by
      simp [List.cons_lt_cons_iff, h]

    exact decide_eq_decide.mpr (by rw [this])
theorem asc_uniqK {α : Type} (f : α → List Int) : ∀ (l m : List α), l.Pairwise (fun r q => f r < f q) → m.Pairwise (fun r q => f r < f q) → (∀ x, x ∈ l ↔ x ∈ m) → l = m
  | [], [], _, _, _ => rfl
  | [], b :: m, _, _, h => by have := (h b).mpr (by simp); cases this
  | a :: l, [], _, _, h => by have := (h a).mp (by simp); cases this
  | a :: l, b :: m, h1, h2, h => by
    rw [List.pairwise_cons] at h1 h2
    have irr : ∀ x : List Int, ¬ x < x := fun x => List.lt_irrefl x
    have e : a = b := by
      rcases List.mem_cons.mp ((h a).mp (by simp)) with e | ha
      · exact e
      · rcases List.mem_cons.mp ((h b).mpr (by simp)) with e | hb
        · exact e.symm
        · exact absurd (List.lt_trans (h1.1 b hb) (h2.1 a ha)) (irr _)
    subst e
    rw [asc_uniqK f l m h1.2 h2.2 fun x => ?_]
    constructor
    · intro hx
      rcases List.mem_cons.mp ((h x).mp (List.mem_cons_of_mem _ hx)) with e | hm
      · rw [e] at hx; exact absurd (h1.1 a hx) (irr _)
      · exact hm
    · intro hx
      rcases List.mem_cons.mp ((h x).mpr (List.mem_cons_of_mem _ hx)) with e | hm
      · rw [e] at hx; exact absurd (h2.1 a hx) (irr _)
      · exact hm
/-- sorted by keys that tell all apart -/
theorem sort_ascK {α : Type} (f : α → List Int) (inj : ∀ a b, f a = f b → a = b) (le : α → α → Bool) (hle : ∀ a b, le a b = !decide (f b < f a)) (l : List α) (nd : l.Nodup) : (l.mergeSort le).Pairwise fun r q => f r < f q := by
  have h := List.pairwise_mergeSort (le := le) (fun a b c h1 h2 => by
    rw [hle, Bool.not_eq_true', decide_eq_false_iff_not] at h1 h2 ⊢
    exact fun h => by
      rcases tri_L (f c) (f b) with z | z | z
      · exact h2 z
      · rw [z] at h; exact h1 h
      · exact h1 (List.lt_trans z h)) (fun a b => by
    rw [hle, hle, Bool.or_eq_true, Bool.not_eq_true', Bool.not_eq_true', decide_eq_false_iff_not, decide_eq_false_iff_not]
    by_cases z : f b < f a
    · exact .inr fun h => List.lt_irrefl _ (List.lt_trans z h)
    · exact .inl z) l
  have nd2 : (l.mergeSort le).Nodup := (List.mergeSort_perm l le).nodup_iff.mpr nd
  refine (h.and nd2).imp fun {a b} hab => ?_
  obtain ⟨h1, h2⟩ := hab
  rw [hle, Bool.not_eq_true', decide_eq_false_iff_not] at h1
  rcases tri_L (f a) (f b) with z | z | z
  · exact z
  · exact absurd (inj _ _ z) h2
  · exact absurd z h1
theorem rowsS_nodup : ∀ n, (rowsS n).Nodup
  | 0 => List.nodup_cons.mpr ⟨by simp, .nil⟩
  | n + 1 => by
    show (rowsS n ++ (rowsS n).map fun r => r ++ [n]).Nodup
    rw [List.nodup_append]
    refine ⟨rowsS_nodup n, nodup_map _ (fun a b e => List.append_cancel_right e) _ (rowsS_nodup n), fun x hx y hy e => ?_⟩
    obtain ⟨q, _, rfl⟩ := List.mem_map.mp hy
    subst e
    have := (rowsS_ok hx).2 n (by simp)
    omega
theorem mem_rowsS : ∀ {n : Nat} {r : List Nat}, r ∈ rowsS n ↔ r.Pairwise (· < ·) ∧ ∀ i ∈ r, i < n
  | 0, r => by
    refine ⟨rowsS_ok, fun h => ?_⟩
    cases r with
    | nil => exact List.mem_singleton.mpr rfl
    | cons a r => exact absurd (h.2 a (by simp)) (by omega)
  | n + 1, r => by
    refine ⟨rowsS_ok, fun h => ?_⟩
    show r ∈ rowsS n ++ (rowsS n).map fun r => r ++ [n]
    rcases List.eq_nil_or_concat r with rfl | ⟨q, i, rfl⟩
    · exact List.mem_append.mpr (.inl (mem_rowsS.mpr ⟨.nil, fun i hi => by cases hi⟩))
    · rw [List.concat_eq_append] at h ⊢
      obtain ⟨h1, h2⟩ := h
      rw [List.pairwise_append] at h1
      have qi : ∀ j ∈ q, j < i := fun j hj => h1.2.2 j hj i (by simp)
      by_cases e : i = n
      · subst e
        exact List.mem_append.mpr (.inr (List.mem_map.mpr ⟨q, mem_rowsS.mpr ⟨h1.1, qi⟩, rfl⟩))
      · have hi := h2 i (by simp)
        refine List.mem_append.mpr (.inl (mem_rowsS.mpr ⟨List.pairwise_append.mpr h1, fun j hj => ?_⟩))
        rcases List.mem_append.mp hj with hj | hj
        · have := qi j hj; omega
        · rw [List.mem_singleton] at hj; omega
theorem subL_asc (n : Nat) : (subL n).Pairwise fun r q => keyS r < keyS q := sort_ascK keyS (fun _ _ => keyS_inj) _ leD_siz _ (rowsS_nodup n)
theorem subL_is (n : Nat) (m : List (List Nat)) (h : m.Pairwise fun r q => keyS r < keyS q) (hm : (m.all fun x => decide (x ∈ rowsS n)) = true) (hn : ((rowsS n).all fun x => decide (x ∈ m)) = true) : subL n = m :=
  asc_uniqK keyS _ _ (subL_asc n) h fun x => by
    rw [mem_subL]
    exact ⟨fun hx => of_decide_eq_true (List.all_eq_true.mp hn x hx), fun hx => of_decide_eq_true (List.all_eq_true.mp hm x hx)⟩
def sub3 : List (List Nat) := [[], [0], [1], [2], [0, 1], [0, 2], [1, 2], [0, 1, 2]]
def sub4 : List (List Nat) := [[], [0], [1], [2], [3], [0, 1], [0, 2], [0, 3], [1, 2], [1, 3], [2, 3], [0, 1, 2], [0, 1, 3], [0, 2, 3], [1, 2, 3], [0, 1, 2, 3]]
def sub5 : List (List Nat) := [[], [0], [1], [2], [3], [4], [0, 1], [0, 2], [0, 3], [0, 4], [1, 2], [1, 3], [1, 4], [2, 3], [2, 4], [3, 4], [0, 1, 2], [0, 1, 3], [0, 1, 4], [0, 2, 3], [0, 2, 4], [0, 3, 4], [1, 2, 3], [1, 2, 4], [1, 3, 4], [2, 3, 4],
  [0, 1, 2, 3], [0, 1, 2, 4], [0, 1, 3, 4], [0, 2, 3, 4], [1, 2, 3, 4], [0, 1, 2, 3, 4]]
theorem subL3 : subL 3 = sub3 := subL_is 3 _ (by decide +kernel) (by decide +kernel) (by decide +kernel)
theorem subL4 : subL 4 = sub4 := subL_is 4 _ (by decide +kernel) (by decide +kernel) (by decide +kernel)
theorem subL5 : subL 5 = sub5 := subL_is 5 _ (by decide +kernel) (by decide +kernel) (by decide +kernel)
end DL
namespace DL
open PySem PySem.Spec PyProof.Rows L2
/-! ### what is clear stays clear: more things, fewer signs -/
theorem gls_iff {l : List Sgn} {st : Bool × Bool} {v : List Nat} {r q : List Nat} : glsK l r st v = glsK l q st v ↔ (shownRow l r st).map (glK v) = (shownRow l q st).map (glK v) := by
  unfold glsK
  exact ⟨fun h => by injection h, fun h => by rw [h]⟩
theorem gl_fewer {v v' : List Nat} (h : ∀ i ∈ v, i ∈ v') {s t : Sgn} (e : glK v' s = glK v' t) : glK v s = glK v t := glK_eq.mpr fun i hi => glK_eq.mp e i (h i hi)
theorem map_fewer {v v' : List Nat} (h : ∀ i ∈ v, i ∈ v') : ∀ {a b : List Sgn}, a.map (glK v') = b.map (glK v') → a.map (glK v) = b.map (glK v)
  | [], [], _ => rfl
  | [], _ :: _, e => by cases e
  | _ :: _, [], e => by cases e
  | x :: a, y :: b, e => by
    rw [List.map_cons, List.map_cons] at e ⊢
    injection e with e1 e2
    rw [gl_fewer h e1, map_fewer h e2]
theorem gls_fewer {l : List Sgn} {st : Bool × Bool} {v v' : List Nat} (h : ∀ i ∈ v, i ∈ v') {r q : List Nat} (e : glsK l r st v' = glsK l q st v') : glsK l r st v = glsK l q st v := gls_iff.mpr (map_fewer h (gls_iff.mp e))
theorem clear_more {l : List Sgn} {st : Bool × Bool} {v v' : List Nat} (h : ∀ i ∈ v, i ∈ v') (c : clearB l st v = true) : clearB l st v' = true :=
  clear_iff.mpr fun r q hr hq e => clear_iff.mp c r q hr hq (gls_fewer h e)
/-- the place of a sign -/
theorem at_idx {l : List Sgn} {s : Sgn} (h : s ∈ l) : l.idxOf s < l.length ∧ l.getD (l.idxOf s) s0 = s := by
  have hi := List.idxOf_lt_length_iff.mpr h
  refine ⟨hi, ?_⟩
  rw [List.getD_eq_getElem?_getD, List.getElem?_eq_getElem hi, Option.getD_some]
  exact List.getElem_idxOf hi
theorem getD_mem {l : List Sgn} {i : Nat} (h : i < l.length) : l.getD i s0 ∈ l := by
  rw [List.getD_eq_getElem?_getD, List.getElem?_eq_getElem h]
  exact List.getElem_mem h
theorem getD_inj {l : List Sgn} (nd : l.Nodup) {i j : Nat} (hi : i < l.length) (hj : j < l.length) (e : l.getD i s0 = l.getD j s0) : i = j := by
  rw [List.getD_eq_getElem?_getD, List.getElem?_eq_getElem hi, List.getD_eq_getElem?_getD, List.getElem?_eq_getElem hj, Option.getD_some, Option.getD_some] at e
  exact (List.getElem_inj nd).mp e
theorem clear_sub {l l' : List Sgn} {st : Bool × Bool} {v : List Nat} (hs : ∀ s ∈ l', s ∈ l) (nd : l'.Nodup) (c : clearB l st v = true) : clearB l' st v = true := by
  have f : ∀ i, i < l'.length → l.idxOf (l'.getD i s0) < l.length ∧ l.getD (l.idxOf (l'.getD i s0)) s0 = l'.getD i s0 := fun i hi => at_idx (hs _ (getD_mem hi))
  have pk : ∀ r : List Nat, (∀ i ∈ r, i < l'.length) → pick l (r.map fun i => l.idxOf (l'.getD i s0)) = pick l' r := fun r hr => by
    unfold pick
    rw [List.map_map]
    exact List.map_congr_left fun i hi => (f i (hr i hi)).2
  refine clear_iff.mpr fun r q hr hq e => ?_
  have ok : ∀ r : List Nat, (r.length = 1 ∨ r.length = 2) ∧ (∀ i ∈ r, i < l'.length) → ((r.map fun i => l.idxOf (l'.getD i s0)).length = 1 ∨ (r.map fun i => l.idxOf (l'.getD i s0)).length = 2) ∧ ∀ i ∈ r.map (fun i => l.idxOf (l'.getD i s0)), i < l.length := fun r h => ⟨by rw [List.length_map]; exact h.1, fun i hi => by
    obtain ⟨j, hj, rfl⟩ := List.mem_map.mp hi
    exact (f j (h.2 j hj)).1⟩
  have e2 : glsK l (r.map fun i => l.idxOf (l'.getD i s0)) st v = glsK l (q.map fun i => l.idxOf (l'.getD i s0)) st v := by
    unfold glsK shownRow at e ⊢
    rw [pk r hr.2, pk q hq.2]; exact e
  have e3 := clear_iff.mp c _ _ (ok r hr) (ok q hq) e2
  have e4 : pick l' r = pick l' q := by rw [← pk r hr.2, ← pk q hq.2, e3]
  have inj : ∀ {a b : List Nat}, (∀ i ∈ a, i < l'.length) → (∀ i ∈ b, i < l'.length) → pick l' a = pick l' b → a = b := fun {a} => by
    induction a with
    | nil => intro b _ _ h; cases b with
      | nil => rfl
      | cons _ _ => cases h
    | cons x a ih => intro b ha hb h; cases b with
      | nil => cases h
      | cons y b =>
        unfold pick at h ih
        rw [List.map_cons, List.map_cons] at h
        injection h with h1 h2
        rw [getD_inj nd (ha x (by simp)) (hb y (by simp)) h1, ih (fun i hi => ha i (List.mem_cons_of_mem _ hi)) (fun i hi => hb i (List.mem_cons_of_mem _ hi)) h2]
  exact inj hr.2 hq.2 e4
/-- one sign alone -/
theorem clear_one (s : Sgn) (st : Bool × Bool) (v : List Nat) : clearB [s] st v = true := by
  refine clear_iff.mpr fun r q hr hq e => ?_
  have hl : r.length = q.length := by
    have := congrArg List.length (gls_iff.mp e)
    rw [List.length_map, List.length_map, shownRow_len, shownRow_len] at this; exact this
  have zero : ∀ {r : List Nat}, (∀ i ∈ r, i < [s].length) → r = List.replicate r.length 0 := fun {r} h => List.eq_replicate_iff.mpr ⟨rfl, fun i hi => by have := h i hi; simp at this; exact this⟩
  rw [zero hr.2, zero hq.2, hl]
/-- nothing seen: one sign alone -/
theorem clear_nil {l : List Sgn} {st : Bool × Bool} (h1 : 1 ≤ l.length) : clearB l st [] = decide (l.length = 1) := by
  by_cases h : l.length = 1
  · rw [decide_eq_true h]
    match l, h with
    | [s], _ => exact clear_one s st []
  · rw [decide_eq_false h]
    cases c : clearB l st [] with
    | false => rfl
    | true =>
      exfalso
      have := one_inj c (a := 0) (b := 1) (by omega) (by omega) rfl
      cases this
/-! ### the first of the subsets -/
theorem find_least {α : Type} (f : α → List Int) {p : α → Bool} {y : α} : ∀ {l : List α}, l.Pairwise (fun r q => f r < f q) → l.find? p = some y → ∀ x ∈ l, p x = true → ¬ f x < f y
  | [], _, h, _, _, _ => by cases h
  | a :: l, hp, h, x, hx, px => by
    rw [List.pairwise_cons] at hp
    rw [List.find?_cons] at h
    cases q : p a with
    | true =>
      rw [q] at h
      cases h
      rcases List.mem_cons.mp hx with rfl | hx
      · exact List.lt_irrefl _
      · exact fun z => List.lt_irrefl _ (List.lt_trans z (hp.1 x hx))
    | false =>
      rw [q] at h
      rcases List.mem_cons.mp hx with rfl | hx
      · rw [q] at px; cases px
      · exact find_least f hp.2 h x hx px
theorem keyS_len {r q : List Nat} (h : r.length < q.length) : keyS r < keyS q := List.Lex.rel (by omega)
theorem nil_sub (n : Nat) : [] ∈ subL n := mem_subL.mpr (mem_rowsS.mpr ⟨.nil, fun i hi => by cases hi⟩)
theorem find_nil {n : Nat} {p : List Nat → Bool} (h : p [] = true) : (subL n).find? p = some [] := by
  cases q : (subL n).find? p with
  | none => exact absurd h (by rw [Bool.not_eq_true]; simpa using List.find?_eq_none.mp q [] (nil_sub n))
  | some y =>
    cases y with
    | nil => rfl
    | cons a y => exact absurd (keyS_len (by simp)) (find_least keyS (subL_asc n) q [] (nil_sub n) h)
/-- a row without one of its places -/
def cutAt (r : List Nat) (i : Nat) : List Nat := r.take i ++ r.drop (i + 1)
theorem cutAt_sub (r : List Nat) (i : Nat) : (cutAt r i).Sublist r := by
  unfold cutAt
  have h : (r.take i ++ r.drop (i + 1)).Sublist (r.take i ++ r.drop i) := (List.Sublist.refl _).append (by
    have : r.drop (i + 1) = (r.drop i).drop 1 := by rw [List.drop_drop]
    rw [this]; exact List.drop_sublist 1 _)
  rw [List.take_append_drop] at h; exact h
theorem cutAt_len {r : List Nat} {i : Nat} (h : i < r.length) : (cutAt r i).length + 1 = r.length := by
  unfold cutAt
  rw [List.length_append, List.length_take, List.length_drop]; omega
theorem cutAt_mem {n i : Nat} {r : List Nat} (h : r ∈ subL n) : cutAt r i ∈ subL n := by
  obtain ⟨h1, h2⟩ := mem_rowsS.mp (mem_subL.mp h)
  exact mem_subL.mpr (mem_rowsS.mpr ⟨h1.sublist (cutAt_sub r i), fun j hj => h2 j ((cutAt_sub r i).subset hj)⟩)
/-- what is found is found with none of its places less -/
theorem find_cut {n i : Nat} {p : List Nat → Bool} {r : List Nat} (h : (subL n).find? p = some r) (hi : i < r.length) : p (cutAt r i) = false := by
  cases q : p (cutAt r i) with
  | false => rfl
  | true => exact absurd (keyS_len (by have := cutAt_len hi; omega)) (find_least keyS (subL_asc n) h _ (cutAt_mem (List.mem_of_find?_eq_some h)) q)
theorem goodV_find (l : List Sgn) (st : Bool × Bool) : (goodV l st).head? = (subL 5).find? fun v => clearB l st v := by
  unfold goodV
  rw [List.head?_filter]
/-! ### signs left out -/
theorem restOf_nil (l : List Sgn) : restOf l [] = l := by
  unfold restOf
  rw [List.filter_eq_self.mpr (fun i _ => by simp)]
  exact range_getD l
theorem restOf_nodup {l : List Sgn} (nd : l.Nodup) (r : List Nat) : (restOf l r).Nodup := nd.sublist (restOf_sub l r)
theorem restOf_more {l : List Sgn} {r q : List Nat} (h : ∀ i ∈ q, i ∈ r) : ∀ s ∈ restOf l r, s ∈ restOf l q := fun s hs => by
  obtain ⟨i, hi, rfl⟩ := List.mem_map.mp hs
  obtain ⟨h1, h2⟩ := List.mem_filter.mp hi
  refine List.mem_map.mpr ⟨i, List.mem_filter.mpr ⟨h1, ?_⟩, rfl⟩
  rw [Bool.not_eq_true', decide_eq_false_iff_not] at h2 ⊢
  exact fun z => h2 (h i z)
theorem filt_add {α : Type} (p : α → Bool) : ∀ l : List α, (l.filter p).length + (l.filter fun x => !p x).length = l.length
  | [] => rfl
  | a :: l => by
    have := filt_add p l
    cases q : p a
    · rw [List.filter_cons_of_neg (by rw [q]; decide), List.filter_cons_of_pos (by rw [q]; decide), List.length_cons, List.length_cons]; omega
    · rw [List.filter_cons_of_pos q, List.filter_cons_of_neg (by rw [q]; decide), List.length_cons, List.length_cons]; omega
theorem restOf_len {n : Nat} {l : List Sgn} {r : List Nat} (hn : l.length = n) (h : r ∈ subL n) : (restOf l r).length + r.length = n := by
  obtain ⟨h1, h2⟩ := mem_rowsS.mp (mem_subL.mp h)
  unfold restOf
  rw [List.length_map, hn]
  have nd : r.Nodup := h1.imp fun {a b} hab e => by omega
  have e : ((List.range n).filter fun i => decide (i ∈ r)).length = r.length := by
    have p : ((List.range n).filter fun i => decide (i ∈ r)).Perm r := by
      rw [List.perm_ext_iff_of_nodup (List.nodup_range.filter _) nd]
      intro a
      rw [List.mem_filter, List.mem_range, decide_eq_true_iff]
      exact ⟨fun z => z.2, fun z => ⟨h2 a z, z⟩⟩
    exact p.length_eq
  have t := filt_add (fun i => decide (i ∈ r)) (List.range n)
  rw [List.length_range] at t
  omega
/-- something is always left -/
theorem leave_some {l : List Sgn} {st : Bool × Bool} {v : List Nat} (h1 : 1 ≤ l.length) : ∃ r, leave l st v = some r ∧ r ∈ subL l.length ∧ restOf l r ≠ [] ∧ clearB (restOf l r) st v = true := by
  have hm : List.range (l.length - 1) ∈ subL l.length := mem_subL.mpr (mem_rowsS.mpr ⟨List.pairwise_lt_range, fun i hi => by have := List.mem_range.mp hi; omega⟩)
  have hl := restOf_len rfl hm
  rw [List.length_range] at hl
  cases q : leave l st v with
  | some r =>
    unfold leave at q
    have := List.find?_some q
    rw [Bool.and_eq_true, Bool.not_eq_true', List.isEmpty_eq_false_iff] at this
    exact ⟨r, rfl, List.mem_of_find?_eq_some q, this.1, this.2⟩
  | none =>
    exfalso
    unfold leave at q
    have z := List.find?_eq_none.mp q _ hm
    match hq : restOf l (List.range (l.length - 1)) with
    | [] => rw [hq] at hl; simp at hl; omega
    | [s] =>
      rw [hq] at z
      rw [clear_one] at z
      exact z rfl
    | _ :: _ :: _ => rw [hq] at hl; simp at hl; omega
theorem leave_nil {l : List Sgn} {st : Bool × Bool} {v : List Nat} {r : List Nat} (h1 : 1 ≤ l.length) (h : leave l st v = some r) : decide (r = []) = clearB l st v := by
  have ne : l.isEmpty = false := by
    cases l with
    | nil => simp at h1
    | cons _ _ => rfl
  cases c : clearB l st v with
  | true =>
    have : leave l st v = some [] := by
      unfold leave
      refine find_nil ?_
      rw [restOf_nil, ne, c]; rfl
    rw [h] at this
    exact decide_eq_true (Option.some.inj this)
  | false =>
    refine decide_eq_false fun e => ?_
    subst e
    unfold leave at h
    have := List.find?_some h
    rw [restOf_nil, c, Bool.and_false] at this
    cases this
theorem leave_cut {l : List Sgn} {st : Bool × Bool} {v : List Nat} {r : List Nat} {i : Nat} (h : leave l st v = some r) (hi : i < r.length) : restOf l (cutAt r i) ≠ [] ∧ clearB (restOf l (cutAt r i)) st v = false := by
  have hf := h
  unfold leave at hf
  have hr := List.find?_some hf
  rw [Bool.and_eq_true, Bool.not_eq_true', List.isEmpty_eq_false_iff] at hr
  have ne : restOf l (cutAt r i) ≠ [] := fun e => by
    obtain ⟨s, hs⟩ := List.exists_mem_of_ne_nil _ hr.1
    have := restOf_more (l := l) (fun j hj => (cutAt_sub r i).subset hj) s hs
    rw [e] at this; cases this
  refine ⟨ne, ?_⟩
  have z := find_cut hf hi
  rw [Bool.and_eq_false_iff] at z
  rcases z with z | z
  · rw [Bool.not_eq_false', List.isEmpty_iff] at z
    exact absurd z ne
  · exact z
theorem sub1 : subL 1 = [[], [0]] := subL_is 1 _ (by decide +kernel) (by decide +kernel) (by decide +kernel)
theorem sub2 : subL 2 = [[], [0], [1], [0, 1]] := subL_is 2 _ (by decide +kernel) (by decide +kernel) (by decide +kernel)
theorem leave_all {l : List Sgn} {st : Bool × Bool} (h1 : 1 ≤ l.length) (h5 : l.length ≤ 5) : leave l st [] = some (List.range (l.length - 1)) := by
  have e : leave l st [] = (subL l.length).find? fun r => decide (r.length + 1 = l.length) := by
    unfold leave
    have key : ∀ rs : List (List Nat), (∀ r ∈ rs, r ∈ subL l.length) → rs.find? (fun r => !(restOf l r).isEmpty && clearB (restOf l r) st []) = rs.find? fun r => decide (r.length + 1 = l.length) := fun rs => by
      induction rs with
      | nil => intro _; rfl
      | cons r rs ih =>
        intro h
        have hl := restOf_len rfl (h r (by simp))
        have ep : (!(restOf l r).isEmpty && clearB (restOf l r) st []) = decide (r.length + 1 = l.length) := by
          cases q : restOf l r with
          | nil =>
            rw [q] at hl
            rw [decide_eq_false (by simp at hl; omega)]; rfl
          | cons s t =>
            rw [← q, clear_nil (by rw [q]; simp)]
            have : (restOf l r).isEmpty = false := by rw [q]; rfl
            rw [this, Bool.not_false, Bool.true_and]
            exact decide_eq_decide.mpr ⟨fun z => by omega, fun z => by omega⟩
        rw [List.find?_cons, List.find?_cons, ep, ih fun r hr => h r (List.mem_cons_of_mem _ hr)]
    exact key _ fun r h => h
  rw [e]
  generalize l.length = n at h1 h5
  rcases (by omega : n = 1 ∨ n = 2 ∨ n = 3 ∨ n = 4 ∨ n = 5) with rfl | rfl | rfl | rfl | rfl
  · rw [sub1]; rfl
  · rw [sub2]; rfl
  · rw [subL3]; rfl
  · rw [subL4]; rfl
  · rw [subL5]; rfl
/-! ### fewest things -/
theorem few_none {l : List Sgn} {st : Bool × Bool} : (goodV l st).head?.isNone = !clearB l st [0, 1, 2, 3, 4] := by
  rw [goodV_find]
  have hm : [0, 1, 2, 3, 4] ∈ subL 5 := by rw [subL5]; decide
  cases q : (subL 5).find? fun v => clearB l st v with
  | none =>
    have := List.find?_eq_none.mp q _ hm
    rw [Bool.not_eq_true] at this
    rw [this]; rfl
  | some v =>
    have c := List.find?_some q
    have hv := (mem_rowsS.mp (mem_subL.mp (List.mem_of_find?_eq_some q))).2
    rw [clear_more (fun i hi => by have := hv i hi; rcases (by omega : i = 0 ∨ i = 1 ∨ i = 2 ∨ i = 3 ∨ i = 4) with rfl | rfl | rfl | rfl | rfl <;> simp) c]; rfl
theorem few_nil {l : List Sgn} {st : Bool × Bool} {v : List Nat} (h1 : 1 ≤ l.length) (h : (goodV l st).head? = some v) : decide (v = []) = decide (l.length = 1) := by
  rw [goodV_find] at h
  rw [← clear_nil (st := st) h1]
  cases c : clearB l st [] with
  | true =>
    have := find_nil (n := 5) (p := fun v => clearB l st v) c
    rw [h] at this
    exact decide_eq_true (Option.some.inj this)
  | false =>
    refine decide_eq_false fun e => ?_
    subst e
    have := List.find?_some h
    rw [c] at this; cases this
theorem few_ok2 {l : List Sgn} {st : Bool × Bool} {v : List Nat} (h : (goodV l st).head? = some v) : OkV v ∧ clearB l st v = true ∧ ∀ i, i < v.length → OkV (cutAt v i) ∧ clearB l st (cutAt v i) = false := by
  rw [goodV_find] at h
  have hm := List.mem_of_find?_eq_some h
  have ok : ∀ {v : List Nat}, v ∈ subL 5 → OkV v := fun {v} hv => ⟨sub5_le hv, (mem_rowsS.mp (mem_subL.mp hv)).1⟩
  exact ⟨ok hm, List.find?_some h, fun i hi => ⟨ok (cutAt_mem hm), find_cut h hi⟩⟩
theorem all_sty (st : Bool × Bool) : st ∈ stys := by
  obtain ⟨a, b⟩ := st
  cases a <;> cases b <;> decide
end DL
namespace DL
open PySem PySem.Spec PyProof.Rows L2
/-! ### cuts, comprehensions, tests -/
theorem cut_take (ds : List D) {a : Nat} (h : a ≤ ds.length) : cutD ds none (some (a : Int)) = ds.take a := by
  unfold cutD
  rw [HT.sIx_none, HT.sIx_nat, List.drop_zero, Nat.sub_zero, Nat.min_eq_left h]
theorem cut_drop (ds : List D) {a : Nat} (h : a ≤ ds.length) : cutD ds (some (a : Int)) none = ds.drop a := by
  unfold cutD
  rw [HT.sIx_none, HT.sIx_nat, Nat.min_eq_left h, List.take_of_length_le (by rw [List.length_drop]; exact Nat.le_refl _)]
theorem row_take (v : List Nat) {i : Nat} (h : i ≤ v.length) : D.tup (cutD (v.map natD) none (some (i : Int))) = rowD (v.take i) := by
  rw [cut_take _ (by rw [List.length_map]; exact h), ← List.map_take]; rfl
theorem row_drop (v : List Nat) {i : Nat} (h : i ≤ v.length) : D.tup (cutD (v.map natD) (some (i : Int)) none) = rowD (v.drop i) := by
  rw [cut_drop _ (by rw [List.length_map]; exact h), ← List.map_drop]; rfl
theorem fAdd_rows {r q : List Nat} {P : D → Prop} (h : r.length + q.length ≤ 1000) (k : P (rowD (r ++ q))) : fAdd (rowD r) (rowD q) P := by
  refine ⟨?_, ?_⟩
  · rw [List.length_map, List.length_map]; exact ofNat_line h
  · rw [← List.map_append]; exact k
/-- r[:i] + r[i + 1:] -/
theorem cut_run {ρ : Rho} {a b : Nat} {v : List Nat} {i : Nat} (ha : ρ[a]? = some (.val (rowD v))) (hb : ρ[b]? = some (.val (natD i))) (hi : i < v.length) (hl : v.length ≤ 1000) {P : D → Prop} {R : RX} (k : P (rowD (cutAt v i))) :
    dOp fAdd (dSl (dV a) dNoP (dP (dV b))) (dSl (dV a) (dP (dOp fAdd (dV b) (dC (.int 1)))) dNoP) ρ P R := by
  refine op2_run (rowD (v.take i)) (rowD (v.drop (i + 1))) (fun P k => ?_) (fun P k => ?_) (fAdd_rows (by rw [List.length_take, List.length_drop]; omega) k)
  · show slP ρ[a]? _
    rw [ha]
    show slP ρ[b]? _
    rw [hb]
    show P (D.tup (cutD (v.map natD) none (some (i : Int))))
    rw [row_take v (by omega)]; exact k
  · show slP ρ[a]? _
    rw [ha]
    show slP ρ[b]? _
    rw [hb]
    show P (D.tup (cutD (v.map natD) (some ((i : Int) + 1)) none))
    have e : ((i : Int) + 1) = ((i + 1 : Nat) : Int) := rfl
    rw [e, row_drop v (by omega)]; exact k
theorem opt_isNone (o : Option (List Nat)) {P : D → Prop} (k : P (.bl o.isNone)) : fIsN (optRow o) .non P := by
  cases o <;> exact k
theorem len_SsD {t : DT} {ρ : Rho} {K : D → Prop} {R : RX} (l : List Sgn) (h : ∀ P : D → Prop, P (SsD l) → t ρ P R) (k : K (.int (l.length : Int))) : dLen t ρ K R := by
  refine len_run (l.map Sgn.d) h ?_
  rw [List.length_map]; exact k
theorem len_rowD {t : DT} {ρ : Rho} {K : D → Prop} {R : RX} (r : List Nat) (h : ∀ P : D → Prop, P (rowD r) → t ρ P R) (k : K (.int (r.length : Int))) : dLen t ρ K R := by
  refine len_run (r.map natD) h ?_
  rw [List.length_map]; exact k
/-- range(len(row)) -/
theorem range_run {t : DT} {ρ : Rho} {K : List D → Prop} {R : RX} (n : Nat) (hn : n ≤ 1000) (h : ∀ P : D → Prop, P (.int (n : Int)) → t ρ P R) (k : K ((List.range n).map natD)) : dRange t ρ K R := by
  refine h _ ⟨⟨by omega, by omega⟩, ?_⟩
  rw [rangeN]; exact k
theorem eqD_blq (a b : Bool) (h : a = b) : eqD (.bl a) (.bl b) = true := by rw [eqD_bl, h, beq_self_eq_true]
theorem eqI (a b : Nat) : eqD (.int (a : Int)) (.int (b : Int)) = decide (a = b) := by
  rw [eqD_int, Bool.eq_iff_iff, beq_iff_eq, decide_eq_true_iff]
  exact Int.ofNat_inj
theorem blne_run {t u : DT} {ρ : Rho} {K : Bool → Prop} {R : RX} (a b : Bool) (e : a = b) (h1 : ∀ P : D → Prop, P (.bl a) → t ρ P R) (h2 : ∀ P : D → Prop, P (.bl b) → u ρ P R) (k : K false) : qV (dOp fNe t u) ρ K R :=
  nev_run (.bl a) (.bl b) h1 h2 (ne_of' true (shp_bl _) (shp_bl _) (eqD_blq a b e) k)
theorem for_range {i : Nat} {s : DST} {De : DEnds} (I : Rho → Prop) (n : Nat) (ρ : Rho) (h0 : I ρ) (hs : ∀ j, j < n → ∀ ρ, I ρ → ∀ N : Rho → Prop, (∀ ρ', I ρ' → N ρ') → s (ρ.set i (.val (natD j))) { De with nx := N, ct := N, bk := De.nx }) (he : ∀ ρ, I ρ → De.nx ρ) : forGo (gN i) s De ((List.range n).map natD) ρ :=
  for_odds I _ ρ h0 (fun d hd => by
    obtain ⟨j, hj, rfl⟩ := List.mem_map.mp hd
    exact hs j (List.mem_range.mp hj)) he
end DL
namespace DL
open PySem PySem.Spec PyProof.Rows L2
/-! ### rows seen without styles, without second hands -/
theorem map_seen {β : Type} (f : Sgn → β) (l : List Sgn) (st : Bool × Bool) (hf : ∀ p x n, f (seenB p x n st) = f x) : (seenRow l st).map f = l.map f := by
  unfold seenRow
  rw [List.map_map]
  have e : (f ∘ fun i => seenB (prevO l i) (l.getD i s0) l[i + 1]? st) = f ∘ fun i => l.getD i s0 := funext fun i => hf _ _ _
  rw [e, ← List.map_map, range_getD]
theorem seen_off (p : Option Sgn) (x : Sgn) (n : Option Sgn) : seenB p x n (false, false) = x := by
  unfold seenB
  simp only [takeH_off]
  split <;> rfl
theorem shown_off (l : List Sgn) (r : List Nat) : shownRow l r (false, false) = pick l r := by
  have := map_seen (fun x => x) (pick l r) (false, false) seen_off
  rw [List.map_id', List.map_id'] at this
  exact this
theorem gls_hid {l : List Sgn} {r : List Nat} {st : Bool × Bool} {v : List Nat} (h : ∀ i ∈ v, i < 4) : (shownRow l r st).map (glK v) = (pick l r).map (glK v) :=
  map_seen (glK v) (pick l r) st fun p x n => by
    obtain ⟨c, e⟩ := seen_is p x n st
    rw [e]
    exact glK_eq.mpr fun i hi => entK_eq x c (h i hi)
theorem clear_hid {l : List Sgn} {st : Bool × Bool} {v : List Nat} (h : ∀ i ∈ v, i < 4) : clearB l st v = clearB l (false, false) v := by
  have e : ∀ r, glsK l r st v = glsK l r (false, false) v := fun r => by
    unfold glsK
    rw [gls_hid h, gls_hid h]
  rw [Bool.eq_iff_iff, clear_iff, clear_iff]
  simp only [e]
/-- told apart one by one -/
def bareK (l : List Sgn) (v : List Nat) : List NestedKey := (List.range l.length).map fun i => glsK l [i] (false, false) v
theorem nodup_mapOn {α β : Type} {f : α → β} : ∀ {l : List α}, (l.map f).Nodup ↔ l.Nodup ∧ ∀ a ∈ l, ∀ b ∈ l, f a = f b → a = b
  | [] => by simp
  | x :: l => by
    rw [List.map_cons, List.nodup_cons, nodup_mapOn (l := l), List.nodup_cons]
    constructor
    · rintro ⟨h1, h2, h3⟩
      refine ⟨⟨fun z => h1 (List.mem_map.mpr ⟨x, z, rfl⟩), h2⟩, fun a ha b hb e => ?_⟩
      rcases List.mem_cons.mp ha with ea | ha'
      · rcases List.mem_cons.mp hb with eb | hb'
        · rw [ea, eb]
        · rw [ea] at e
          exact absurd (List.mem_map.mpr ⟨b, hb', e.symm⟩) h1
      · rcases List.mem_cons.mp hb with eb | hb'
        · rw [eb] at e
          exact absurd (List.mem_map.mpr ⟨a, ha', e⟩) h1
        · exact h3 a ha' b hb' e
    · rintro ⟨⟨h1, h2⟩, h3⟩
      refine ⟨fun z => ?_, h2, fun a ha b hb e => h3 a (List.mem_cons_of_mem _ ha) b (List.mem_cons_of_mem _ hb) e⟩
      obtain ⟨a, ha, e⟩ := List.mem_map.mp z
      have := h3 a (List.mem_cons_of_mem _ ha) x (by simp) e
      exact h1 (this ▸ ha)
theorem bare_at (l : List Sgn) (i : Nat) (v : List Nat) : glsK l [i] (false, false) v = .tup [glK v (l.getD i s0)] := by
  unfold glsK
  rw [shown1]; rfl
theorem clear_bare (l : List Sgn) (v : List Nat) : clearB l (false, false) v = decide (bareK l v).Nodup := by
  rw [Bool.eq_iff_iff, decide_eq_true_iff]
  unfold bareK
  rw [nodup_mapOn]
  constructor
  · intro c
    refine ⟨List.nodup_range, fun a ha b hb e => ?_⟩
    have := clear_all c (r := [a]) (q := [b]) (fun i hi => by rw [List.mem_singleton.mp hi]; exact List.mem_range.mp ha) (fun i hi => by rw [List.mem_singleton.mp hi]; exact List.mem_range.mp hb) e
    simpa using this
  · rintro ⟨_, h⟩
    have inj : ∀ a b, a < l.length → b < l.length → glK v (l.getD a s0) = glK v (l.getD b s0) → a = b := fun a b ha hb e => h a (List.mem_range.mpr ha) b (List.mem_range.mpr hb) (by rw [bare_at, bare_at, e])
    refine clear_iff.mpr fun r q hr hq e => ?_
    have e := gls_iff.mp e
    rw [shown_off, shown_off] at e
    have go : ∀ r q : List Nat, (∀ i ∈ r, i < l.length) → (∀ i ∈ q, i < l.length) → (pick l r).map (glK v) = (pick l q).map (glK v) → r = q := fun r => by
      induction r with
      | nil => intro q _ _ e; cases q with
        | nil => rfl
        | cons _ _ => cases e
      | cons a r ih => intro q hr hq e; cases q with
        | nil => cases e
        | cons b q =>
          unfold pick at e ih
          rw [List.map_cons, List.map_cons, List.map_cons, List.map_cons] at e
          injection e with e1 e2
          rw [inj a b (hr a (by simp)) (hq b (by simp)) e1, ih q (fun i hi => hr i (List.mem_cons_of_mem _ hi)) (fun i hi => hq i (List.mem_cons_of_mem _ hi)) e2]
    exact go r q hr.2 hq.2 e
theorem clear_off {l : List Sgn} {st : Bool × Bool} {v : List Nat} (c : clearB l st v = true) : clearB l (false, false) v = true := by
  rw [clear_bare, decide_eq_true_iff]
  unfold bareK
  rw [nodup_mapOn]
  refine ⟨List.nodup_range, fun a ha b hb e => ?_⟩
  rw [bare_at, bare_at] at e
  injection e with e
  injection e with e
  exact one_inj c (List.mem_range.mp ha) (List.mem_range.mp hb) e
/-! ### how many are left in a set -/
theorem nodup_by_len {α : Type} [DecidableEq α] : ∀ (ks M : List α), M.Nodup → (∀ k ∈ M, k ∈ ks) → ks.length ≤ M.length → ks.Nodup
  | [], _, _, _, _ => .nil
  | k :: ks, M, nd, sub, len => by
    rw [List.length_cons] at len
    rw [List.nodup_cons]
    by_cases hk : k ∈ ks
    · have := nodup_len M ks nd fun x hx => by
        rcases List.mem_cons.mp (sub x hx) with rfl | z
        · exact hk
        · exact z
      omega
    · refine ⟨hk, nodup_by_len ks (M.erase k) (nd.erase k) (fun x hx => ?_) ?_⟩
      · have hm := List.mem_of_mem_erase hx
        have ne : x ≠ k := fun e => by
          subst e
          exact (List.Nodup.mem_erase_iff nd).mp hx |>.1 rfl
        rcases List.mem_cons.mp (sub x hm) with rfl | z
        · exact absurd rfl ne
        · exact z
      · by_cases hm : k ∈ M
        · rw [List.length_erase_of_mem hm]; omega
        · rw [List.erase_of_not_mem hm]; omega
theorem set_len {ks M : List NestedKey} (nd : M.Nodup) (h : ∀ k, k ∈ M ↔ k ∈ ks) : M.length ≤ ks.length ∧ (M.length = ks.length ↔ ks.Nodup) := by
  have a := nodup_len M ks nd fun x hx => (h x).mp hx
  refine ⟨a, fun e => nodup_by_len ks M nd (fun x hx => (h x).mp hx) (by omega), fun nk => ?_⟩
  have b := nodup_len ks M nk fun x hx => (h x).mpr hx
  omega
/-! ### the first pair -/
theorem firstP_at {α : Type} {R : α → α → Bool} {a r : α} : ∀ {rows acc : List α}, firstP R rows acc = some (a, r) → ∃ pre post, rows = pre ++ r :: post ∧ a ∈ acc ++ pre ∧ R a r = true ∧ (pre.Pairwise fun x y => R x y = false) ∧ ∀ x ∈ pre, ∀ y ∈ acc, R y x = false
  | [], acc, h => by cases h
  | x :: rows, acc, h => by
    unfold firstP at h
    cases q : acc.find? (fun a => R a x) with
    | some b =>
      rw [q] at h
      cases h
      exact ⟨[], rows, rfl, by rw [List.append_nil]; exact List.mem_of_find?_eq_some q, by have := List.find?_some q; exact this, .nil, fun x hx => by cases hx⟩
    | none =>
      rw [q] at h
      obtain ⟨pre, post, h1, h2, h3, h4, h5⟩ := firstP_at h
      have no := List.find?_eq_none.mp q
      refine ⟨x :: pre, post, by rw [h1]; rfl, by rw [List.append_assoc] at h2; exact h2, h3, List.pairwise_cons.mpr ⟨fun y hy => h5 y hy x (by simp), h4⟩, fun y hy z hz => ?_⟩
      rcases List.mem_cons.mp hy with rfl | hy
      · have := no z hz
        rwa [Bool.not_eq_true] at this
      · exact h5 y hy z (List.mem_append_left _ hz)
/-- the told pair -/
theorem pair_ok {l : List Sgn} {st : Bool × Bool} {v : List Nat} {r q : List Nat} (h : pairOf l st v = some (r, q)) : r ≠ q ∧ glsK l r st v = glsK l q st v ∧ r.length = q.length ∧ (r.length = 1 ∨ r.length = 2) ∧ (∀ i ∈ r, i < l.length) ∧ ∀ i ∈ q, i < l.length := by
  obtain ⟨pre, post, h1, h2, h3, _, _⟩ := firstP_at h
  rw [List.nil_append] at h2
  have nd := shortRows_nodup l.length
  have mr : r ∈ shortRows l.length := by rw [h1]; exact List.mem_append_left _ h2
  have mq : q ∈ shortRows l.length := by rw [h1]; simp
  have ne : r ≠ q := fun e => by
    subst e
    rw [h1, List.nodup_append] at nd
    exact nd.2.2 r h2 r (by simp) rfl
  have e := alike_iff.mp h3
  have len : r.length = q.length := by
    have := congrArg List.length (gls_iff.mp e)
    rw [List.length_map, List.length_map, shownRow_len, shownRow_len] at this; exact this
  exact ⟨ne, e, len, (mem_short.mp mr).1, (mem_short.mp mr).2, (mem_short.mp mq).2⟩
theorem eq_map_of {α β : Type} {f : α → β} : ∀ (a b : List α), a.map f = b.map f → a.length = b.length := fun a b h => by
  have := congrArg List.length h
  rwa [List.length_map, List.length_map] at this
/-- one reading -/
theorem read_one {l : List Sgn} {st : Bool × Bool} {v : List Nat} {r : List Nat} (c : clearB l st v = true) (hr : ∀ i ∈ r, i < l.length) : readL l st v ((shownRow l r st).map (glK v)) = [r] := by
  refine asc_uniq _ _ (readL_asc _ _ _ _) (List.pairwise_singleton _ _) fun x => ?_
  rw [readL_mem, List.mem_singleton, List.length_map, shownRow_len]
  constructor
  · rintro ⟨⟨_, h2⟩, h3⟩
    exact clear_all c h2 hr h3
  · rintro rfl
    exact ⟨⟨rfl, hr⟩, rfl⟩
theorem read_self {l : List Sgn} {st : Bool × Bool} {v : List Nat} {r : List Nat} (hr : ∀ i ∈ r, i < l.length) : r ∈ readL l st v ((shownRow l r st).map (glK v)) :=
  readL_mem.mpr ⟨⟨by rw [List.length_map, shownRow_len], hr⟩, rfl⟩
/-! ### are_alike -/
theorem two_inj' {r q r' q' : List Nat} (h : D.tup [rowD r, rowD q] = .tup [rowD r', rowD q']) : r = r' ∧ q = q' := twoR_inj h
theorem alike_ok {l : List Sgn} {st : Bool × Bool} {v : List Nat} {r q : List Nat} {P : D → Prop} {R : RX} (ol : okL l = true) (ov : OkV v) (hr : r.length ≤ 8 ∧ ∀ i ∈ r, i < l.length) (hq : q.length ≤ 8 ∧ ∀ i ∈ q, i < l.length)
    (k : P (.bl (!decide (r = q) && alike l st v r q))) : sd_are_alike [SsD l, styD st, rowD v, .tup [rowD r, rowD q]] P R := by
  refine ⟨SsD l, styD st, rowD v, .tup [rowD r, rowD q], rfl, by rw [plain_tup]; simp, args_ok ol ov ⟨fun z => ?_, fun r' q' _ _ e => ?_⟩⟩
  · rw [isTwo_ok hr hq] at z; cases z
  · obtain ⟨rfl, rfl⟩ := twoR_inj e
    exact k
theorem not_two_ok {l : List Sgn} {st : Bool × Bool} {v : List Nat} {d : D} {P : D → Prop} {R : RX} (ol : okL l = true) (ov : OkV v) (pl : d.plain = true) (h : isTwoD l.length d = false) (k : P (.bl false)) : sd_are_alike [SsD l, styD st, rowD v, d] P R := by
  refine ⟨SsD l, styD st, rowD v, d, rfl, pl, args_ok ol ov ⟨fun _ => k, fun r q hr hq e => ?_⟩⟩
  subst e
  rw [isTwo_ok hr hq] at h; cases h
end DL
/-! sets of keys, further than the kit's 63: the table -/
namespace DL.ST
open PySem PySem.Spec PyProof.Rows L2
theorem round511 : ((List.range 512).all fun j => (List.range 512).any fun b => lcgN 511 b == j) = true := by decide +kernel
theorem back511 : lcgN 511 512 = 0 := by decide +kernel
/-- every slot begins a run early enough, whatever the hash -/
structure Meet (m : Nat) : Prop where
  odd : m % 2 = 1
  runs : ∀ (h : Int) (j : Nat), j ≤ m → ∃ n, n ≤ m + 12 ∧ runI m (SetTable.bits h) n = j
theorem meet511 : Meet 511 := by
  have cyc : ∀ k, lcgN 511 (512 + k) = lcgN 511 k := fun k => by
    induction k with
    | zero => exact back511
    | succ k ih =>
      show (lcgN 511 (512 + k) * 5 + 1) % 512 = _
      rw [ih]; rfl
  have hit : ∀ j, j ≤ 511 → ∃ b, b ≤ 511 ∧ lcgN 511 b = j := fun j hj => by
    obtain ⟨b, hb, e⟩ := List.any_eq_true.mp (List.all_eq_true.mp round511 j (List.mem_range.mpr (by omega)))
    have := List.mem_range.mp hb
    exact ⟨b, by omega, beq_iff_eq.mp e⟩
  refine ⟨rfl, fun h j hj => ?_⟩
  obtain ⟨a, ha, ea⟩ := hit _ (runI_le 511 (SetTable.bits h) 12)
  obtain ⟨b, hb, eb⟩ := hit j hj
  have tail : ∀ k, runI 511 (SetTable.bits h) (12 + k) = lcgN 511 (a + k) := fun k => by rw [runI_tail (bits_lt h), ← ea, lcgN_add]
  by_cases z : a ≤ b
  · exact ⟨12 + (b - a), by omega, by rw [tail, show a + (b - a) = b by omega, eb]⟩
  · exact ⟨12 + (512 + b - a), by omega, by rw [tail, show a + (512 + b - a) = 512 + b by omega, cyc, eb]⟩
theorem meet_kit {m : Nat} (hm : MaskOk m) : Meet m := ⟨mask_odd hm, fun h j hj => run_meets hm h hj⟩
/-- .. so every slot is met within the search's bound -/
theorem Meet.slot {m : Nat} (M : Meet m) (h : Int) {j : Nat} (hj : j ≤ m) : ∃ k, k < 10 * SetTable.turns m ∧ way m h k = j := by
  obtain ⟨n, hn, e⟩ := M.runs h j hj
  obtain ⟨k, hk, e2⟩ := run_nth m (SetTable.bits h) n
  have b : 10 * n < 10 * SetTable.turns m := Nat.mul_lt_mul_of_pos_left (by unfold SetTable.turns; omega) (by decide)
  exact ⟨k, Nat.lt_of_le_of_lt hk b, (congrArg SetTable.Probe.j e2).trans e⟩
theorem in_table (m : Nat) (h : Int) (k : Nat) : way m h k ≤ m := by
  have i0 : SetTable.bits h % (m + 1) ≤ m := Nat.le_of_lt_succ (Nat.mod_lt _ (Nat.succ_pos m))
  have e := runEnd_bd i0
  have := nth_in k (runAt m (SetTable.bits h % (m + 1)) (SetTable.bits h)) (m := m) (by
    show SetTable.bits h % (m + 1) + (SetTable.runEnd m (SetTable.bits h % (m + 1)) - SetTable.bits h % (m + 1)) ≤ m
    omega)
  exact Nat.le_trans (Nat.le_add_right _ _) this
/-- a table of these hashes -/
structure Tb (t : SetTable) (hs : List Int) : Prop where
  asc : Ris t.place.toList
  clean : t.dummies = #[]
  many : t.place.size = hs.length
  msk : Meet t.mask
  there : ∀ (i : Nat) (h : Int) (j : Nat), hs[i]? = some h → t.place.toList[i]? = some j → ∃ k, way t.mask h k = j ∧ ∀ k', k' < k → way t.mask h k' ∈ t.place.toList
theorem Tb.free {t : SetTable} {hs : List Int} (T : Tb t hs) (few : hs.length ≤ t.mask) (h : Int) : ∃ K, K < 10 * SetTable.turns t.mask ∧ way t.mask h K ∉ t.place.toList ∧ ∀ k, k < K → way t.mask h k ∈ t.place.toList := by
  obtain ⟨j, hj, no⟩ := st_missing t.place.toList (t.mask + 1) (by rw [Array.length_toList, T.many]; omega)
  obtain ⟨k, hk, rfl⟩ := T.msk.slot h (Nat.le_of_lt_succ hj)
  obtain ⟨K, b1, b2, b3⟩ := st_least (p := fun k => way t.mask h k ∉ t.place.toList) k no
  exact ⟨K, by omega, b2, fun k' z => Classical.byContradiction fun c => b3 k' z c⟩
theorem Tb.ahead {t : SetTable} {hs : List Int} (T : Tb t hs) {h : Int} {K i j : Nat} (no : way t.mask h K ∉ t.place.toList) (hi : hs[i]? = some h) (hj : t.place.toList[i]? = some j) : ∃ k, k < K ∧ way t.mask h k = j := by
  obtain ⟨k, e, all⟩ := T.there i h j hi hj
  refine ⟨k, Classical.byContradiction fun c => ?_, e⟩
  by_cases z : K = k
  · subst z
    exact no (by rw [e]; exact List.mem_of_getElem? hj)
  · exact no (all K (by omega))
/-- one more -/
theorem Tb.more {t : SetTable} {hs : List Int} (T : Tb t hs) {h : Int} {K p : Nat} (no : way t.mask h K ∉ t.place.toList) (all : ∀ k, k < K → way t.mask h k ∈ t.place.toList) (hp : SetTable.below t.place (way t.mask h K) = p) :
    p ≤ hs.length ∧ Tb (t.put (way t.mask h K)).1 (hs.take p ++ h :: hs.drop p) ∧ (t.put (way t.mask h K)).1.fill = hs.length + 1 := by
  have cut := (below_cut T.asc (way t.mask h K)).1
  rw [hp] at cut
  have p1 : p ≤ hs.length := by rw [← T.many]; exact cut
  have p2 : p ≤ t.place.toList.length := by rw [Array.length_toList]; exact cut
  have pl : (t.put (way t.mask h K)).1.place.toList = t.place.toList.take p ++ way t.mask h K :: t.place.toList.drop p := by rw [put_place, hp]
  have dm : (t.put (way t.mask h K)).1.dummies = #[] := put_dm T.clean _
  have size : (t.put (way t.mask h K)).1.place.size = hs.length + 1 := by
    rw [← Array.length_toList, pl, len_ins _ p2, Array.length_toList, T.many]
  have old : ∀ x, x ∈ t.place.toList → x ∈ (t.put (way t.mask h K)).1.place.toList := fun x hx => by rw [pl]; exact mem_ins.mpr (.inr hx)
  have asc : Ris (t.put (way t.mask h K)).1.place.toList := ris_insert T.asc fun e => no (List.mem_of_getElem? (by rw [Array.getElem?_toList]; exact e))
  refine ⟨p1, ⟨asc, dm, by rw [size, len_ins _ p1], T.msk, fun i h' j e1 e2 => ?_⟩, by unfold SetTable.fill; rw [size, dm]; rfl⟩
  rw [tins_get _ p1] at e1
  rw [pl, tins_get _ p2] at e2
  have lift : (∃ k, way t.mask h' k = j ∧ ∀ k', k' < k → way t.mask h' k' ∈ t.place.toList) → ∃ k, way t.mask h' k = j ∧ ∀ k', k' < k → way t.mask h' k' ∈ (t.put (way t.mask h K)).1.place.toList := fun ⟨k, a, b⟩ => ⟨k, a, fun k' z => old _ (b k' z)⟩
  by_cases c1 : i < p
  · rw [if_pos c1] at e1 e2
    exact lift (T.there _ _ _ e1 e2)
  · rw [if_neg c1] at e1 e2
    by_cases c2 : i = p
    · rw [if_pos c2] at e1 e2
      cases e1
      cases e2
      exact lift ⟨K, rfl, all⟩
    · rw [if_neg c2] at e1 e2
      exact lift (T.there _ _ _ e1 e2)
/-! ### the table laid anew -/
theorem owner_free {m : Nat} (M : Meet m) (owner : Array (Option Nat)) (h : Int) {j : Nat} (hj : j ≤ m) (no : oAt owner j = none) :
    ∃ K, SetTable.layClean.free m owner (SetTable.turns m) (SetTable.bits h % (m + 1)) (SetTable.bits h) = some (way m h K) ∧ oAt owner (way m h K) = none ∧ ∀ k, k < K → oAt owner (way m h k) ≠ none := by
  obtain ⟨n, hn, e⟩ := M.runs h j hj
  have at_n : way m h (off m (SetTable.bits h % (m + 1)) (SetTable.bits h) n) = j := by
    have := congrArg SetTable.Probe.j (nth_off m n (SetTable.bits h % (m + 1)) (SetTable.bits h))
    rw [itL_run] at this
    exact this.trans e
  obtain ⟨K, b1, b2, b3⟩ := st_least (p := fun k => oAt owner (way m h k) = none) _ (at_n ▸ no)
  refine ⟨K, free_spec m owner _ n _ _ K (by unfold SetTable.turns; omega) b1 (fun k hk => ?_) ?_, b2, b3⟩
  · exact Option.isNone_eq_false_iff.mpr (Option.isSome_iff_ne_none.mpr (b3 k hk))
  · exact Option.isNone_iff_eq_none.mpr b2
theorem own_more {m : Nat} (M : Meet m) {done : List Int} {owner : Array (Option Nat)} (W : Own m done owner) (few : done.length ≤ m) (h : Int) :
    ∃ j, SetTable.layClean.free m owner (SetTable.turns m) (SetTable.bits h % (m + 1)) (SetTable.bits h) = some j ∧ Own m (done ++ [h]) (owner.setIfInBounds j (some done.length)) := by
  obtain ⟨ps, many, used⟩ := W.ps
  obtain ⟨j0, lt0, no0⟩ := st_missing ps (m + 1) (by omega)
  have free0 : oAt owner j0 = none := Classical.byContradiction fun c => no0 (used j0 (by omega) c)
  obtain ⟨K, e, now, bef⟩ := owner_free M owner h (j := j0) (by omega) free0
  refine ⟨_, e, ?_⟩
  generalize hj : way m h K = j at now
  have jm : j ≤ m := hj ▸ in_table m h K
  have self : oAt (owner.setIfInBounds j (some done.length)) j = some done.length := oAt_set_self _ (by rw [W.sz]; omega)
  have keep : ∀ i, oAt owner i ≠ none → oAt (owner.setIfInBounds j (some done.length)) i ≠ none := fun i hi => by
    by_cases c : i = j
    · subst c; rw [self]; simp
    · rw [oAt_set_ne _ c]; exact hi
  refine ⟨by rw [Array.size_setIfInBounds]; exact W.sz, fun i k hi z => ?_, fun k hk => ?_, ⟨j :: ps, by simp [many], fun i hi z => ?_⟩⟩
  · by_cases c : i = j
    · subst c
      rw [self] at z
      cases z
      exact ⟨h, K, by simp, hj, fun k' q => keep _ (bef k' q)⟩
    · rw [oAt_set_ne _ c] at z
      obtain ⟨h', K', a, b, d⟩ := W.at_ i k hi z
      refine ⟨h', K', ?_, b, fun k' q => keep _ (d k' q)⟩
      rw [List.getElem?_append_left (List.getElem?_eq_some_iff.mp a).1]; exact a
  · rw [List.length_append, List.length_singleton] at hk
    by_cases c : k = done.length
    · subst c; exact ⟨j, jm, self⟩
    · obtain ⟨i, hi, z⟩ := W.all k (by omega)
      refine ⟨i, hi, ?_⟩
      rw [oAt_set_ne _ fun q => by rw [q, now] at z; cases z]; exact z
  · by_cases c : i = j
    · simp [c]
    · rw [oAt_set_ne _ c] at z
      exact List.mem_cons_of_mem _ (used i hi z)
theorem own_all {m : Nat} (M : Meet m) : ∀ (todo done : List Int) (owner : Array (Option Nat)), Own m done owner → done.length + todo.length ≤ m →
    ∃ o2, todo.foldl (stepF m) (some (owner, done.length)) = some (o2, done.length + todo.length) ∧ Own m (done ++ todo) o2
  | [], done, owner, W, _ => ⟨owner, rfl, by rw [List.append_nil]; exact W⟩
  | h :: todo, done, owner, W, few => by
    rw [List.length_cons] at few
    obtain ⟨j, e, W2⟩ := own_more M W (by omega) h
    obtain ⟨o2, f, W3⟩ := own_all M todo (done ++ [h]) _ W2 (by rw [List.length_append, List.length_singleton]; omega)
    rw [List.length_append, List.length_singleton] at f
    refine ⟨o2, ?_, by rw [List.append_assoc] at W3; exact W3⟩
    rw [List.foldl_cons, stepF_some e, f, List.length_cons, Nat.add_assoc, Nat.add_comm 1]
/-- laid anew: the same hashes in another order -/
theorem laid_anew (t : SetTable) {hs : Array Int} {wanted m : Nat} (hw : SetTable.sizeAbove wanted = m + 1) (M : Meet m) (few : hs.size ≤ m) :
    ∃ t2 order, t.relaid hs wanted = some (t2, order) ∧ order.toList.Perm (List.range hs.size) ∧ Tb t2 (order.toList.map fun i => hs.getD i 0) ∧ t2.mask = m ∧ t2.led = t.led ∧ t2.plain = t.plain := by
  obtain ⟨owner, f, W⟩ := own_all M hs.toList [] _ (Own.init m) (by simpa using few)
  rw [List.nil_append] at W
  have lay : SetTable.layClean m hs = some owner := by
    rw [layClean_eq, show (0 : Nat) = ([] : List Int).length from rfl, f]; rfl
  have ans : t.relaid hs wanted = some (tabOf t m owner, ((liveOf m owner).map (·.2)).toArray) := by
    rw [relaid_eq, show SetTable.sizeAbove wanted - 1 = m by omega, lay]; rfl
  obtain ⟨up, inr⟩ := ris_live (fun j => owner.getD j none) (List.range (m + 1)) List.pairwise_lt_range
  have up : Ris ((liveOf m owner).map (·.1)) := up
  have sat : ∀ q ∈ liveOf m owner, q.1 ≤ m ∧ oAt owner q.1 = some q.2 := fun q hq => (mem_live W.sz).mp hq
  have len : (liveOf m owner).length = hs.size := by
    obtain ⟨ps, many, used⟩ := W.ps
    have le1 : (liveOf m owner).length ≤ ps.length := by
      have nd : ((liveOf m owner).map (·.1)).Nodup := List.Pairwise.imp (R := fun a b : Nat => a < b) (fun {a b} hab => Nat.ne_of_lt hab) up
      have := nat_nodup_len ((liveOf m owner).map (·.1)) ps nd fun x hx => by
        obtain ⟨q, hq, rfl⟩ := List.mem_map.mp hx
        exact used _ (sat q hq).1 (by rw [(sat q hq).2]; simp)
      rwa [List.length_map] at this
    have le2 : hs.size ≤ (liveOf m owner).length := by
      have := nat_nodup_len (List.range hs.size) ((liveOf m owner).map (·.2)) List.nodup_range fun k hk => by
        obtain ⟨j, a, b⟩ := W.all k (by rw [Array.length_toList]; exact List.mem_range.mp hk)
        exact List.mem_map.mpr ⟨(j, k), (mem_live W.sz).mpr ⟨a, b⟩, rfl⟩
      rwa [List.length_map, List.length_range] at this
    have many : ps.length = hs.size := many
    omega
  refine ⟨_, _, ans, ?_, ⟨up, rfl, ?_, M, fun i h j e1 e2 => ?_⟩, rfl, rfl, rfl⟩
  · refine perm_range _ _ (by rw [List.length_map]; exact len) fun k hk => ?_
    obtain ⟨j, a, b⟩ := W.all k (by rw [Array.length_toList]; exact hk)
    exact List.mem_map.mpr ⟨(j, k), (mem_live W.sz).mpr ⟨a, b⟩, rfl⟩
  · show ((liveOf m owner).map (·.1)).toArray.size = (((liveOf m owner).map (·.2)).map _).length
    simp
  · have e1 : (((liveOf m owner).map (·.2)).map fun i => hs.getD i 0)[i]? = some h := e1
    have e2 : ((liveOf m owner).map (·.1))[i]? = some j := e2
    rw [List.map_map, List.getElem?_map] at e1
    rw [List.getElem?_map] at e2
    cases hq : (liveOf m owner)[i]? with
    | none => rw [hq] at e2; cases e2
    | some q =>
      rw [hq] at e1 e2
      obtain ⟨a, b⟩ := sat q (List.mem_of_getElem? hq)
      obtain ⟨h', K, c1, c2, c3⟩ := W.at_ _ _ a b
      have eh : hs.getD q.2 0 = h' := by
        have : hs[q.2]? = some h' := by rw [← Array.getElem?_toList]; exact c1
        rw [Array.getD_eq_getD_getElem?, this]; rfl
      have hh : hs.getD q.2 0 = h := Option.some.inj e1
      have hj : q.1 = j := Option.some.inj e2
      rw [eh] at hh
      subst hh
      refine ⟨K, c2.trans hj, fun k' z => ?_⟩
      obtain ⟨k2, e3⟩ := Option.ne_none_iff_exists'.mp (c3 k' z)
      exact List.mem_map.mpr ⟨(_, k2), (mem_live W.sz).mpr ⟨in_table m h' k', e3⟩, rfl⟩
end DL.ST
/-! sets of keys of any depth: search, add, set(xs) -/
namespace DL.ST
open PySem PySem.Spec PyProof.Rows L2
section
variable {P : Program} {w : World}
/-- hash by value: some answer -/
def HashAt (P : Program) (w : World) (n : Nat) (s : Shared) (v : Value) : Prop := ∀ (A : Around) (E : Value → Shared → Prop) (Q : Bool → Shared → Prop), (∀ b, Q b s) → wpAny (model P w) A (hashByValue n v) Q E s
/-- not of a class statement -/
def PlainAt (P : Program) (w : World) (n : Nat) (s : Shared) (v : Value) : Prop := ∀ (A : Around) (E : Value → Shared → Prop) (Q : Bool → Shared → Prop), Q false s → wpAny (model P w) A (ofAClassStatement n v) Q E s
theorem HashAt.pure {n : Nat} {s : Shared} {v : Value} {b : Bool} (e : hashByValue n v = Pure.pure b) : HashAt P w n s v := fun A E Q q => by
  rw [e]; exact wpAny_pure (q b)
theorem PlainAt.pure {n : Nat} {s : Shared} {v : Value} (e : ofAClassStatement n v = Pure.pure false) : PlainAt P w n s v := fun A E Q q => by
  rw [e]; exact wpAny_pure q
theorem HashAt.tup {n m : Nat} {s : Shared} {a : Addr} {o : Obj} {vs : Array Value} (ho : s.heap.get? a = some o) (hc : o.cls = .type "tuple") (hd : o.data = .seq vs m) (all : ∀ v ∈ vs.toList, HashAt P w n s v) : HashAt P w (n + 1) s (.ref a) := fun A E Q q => by
  unfold hashByValue
  refine wpAny_bind (wpAny_specialOf ⟨o, ho, hc⟩ F.slot_tuple_hash.lookup ?_)
  show wpAny _ _ (seqItems? (.ref a) >>= _) _ _ s
  refine wpAny_bind (wpAny_seqItems ho hd (wpAny_bind ?_))
  show wpAny _ _ (forIn vs _ _) _ _ s
  rw [← Array.forIn_toList]
  refine wpAny_forIn_list _ (fun rest r s' => r.1 = none ∧ s' = s ∧ ∀ v ∈ rest, HashAt P w n s v) _ ?_ ?_ _ _ ⟨rfl, rfl, all⟩
  · rintro v rest r s' ⟨_, rfl, h⟩
    refine wpAny_bind (h v (by simp) _ _ _ fun b => ?_)
    cases b
    · exact wpAny_pure (wpAny_pure (q false))
    · exact wpAny_pure ⟨rfl, rfl, fun u hu => h u (List.mem_cons_of_mem _ hu)⟩
  · rintro ⟨r1, r2⟩ s' ⟨e, rfl, _⟩
    simp only at e
    subst e
    exact wpAny_pure (q true)
theorem PlainAt.tup {n m : Nat} {s : Shared} {a : Addr} {o : Obj} {vs : Array Value} (ho : s.heap.get? a = some o) (hc : o.cls = .type "tuple") (hd : o.data = .seq vs m) (all : ∀ v ∈ vs.toList, PlainAt P w n s v) : PlainAt P w (n + 1) s (.ref a) := fun A E Q q => by
  unfold ofAClassStatement
  refine wpAny_bind (wpAny_typeOf ⟨o, ho, hc⟩ ?_)
  simp only [show (("tuple" : String) == "tuple") = true from rfl, if_true]
  refine wpAny_bind (wpAny_pure ?_)
  simp only [Bool.not_true, Bool.false_eq_true, if_false]
  show wpAny _ _ (seqItems? (.ref a) >>= _) _ _ s
  refine wpAny_bind (wpAny_seqItems ho hd ?_)
  dsimp only
  refine wpAny_bind ?_
  show wpAny _ _ (forIn vs _ _) _ _ s
  rw [← Array.forIn_toList]
  refine wpAny_forIn_list _ (fun rest r s' => r.1 = none ∧ s' = s ∧ ∀ v ∈ rest, PlainAt P w n s v) _ ?_ ?_ _ _ ⟨rfl, rfl, all⟩
  · rintro v rest r s' ⟨_, rfl, h⟩
    refine wpAny_bind (h v (by simp) _ _ _ ?_)
    exact wpAny_pure ⟨rfl, rfl, fun u hu => h u (List.mem_cons_of_mem _ hu)⟩
  · rintro ⟨r1, r2⟩ s' ⟨e, rfl, _⟩
    simp only at e
    subst e
    exact wpAny_pure q
mutual
theorem hash_key : ∀ (k : NestedKey) (v : Value) (n : Nat) (s : Shared), NestedIs s.heap k v → k.depth ≤ n → HashAt P w n s v
  | .none, _, n, s, x, _ => by cases x; cases n <;> exact .pure rfl
  | .num i, _, n, s, x, _ => by cases x <;> cases n <;> exact .pure rfl
  | .text y, _, n, s, x, _ => by cases x; cases n <;> exact .pure rfl
  | .tup ks, _, n, s, x, d => by
    cases x with
    | tup ho hc hd h =>
      rw [NestedKey.depth] at d
      cases n with
      | zero => omega
      | succ n => exact .tup ho hc hd (hash_keys ks _ n s h (by omega))
theorem hash_keys : ∀ (ks : List NestedKey) (vs : List Value) (n : Nat) (s : Shared), NestedAll s.heap ks vs → NestedKey.depthAll ks ≤ n → ∀ v ∈ vs, HashAt P w n s v
  | [], _, n, s, x, _, v, hv => by cases x; cases hv
  | k :: ks, _, n, s, x, d, v, hv => by
    cases x with
    | cons x1 x2 =>
      rw [NestedKey.depthAll] at d
      rcases List.mem_cons.mp hv with rfl | hv
      · exact hash_key k _ n s x1 (by omega)
      · exact hash_keys ks _ n s x2 (by omega) v hv
end
mutual
theorem plain_key : ∀ (k : NestedKey) (v : Value) (n : Nat) (s : Shared), NestedIs s.heap k v → k.depth ≤ n → PlainAt P w n s v
  | .none, _, n, s, x, _ => by cases x; cases n <;> exact .pure rfl
  | .num i, _, n, s, x, _ => by cases x <;> cases n <;> exact .pure rfl
  | .text y, _, n, s, x, _ => by cases x; cases n <;> exact .pure rfl
  | .tup ks, _, n, s, x, d => by
    cases x with
    | tup ho hc hd h =>
      rw [NestedKey.depth] at d
      cases n with
      | zero => omega
      | succ n => exact .tup ho hc hd (plain_keys ks _ n s h (by omega))
theorem plain_keys : ∀ (ks : List NestedKey) (vs : List Value) (n : Nat) (s : Shared), NestedAll s.heap ks vs → NestedKey.depthAll ks ≤ n → ∀ v ∈ vs, PlainAt P w n s v
  | [], _, n, s, x, _, v, hv => by cases x; cases hv
  | k :: ks, _, n, s, x, d, v, hv => by
    cases x with
    | cons x1 x2 =>
      rw [NestedKey.depthAll] at d
      rcases List.mem_cons.mp hv with rfl | hv
      · exact plain_key k _ n s x1 (by omega)
      · exact plain_keys ks _ n s x2 (by omega) v hv
end
/-! ### the set -/
/-- the value at a is the key k -/
def At (h : Heap) (p : Addr × NestedKey) : Prop := NestedIs h p.2 (.ref p.1) ∧ p.2.depth ≤ 8
def ents (w : World) (L : List (Addr × NestedKey)) : List (Int × Value) := L.map fun p => (p.2.hash w, Value.ref p.1)
def hss (w : World) (L : List (Addr × NestedKey)) : List Int := L.map fun p => p.2.hash w
structure SK (w : World) (h : Heap) (a : Addr) (L : List (Addr × NestedKey)) (es : Array (Int × Value)) (ep : Nat) (t : SetTable) : Prop where
  ob : ∃ o, h.get? a = some o ∧ o.ExactSet ∧ o.data = .set es ep t
  rows : es.toList = ents w L
  tab : Tb t (hss w L)
  nd : (L.map (·.2)).Nodup
  keys : ∀ p ∈ L, At h p
  led : w.params.followText "set-order" = true ∨ t.led = true
  room : L.length * 5 < t.mask * 3
  msk : t.mask = 7 ∨ t.mask = 31 ∨ t.mask = 127 ∨ t.mask = 511
theorem ents_len (w : World) (L : List (Addr × NestedKey)) : (ents w L).length = L.length := List.length_map ..
theorem hss_len (w : World) (L : List (Addr × NestedKey)) : (hss w L).length = L.length := List.length_map ..
variable {A : Around} {E : Value → Shared → Prop} {s : Shared} {a : Addr} {L : List (Addr × NestedKey)} {es : Array (Int × Value)} {ep : Nat} {t : SetTable}
theorem SK.size {h : Heap} (R : SK w h a L es ep t) : es.size = L.length := by
  rw [← Array.length_toList, R.rows, ents_len]
theorem SK.fits {h : Heap} (R : SK w h a L es ep t) : t.fits es.size = true := by
  have h1 : t.place.size = L.length := by rw [R.tab.many, hss_len]
  have h2 := R.room
  unfold SetTable.fits SetTable.fill
  rw [R.tab.clean, R.size, h1]
  simp only [beq_self_eq_true, Bool.true_and, decide_eq_true_eq, Array.size_empty]
  omega
theorem SK.entry {h : Heap} (R : SK w h a L es ep t) {i : Nat} {p : Addr × NestedKey} (e : L[i]? = some p) : es[i]? = some (p.2.hash w, Value.ref p.1) := by
  rw [← Array.getElem?_toList, R.rows]
  unfold ents
  rw [List.getElem?_map, e]; rfl
theorem SK.holds {h : Heap} (R : SK w h a L es ep t) : ¬ t.gaveWay = true := by
  unfold SetTable.gaveWay
  rw [R.tab.msk.odd]
  decide
/-- a search among keys tells nothing -/
theorem seen_none {p : Addr × NestedKey} (hx : At s.heap p) {ys : List Value} (hy : ∀ y ∈ ys, ∃ q : Addr × NestedKey, y = Value.ref q.1 ∧ At s.heap q) {Q : Bool → Shared → Prop} (h : Q false s) : wpAny (model P w) A (searchCouldBeSeen (.ref p.1) ys) Q E s := by
  unfold searchCouldBeSeen
  refine wpAny_bind (wpAny_forIn_list _ (fun rest r s' => r.1 = none ∧ s' = s ∧ ∀ y ∈ rest, ∃ q : Addr × NestedKey, y = Value.ref q.1 ∧ At s.heap q) _ ?_ ?_ _ _ ⟨rfl, rfl, hy⟩)
  · rintro y rest r s' ⟨_, rfl, all⟩
    obtain ⟨q, rfl, hq⟩ := all y (by simp)
    have more : ∀ y ∈ rest, ∃ q : Addr × NestedKey, y = Value.ref q.1 ∧ At s'.heap q := fun u hu => all u (List.mem_cons_of_mem _ hu)
    dsimp only
    by_cases c : (p.1 == q.1 || (carriedByValue (.ref p.1) && carriedByValue (.ref q.1))) = true
    · exact wp_if_pos c (wpAny_pure ⟨rfl, rfl, more⟩)
    · refine wp_if_neg c (wpAny_bind (quiet_key _ _ 8 s' hx.1 hx.2 _ _ _ ?_))
      simp only [Bool.not_true, Bool.false_eq_true, if_false]
      refine wpAny_bind (quiet_key _ _ 8 s' hq.1 hq.2 _ _ _ ?_)
      simp only [Bool.not_true, Bool.false_eq_true, if_false]
      refine wpAny_bind (plain_key _ _ 8 s' hx.1 hx.2 _ _ _ ?_)
      simp only [Bool.false_eq_true, if_false]
      refine wpAny_bind (plain_key _ _ 8 s' hq.1 hq.2 _ _ _ ?_)
      simp only [Bool.false_eq_true, if_false]
      exact wpAny_pure ⟨rfl, rfl, more⟩
  · rintro ⟨r1, r2⟩ s' ⟨e, rfl, _⟩
    simp only at e
    subst e
    exact wpAny_pure h
theorem nth_quiet (m : Nat) : ∀ (n : Nat) (p : SetTable.Probe), p.dummy = none → (nth m p n).dummy = none
  | 0, _, h => h
  | n + 1, p, h => nth_quiet m n (adv m p) (by unfold adv; split <;> exact h)
/-- the search, from the c-th step of the way on -/
theorem look_from (R : SK w s.heap a L es ep t) {p : Addr × NestedKey} (hx : At s.heap p) (hu : A.units + 8 < cLine) {K : Nat} (hK : K < 10 * SetTable.turns t.mask) (no : way t.mask (p.2.hash w) K ∉ t.place.toList)
    (all : ∀ c, c < K → way t.mask (p.2.hash w) c ∈ t.place.toList) {Q : SetFound → Shared → Prop} (yes : p.2 ∈ L.map (·.2) → Q (.there none) s) (new : p.2 ∉ L.map (·.2) → Q (.free (way t.mask (p.2.hash w) K) false) s) :
    ∀ (f c : Nat) (stand : Option SetTable.Probe), stand.getD (t.probeStart (p.2.hash w)) = nth t.mask (runAt t.mask (SetTable.bits (p.2.hash w) % (t.mask + 1)) (SetTable.bits (p.2.hash w))) c → c ≤ K → K - c < f →
      (∀ (i : Nat) q, L[i]? = some q → q.2 = p.2 → ∃ c', c ≤ c' ∧ c' < K ∧ t.place.toList[i]? = some (way t.mask (p.2.hash w) c')) →
      wpAny (model P w) A (setSearchFrom a (.ref p.1) (p.2.hash w) true f stand) Q E s
  | 0, c, _, _, _, lt, _ => by omega
  | f + 1, c, stand, at_c, le, lt, rest => by
    generalize hb : runAt t.mask (SetTable.bits (p.2.hash w) % (t.mask + 1)) (SetTable.bits (p.2.hash w)) = b0 at at_c
    have step : ∀ q, nth t.mask (nth t.mask b0 c) q = nth t.mask b0 (c + q) := fun q => (nth_add t.mask c b0 q).symm
    have wy : ∀ q, (nth t.mask b0 q).j = way t.mask (p.2.hash w) q := fun q => by rw [← hb]
    have q0 : (nth t.mask b0 c).dummy = none := nth_quiet _ _ _ (by rw [← hb]; rfl)
    obtain ⟨o, ho, hex, hd⟩ := R.ob
    rw [setSearchFrom_succ]
    refine wpAny_bind (wpAny_setState_of ho hd R.fits ?_)
    dsimp only
    refine wp_if_neg R.holds ?_
    have look := go_spec t R.tab.asc R.tab.clean (fun i => (es[i]?.map (·.1)).getD 0) (p.2.hash w) (10 * SetTable.turns t.mask) (K - c) (nth t.mask b0 c) q0 (by omega)
      (fun q hq => by rw [step, wy]; exact all _ (by omega)) (by rw [step, wy, show c + (K - c) = K by omega]; exact no)
    have pr : ∀ m, SetTable.probe.go t (fun i => (es[i]?.map (·.1)).getD 0) (p.2.hash w) (10 * SetTable.turns t.mask) (nth t.mask b0 c) = some m → t.probe (fun i => (es[i]?.map (·.1)).getD 0) (p.2.hash w) (stand.getD (t.probeStart (p.2.hash w))) = some m := fun m e => by
      rw [at_c]; exact e
    have hsh : ∀ (i : Nat) q, L[i]? = some q → (fun i => (es[i]?.map (·.1)).getD 0) i = q.2.hash w := fun i q e => by
      dsimp only
      rw [R.entry e]; rfl
    rcases look with ⟨q, i, lq, hi, hh, bef, e⟩ | ⟨bef, e⟩
    · rw [pr _ e]
      dsimp only
      rw [step, wy] at hi
      rw [step, wy, step]
      have iL : i < L.length := by
        have := (List.getElem?_eq_some_iff.mp hi).1
        rw [Array.length_toList, R.tab.many, hss_len] at this; exact this
      obtain ⟨g, hg⟩ : ∃ g, L[i]? = some g := ⟨L[i], List.getElem?_eq_getElem iL⟩
      have gL := List.mem_of_getElem? hg
      have go : wpAny (model P w) A (searchRest a (.ref p.1) (p.2.hash w) true f es t (way t.mask (p.2.hash w) (c + q)) i (nth t.mask b0 (c + (q + 1)))) Q E s := by
        unfold searchRest
        rw [R.entry hg]
        dsimp only
        refine wpAny_bind (wpAny_holding ((nestedKind P w).eqBool hu (R.keys g gL) hx ?_))
        refine wpAny_bind (wpAny_setState_of ho hd R.fits ?_)
        dsimp only
        by_cases same : g.2 = p.2
        · exact wp_if_pos (by simp [same]) (wpAny_pure (yes (List.mem_map.mpr ⟨g, gL, same⟩)))
        · refine wp_if_neg (by simp [same]) ?_
          rw [sameMem]
          dsimp only
          have live : t.slot (way t.mask (p.2.hash w) (c + q)) = .live i := slot_live R.tab.asc hi
          simp only [if_true, live, R.entry hg]
          refine wpAny_bind (wpAny_isSame_ref_self (wpAny_bind (wpAny_pure ?_)))
          simp only [if_true]
          refine wp_if_neg (by simp [same]) ?_
          refine look_from R hx hu hK no all yes new f (c + (q + 1)) _ (by rw [Option.getD_some, hb]) (by omega) (by omega) fun i2 g2 h2 e2 => ?_
          obtain ⟨c', a1, a2, a3⟩ := rest i2 g2 h2 e2
          refine ⟨c', ?_, a2, a3⟩
          refine Classical.byContradiction fun z => ?_
          by_cases y : c' = c + q
          · subst y
            have l2 := slot_live R.tab.asc a3
            rw [live] at l2
            cases l2
            rw [hg] at h2
            cases h2
            exact same e2
          · refine bef (c' - c) i2 (by omega) (by rw [step, wy, show c + (c' - c) = c' by omega]; exact a3) ?_
            exact (hsh i2 g2 h2).trans (by rw [e2])
      by_cases l : t.led = true
      · exact wp_if_neg (by simp [l]) go
      · refine wp_if_pos (by simp [l]) (wpAny_bind (seen_none hx (fun y hy => ?_) (wp_if_neg (by decide) go)))
        obtain ⟨e3, m3, rfl⟩ := List.mem_map.mp hy
        have m4 : e3 ∈ es.toList := by
          have : e3 ∈ es ∧ e3.1 = p.2.hash w := by simpa using m3
          simpa using this.1
        rw [R.rows] at m4
        obtain ⟨g3, h3, rfl⟩ := List.mem_map.mp m4
        exact ⟨g3, rfl, R.keys g3 h3⟩
    · rw [pr _ e]
      dsimp only
      rw [step, wy, show c + (K - c) = K by omega]
      refine wpAny_pure (new fun m => ?_)
      obtain ⟨g, gL, same⟩ := List.mem_map.mp m
      obtain ⟨i, hi, e3⟩ := List.getElem_of_mem gL
      have hg : L[i]? = some g := by rw [List.getElem?_eq_getElem hi, e3]
      obtain ⟨c', a1, a2, a3⟩ := rest i g hg same
      refine bef (c' - c) i (by omega) (by rw [step, wy, show c + (c' - c) = c' by omega]; exact a3) ?_
      exact (hsh i g hg).trans (by rw [same])
theorem look (R : SK w s.heap a L es ep t) {p : Addr × NestedKey} (hx : At s.heap p) (hu : A.units + 8 < cLine) {Q : SetFound → Shared → Prop} (yes : p.2 ∈ L.map (·.2) → Q (.there none) s)
    (new : ∀ K, p.2 ∉ L.map (·.2) → way t.mask (p.2.hash w) K ∉ t.place.toList → (∀ c, c < K → way t.mask (p.2.hash w) c ∈ t.place.toList) → Q (.free (way t.mask (p.2.hash w) K) false) s) :
    wpAny (model P w) A (setSearch a (.ref p.1) (p.2.hash w) true) Q E s := by
  have room := R.room
  obtain ⟨K, hK, no, all⟩ := R.tab.free (by rw [hss_len]; omega) (p.2.hash w)
  have K5 : K < 100000 := by
    unfold SetTable.turns at hK
    rcases R.msk with e | e | e | e <;> rw [e] at hK <;> omega
  refine look_from R hx hu hK no all yes (fun z => new K z no all) 100000 0 none rfl (Nat.zero_le _) (by omega) fun i g hg same => ?_
  have iP : i < t.place.toList.length := by
    rw [Array.length_toList, R.tab.many, hss_len]; exact (List.getElem?_eq_some_iff.mp hg).1
  have hj := List.getElem?_eq_getElem iP
  obtain ⟨k, lk, e⟩ := R.tab.ahead no (i := i) (by unfold hss; rw [List.getElem?_map, hg, Option.map_some, same]) hj
  exact ⟨k, Nat.zero_le _, lk, by rw [hj, e]⟩
end
end DL.ST
/-! sets of keys of any depth: add, set(xs) -/
namespace DL.ST
open PySem PySem.Spec PyProof.Rows L2
section
variable {P : Program} {w : World} {A : Around} {E : Value → Shared → Prop} {s : Shared} {a : Addr} {L : List (Addr × NestedKey)} {es : Array (Int × Value)} {ep : Nat} {t : SetTable}
/-- keys stand where a set changes -/
theorem At.set {h h' : Heap} {o : Obj} {p : Addr × NestedKey} (x : At h p) (ho : h.get? a = some o) (hd : o.data = .set es ep t) (sb : Heap.SameBut a h h') : At h' p := by
  refine ⟨NestedIs.at (fun b ob vs n hb hc => ?_) _ _ x.1, x.2⟩
  have ne : b ≠ a := fun e => by
    subst e
    rw [ho] at hb
    cases hb
    rw [hd] at hc; cases hc
  rw [sb.2 b ne]; exact hb
theorem At.keep {h h' : Heap} {p : Addr × NestedKey} (x : At h p) (k : ∀ b o, h.get? b = some o → h'.get? b = some o) : At h' p := ⟨NestedIs.at (fun b ob vs n hb _ => k b ob hb) _ _ x.1, x.2⟩
/-- entries in another order -/
theorem ents_order (order : List Nat) (lt : ∀ i ∈ order, i < L.length) (rows : es.toList = ents w L) : order.filterMap (fun i => es[i]?) = ents w (order.filterMap fun i => L[i]?) ∧ (order.filterMap fun i => L[i]?).length = order.length ∧ hss w (order.filterMap fun i => L[i]?) = order.map fun i => (es.map (·.1)).getD i 0 := by
  induction order with
  | nil => exact ⟨rfl, rfl, rfl⟩
  | cons i order ih =>
    obtain ⟨h1, h2, h3⟩ := ih fun j hj => lt j (List.mem_cons_of_mem _ hj)
    have hi := lt i (by simp)
    have e1 : es[i]? = some ((L[i]).2.hash w, Value.ref (L[i]).1) := by
      rw [← Array.getElem?_toList, rows]
      unfold ents
      rw [List.getElem?_map, List.getElem?_eq_getElem hi]; rfl
    rw [List.filterMap_cons_some (List.getElem?_eq_getElem hi), List.filterMap_cons_some e1]
    refine ⟨by rw [h1]; rfl, by rw [List.length_cons, List.length_cons, h2], ?_⟩
    show _ :: hss w _ = _
    rw [h3, List.map_cons]
    congr 1
    rw [Array.getD_eq_getD_getElem?, Array.getElem?_map, e1]; rfl
theorem order_perm {α : Type} (L : List α) {order : List Nat} (p : order.Perm (List.range L.length)) : (order.filterMap fun i => L[i]?).Perm L := by
  refine (p.filterMap _).trans ?_
  have : ∀ (M pre : List α), (List.range' pre.length M.length).filterMap (fun i => (pre ++ M)[i]?) = M := fun M => by
    induction M with
    | nil => intro pre; rfl
    | cons x M ih =>
      intro pre
      rw [List.length_cons, List.range'_succ, List.filterMap_cons_some (b := x) (by simp)]
      have := ih (pre ++ [x])
      rw [List.length_append, List.length_singleton, List.append_assoc, List.singleton_append] at this
      rw [this]
  have h := this L []
  rw [List.nil_append, List.length_nil, ← List.range_eq_range'] at h
  rw [h]
/-- the table laid anew -/
theorem relay {o : Obj} (ho : s.heap.get? a = some o) (hex : o.ExactSet) (hd : o.data = .set es ep t) (rows : es.toList = ents w L) (fits : t.fits es.size = true) (nd : (L.map (·.2)).Nodup) (keys : ∀ p ∈ L, At s.heap p)
    (led : w.params.followText "set-order" = true ∨ t.led = true) {wanted m : Nat} (hw : SetTable.sizeAbove wanted = m + 1) (hm : m = 7 ∨ m = 31 ∨ m = 127 ∨ m = 511) (M : Meet m) (few : L.length * 5 < m * 3) {Q : Unit → Shared → Prop}
    (done : ∀ h' L' es' ep' t', Heap.SameBut a s.heap h' → SK w h' a L' es' ep' t' → L'.Perm L → Q () { s with heap := h' }) : wpAny (model P w) A (setRelay a wanted) Q E s := by
  have size : es.size = L.length := by rw [← Array.length_toList, rows, ents_len]
  have le : m ≤ 511 := by rcases hm with e | e | e | e <;> omega
  obtain ⟨t2, order, e, perm, T, e1, e2, e3⟩ := laid_anew t (hs := es.map (·.1)) hw M (by rw [Array.size_map, size]; omega)
  rw [Array.size_map, size] at perm
  obtain ⟨r1, r2, r3⟩ := ents_order order.toList (fun i hi => List.mem_range.mp (perm.mem_iff.mp hi)) rows
  have pm := order_perm L perm
  generalize order.toList.filterMap (fun i => L[i]?) = L2 at r1 r2 r3 pm
  rw [← r3] at T
  have rows2 : (order.filterMap (es[·]?)).toList = ents w L2 := by rw [Array.toList_filterMap]; exact r1
  generalize q2 : order.filterMap (es[·]?) = es2 at rows2
  have size2 : es2.size = es.size := by rw [← Array.length_toList, rows2, ents_len, pm.length_eq, size]
  rw [setRelay_eq]
  refine wpAny_bind (wpAny_setState_of ho hd fits ?_)
  dsimp only
  refine wp_if_neg (by rw [hw, sizeLine_eq]; omega) ?_
  rw [e]
  dsimp only
  rw [q2]
  refine wpAny_bind ?_
  refine wp_if_neg (by rw [size2]; simp) (wpAny_pure ?_)
  dsimp only
  refine wpAny_storeSet_of ho hd ?_ (by rw [size2, size, sizeLine_eq]; omega)
  have sb : Heap.SameBut a s.heap (s.heap.update a (Obj.putSet es2 t2)) := Heap.SameBut.update ..
  refine done _ L2 es2 (ep + 1) t2 sb ⟨⟨_, store_at ho hd, ⟨hex.1, hex.2.1, hex.2.2⟩, rfl⟩, rows2, T, ?_, fun p hp => (keys p (pm.mem_iff.mp hp)).set ho hd sb, by rw [e2]; exact led, by rw [pm.length_eq, e1]; exact few, by rw [e1]; exact hm⟩ pm
  exact (pm.map (·.2)).nodup_iff.mpr nd
theorem sz5 : SetTable.sizeAbove (SetTable.grown 5) = 31 + 1 := by decide +kernel
theorem sz19 : SetTable.sizeAbove (SetTable.grown 19) = 127 + 1 := by decide +kernel
theorem sz77 : SetTable.sizeAbove (SetTable.grown 77) = 511 + 1 := by decide +kernel
/-- one key added -/
theorem add (R : SK w s.heap a L es ep t) {p : Addr × NestedKey} (hx : At s.heap p) (hu : A.units + 8 < cLine) (few : L.length + 1 ≤ 300) {Q : Bool → Shared → Prop}
    (done : ∀ b h' L' es' ep' t', Heap.SameBut a s.heap h' → SK w h' a L' es' ep' t' → (p.2 ∈ L.map (·.2) → L' = L) → (p.2 ∉ L.map (·.2) → L'.Perm (p :: L)) → Q b { s with heap := h' }) :
    wpAny (model P w) A (setAddHashed a (.ref p.1) (p.2.hash w)) Q E s := by
  obtain ⟨o, ho, hex, hd⟩ := R.ob
  have size := R.size
  have room := R.room
  unfold setAddHashed
  refine wpAny_holding ?_
  rw [show (100000 : Nat) = 99999 + 1 from rfl, setAddHashedIn_succ]
  refine wpAny_bind (wpAny_setState_of ho hd R.fits ?_)
  dsimp only
  refine wp_if_neg (by simp [byScan, Value.scannable]) ?_
  refine wpAny_bind (look R hx hu (fun m => ?_) fun K m no all => ?_)
  · exact wpAny_pure (done false s.heap L es ep t (Heap.SameBut.refl a s.heap) R (fun _ => rfl) fun z => absurd m z)
  dsimp only
  refine wpAny_bind (wpAny_setState_of ho hd R.fits ?_)
  dsimp only
  generalize hq : SetTable.below t.place (way t.mask (p.2.hash w) K) = q
  obtain ⟨q1, T, fill⟩ := R.tab.more no all hq
  rw [hss_len] at q1 fill
  have put : t.put (way t.mask (p.2.hash w) K) = ((t.put (way t.mask (p.2.hash w) K)).1, q) := by rw [← hq]; rfl
  have same : (t.put (way t.mask (p.2.hash w) K)).1.mask = t.mask ∧ (t.put (way t.mask (p.2.hash w) K)).1.led = t.led := ⟨rfl, rfl⟩
  rw [put]
  generalize (t.put (way t.mask (p.2.hash w) K)).1 = t1 at T fill same
  dsimp only
  have rest : ∀ byV : Bool, wpAny (model P w) A (do
      let t2 := if byV = true then t1 else { t1 with plain := false }
      storeSet a (SetTable.insertAt es q (p.2.hash w, Value.ref p.1)) t2
      if (!false && t2.tooFull) = true then setRelay a (SetTable.grown (es.size + 1))
      return true) Q E s := fun byV => by
    have T2 : Tb (if byV = true then t1 else { t1 with plain := false }) ((hss w L).take q ++ p.2.hash w :: (hss w L).drop q) := by
      cases byV
      · exact ⟨T.asc, T.clean, T.many, T.msk, T.there⟩
      · exact T
    have m2 : (if byV = true then t1 else { t1 with plain := false }).mask = t.mask := by cases byV <;> exact same.1
    have l2 : (if byV = true then t1 else { t1 with plain := false }).led = t.led := by cases byV <;> exact same.2
    have f2 : (if byV = true then t1 else { t1 with plain := false }).fill = L.length + 1 := by cases byV <;> exact fill
    generalize (if byV = true then t1 else { t1 with plain := false }) = t2 at T2 m2 l2 f2
    have rows : (SetTable.insertAt es q (p.2.hash w, Value.ref p.1)).toList = ents w (L.take q ++ p :: L.drop q) := by
      rw [SetTable.toList_insertAt, R.rows]
      unfold ents
      rw [List.map_append, List.map_cons, List.map_take, List.map_drop]
    have hT : (hss w L).take q ++ p.2.hash w :: (hss w L).drop q = hss w (L.take q ++ p :: L.drop q) := by
      unfold hss
      rw [List.map_append, List.map_cons, List.map_take, List.map_drop]
    rw [hT] at T2
    have pm : (L.take q ++ p :: L.drop q).Perm (p :: L) := put_perm L q p
    generalize L.take q ++ p :: L.drop q = L1 at rows T2 pm
    have len : L1.length = L.length + 1 := pm.length_eq
    have size1 : (SetTable.insertAt es q (p.2.hash w, Value.ref p.1)).size = L.length + 1 := by rw [← Array.length_toList, rows, ents_len, len]
    generalize SetTable.insertAt es q (p.2.hash w, Value.ref p.1) = es1 at rows size1
    have nd1 : (L1.map (·.2)).Nodup := (pm.map (·.2)).nodup_iff.mpr (List.nodup_cons.mpr ⟨m, R.nd⟩)
    refine wpAny_bind (wpAny_storeSet_of ho hd ?_ (by rw [size1, sizeLine_eq]; omega))
    have sb : Heap.SameBut a s.heap (s.heap.update a (Obj.putSet es1 t2)) := Heap.SameBut.update ..
    have ho1 := store_at (es' := es1) (t' := t2) ho hd
    generalize s.heap.update a (Obj.putSet es1 t2) = h1 at sb ho1
    have keys1 : ∀ g ∈ L1, At h1 g := fun g hg => by
      rcases List.mem_cons.mp (pm.mem_iff.mp hg) with rfl | hg
      · exact hx.set ho hd sb
      · exact (R.keys g hg).set ho hd sb
    have led1 : w.params.followText "set-order" = true ∨ t2.led = true := by rw [l2]; exact R.led
    have place1 : t2.place.size = L.length + 1 := by rw [T2.many, hss_len, len]
    by_cases full : t2.tooFull = true
    · have big : (L.length + 1) * 5 ≥ t.mask * 3 := by
        have := full
        unfold SetTable.tooFull at this
        rw [decide_eq_true_eq, f2, m2] at this
        exact this
      refine wp_if_pos (by simp [full]) (wpAny_bind ?_)
      rw [size]
      have fits : t2.fits es1.size = true := by
        unfold SetTable.fits
        rw [place1, size1, f2, m2]
        simp only [beq_self_eq_true, Bool.true_and, decide_eq_true_eq]
        omega
      have go : ∀ m, SetTable.sizeAbove (SetTable.grown (L.length + 1)) = m + 1 → (m = 7 ∨ m = 31 ∨ m = 127 ∨ m = 511) → Meet m → (L.length + 1) * 5 < m * 3 → wpAny (model P w) A (setRelay a (SetTable.grown (L.length + 1))) (fun _ s' => wpAny (model P w) A (pure true) Q E s') E { s with heap := h1 } := fun mk c1 c2 c3 c4 =>
        relay (s := { s with heap := h1 }) ho1 ⟨hex.1, hex.2.1, hex.2.2⟩ rfl rows fits nd1 keys1 led1 c1 c2 c3 (by rw [len]; exact c4) fun h2 L2 es2 ep2 t3 sb2 R2 pm2 =>
          wpAny_pure (done true h2 L2 es2 ep2 t3 (sb.trans sb2) R2 (fun z => absurd z m) fun _ => pm2.trans pm)
      have cs : L.length = 4 ∨ L.length = 18 ∨ L.length = 76 := by rcases R.msk with e | e | e | e <;> rw [e] at big room <;> omega
      rcases cs with e | e | e
      · exact go 31 (by rw [e]; exact sz5) (.inr (.inl rfl)) (meet_kit (.inr (.inl rfl))) (by omega)
      · exact go 127 (by rw [e]; exact sz19) (.inr (.inr (.inl rfl))) (meet_kit (.inr (.inr rfl))) (by omega)
      · exact go 511 (by rw [e]; exact sz77) (.inr (.inr (.inr rfl))) meet511 (by omega)
    · refine wp_if_neg (by simp [full]) ?_
      refine wpAny_pure (done true h1 L1 es1 (ep + 1) t2 sb ⟨⟨_, ho1, ⟨hex.1, hex.2.1, hex.2.2⟩, rfl⟩, rows, T2, nd1, keys1, led1, ?_, by rw [m2]; exact R.msk⟩ (fun z => absurd z m) fun _ => pm)
      have := full
      unfold SetTable.tooFull at this
      rw [decide_eq_true_eq, f2] at this
      rw [len]; omega
  by_cases c : t1.plain = true
  · refine wp_if_pos c (wpAny_bind (hash_key _ _ 8 s hx.1 hx.2 _ _ _ fun b => ?_))
    exact rest b
  · refine wp_if_neg c (wpAny_bind (wpAny_pure ?_))
    exact rest true
end
end DL.ST
/-! sets of keys of any depth: set(xs) -/
namespace DL.ST
open PySem PySem.Spec PyProof.Rows L2
section
variable {P : Program} {w : World} {A : Around} {E : Value → Shared → Prop} {s : Shared} {a : Addr}
/-- what came in from the first i items -/
structure Has (ks : List (Addr × NestedKey)) (i : Nat) (L : List (Addr × NestedKey)) : Prop where
  from_ : ∀ p ∈ L, p ∈ ks.take i
  in_ : ∀ p ∈ ks.take i, p.2 ∈ L.map (·.2)
  len : L.length ≤ i
theorem Has.start (ks : List (Addr × NestedKey)) : Has ks 0 [] := ⟨fun p h => (by cases h), fun p h => (by simp at h), Nat.le_refl _⟩
theorem Has.turn {ks L L' : List (Addr × NestedKey)} {i : Nat} {p : Addr × NestedKey} (g : Has ks i L) (hp : ks[i]? = some p) (old : p.2 ∈ L.map (·.2) → L' = L) (new : p.2 ∉ L.map (·.2) → L'.Perm (p :: L)) : Has ks (i + 1) L' := by
  have tk : ks.take (i + 1) = ks.take i ++ [p] := by rw [List.take_add_one, hp]; rfl
  by_cases c : p.2 ∈ L.map (·.2)
  · rw [old c]
    refine ⟨fun q hq => ?_, fun q hq => ?_, Nat.le_succ_of_le g.len⟩
    · rw [tk]; exact List.mem_append_left _ (g.from_ q hq)
    · rw [tk] at hq
      rcases List.mem_append.mp hq with hq | hq
      · exact g.in_ q hq
      · rw [List.mem_singleton.mp hq]; exact c
  · have pm := new c
    refine ⟨fun q hq => ?_, fun q hq => ?_, by rw [pm.length_eq, List.length_cons]; exact Nat.succ_le_succ g.len⟩
    · rw [tk]
      rcases List.mem_cons.mp (pm.mem_iff.mp hq) with rfl | hq
      · simp
      · exact List.mem_append_left _ (g.from_ q hq)
    · rw [(pm.map (·.2)).mem_iff, List.map_cons]
      rw [tk] at hq
      rcases List.mem_append.mp hq with hq | hq
      · exact List.mem_cons_of_mem _ (g.in_ q hq)
      · rw [List.mem_singleton.mp hq]; exact List.mem_cons_self
theorem SK.keep {h h' : Heap} {L : List (Addr × NestedKey)} {es : Array (Int × Value)} {ep : Nat} {t : SetTable} (R : SK w h a L es ep t) (k : ∀ o, h.get? a = some o → h'.get? a = some o) (ks : ∀ p ∈ L, At h' p) : SK w h' a L es ep t := by
  obtain ⟨o, ho, r⟩ := R.ob
  exact ⟨⟨o, k o ho, r⟩, R.rows, R.tab, R.nd, ks, R.led, R.room, R.msk⟩
/-- a set as it is made -/
abbrev nS (w : World) : Obj := { cls := .type "set", dict := none, data := .set #[] 0 (.fresh 0 0 (!w.params.followText "set-order")) }
theorem SK.fresh {h : Heap} (ho : h.get? a = some (nS w)) : SK w h a [] #[] 0 (.fresh 0 0 (!w.params.followText "set-order")) where
  ob := ⟨_, ho, ⟨rfl, rfl, rfl⟩, rfl⟩
  rows := rfl
  tab := ⟨List.Pairwise.nil, rfl, rfl, meet_kit (.inl rfl), fun i h j hi => by simp [hss] at hi⟩
  nd := .nil
  keys := fun p hp => by cases hp
  led := by
    cases h : w.params.followText "set-order"
    · exact .inr (by simp [SetTable.fresh])
    · exact .inl rfl
  room := by show 0 * 5 < 7 * 3; decide
  msk := .inl rfl
/-- set.update's loop over keys -/
theorem fill {I : Addr} {fp wr : List Addr} {G : Array GenState → Array GenState → Prop} {n : Nat} {Pv : Nat → Value → Prop} {St : Nat → Shared → Prop} {R : Result → Shared → Prop}
    (W : WalksS P w A.in1 I fp wr G n Pv St) (S : Addr) (out : S ∉ fp) (ks : List (Addr × NestedKey)) (hn : n = ks.length) (few : ks.length ≤ 300) (val : ∀ i v, Pv i v → ∃ p, ks[i]? = some p ∧ v = .ref p.1)
    (h0 : Heap) (hk : ∀ p ∈ ks, At h0 p) (new : h0.get? S = none) (newW : ∀ b ∈ wr, h0.get? b = none) (hu : A.in1.units + 8 < cLine) :
    ∀ (left i : Nat) (s : Shared), i + left = n → St i s → (∀ b o, h0.get? b = some o → s.heap.get? b = some o) → (∃ L es ep t, SK w s.heap S L es ep t ∧ Has ks i L) →
      (∀ s' L es ep t, Moved (S :: wr) G s s' → SK w s'.heap S L es ep t → Has ks n L → (∀ b o, h0.get? b = some o → s'.heap.get? b = some o) → R (.ok (.ret .none)) s') →
      codeAny (model P w) A (.builtin "set.update.loop" ⟨[.ref S, .ref I], []⟩) R s := by
  have outW : S ∉ wr := fun z => out (W.sub S z)
  have wide : ∀ b ∈ wr, b ∈ S :: wr := fun b hb => List.mem_cons_of_mem S hb
  have still : ∀ {s s' : Shared}, Moved wr G s s' → (∀ b o, h0.get? b = some o → s.heap.get? b = some o) → ∀ b o, h0.get? b = some o → s'.heap.get? b = some o := fun mv k b o e =>
    mv.heap b o (fun z => by have := newW b z; rw [e] at this; cases this) (k b o e)
  intro left
  induction left with
  | zero =>
    rintro i s e hst k ⟨L, es, ep, t, hS, g⟩ fin
    obtain rfl : i = n := e
    refine codeAny_builtin F.entry_set_update_loop ?_
    rw [Around.under_plainId F.plain_set_update_loop _]
    show wpAny _ A.in1 (pyNext (.ref I) >>= _) _ _ s
    refine wpAny_bind (W.done s _ _ hst fun s' mv => ?_)
    have k' := still mv k
    refine wpAny_pure (fin s' L es ep t (mv.mono wide) (hS.keep (fun o z => mv.heap S o outW z) fun p hp => (hk p (List.mem_of_mem_take (g.from_ p hp))).keep k') g k')
  | succ left ih =>
    rintro i s e hst k ⟨L, es, ep, t, hS, g⟩ fin
    refine codeAny_builtin F.entry_set_update_loop ?_
    rw [Around.under_plainId F.plain_set_update_loop _]
    show wpAny _ A.in1 (pyNext (.ref I) >>= _) _ _ s
    refine wpAny_bind (W.item i s _ _ (by omega) hst fun v s' hv hst' mv => ?_)
    obtain ⟨p, hp, rfl⟩ := val i v hv
    have k' := still mv k
    have hx : At s'.heap p := (hk p (List.mem_of_getElem? hp)).keep k'
    have hS' : SK w s'.heap S L es ep t := hS.keep (fun o z => mv.heap S o outW z) fun q hq => (hk q (List.mem_of_mem_take (g.from_ q hq))).keep k'
    show wpAny _ A.in1 (holding [Value.ref p.1] (setAdd S (.ref p.1)) >>= _) _ _ s'
    refine wpAny_bind (wpAny_holding ?_)
    unfold setAdd
    refine wpAny_holding (wpAny_bind (pyHash_key p.2 _ _ _ _ hx.1 (by have := hx.2; omega) ?_))
    refine add (s := { s' with toks := s'.toks + p.2.draws }) hS' hx hu (by have := g.len; omega) fun b h' L' es' ep' t' sb hS2 old new' => ?_
    have k2 : ∀ b o, h0.get? b = some o → h'.get? b = some o := fun b o z => (sb.2 b fun y => by rw [y, new] at z; cases z).trans (k' b o z)
    refine wpAny_pure ⟨plainId_quiet F.plain_set_update_loop _, ih (i + 1) _ (by omega) (W.frame _ s' _ _ hst' (Nat.le_add_right _ _) fun b hb o z => ?_) k2 ⟨L', es', ep', t', hS2, g.turn hp old new'⟩ fun s2 L2 es2 ep2 t2 mv2 hS3 g2 k3 => ?_⟩
    · rw [sb.2 b fun y => out (y ▸ hb)]; exact z
    · refine fin s2 L2 es2 ep2 t2 (Moved.trans W.gtrans ((mv.mono wide).then_heap (Nat.le_add_right _ _) fun b o hb z => ?_) mv2) hS3 g2 k3
      rw [sb.2 b fun y => hb (y ▸ List.mem_cons_self)]; exact z
/-- set(x), by what its __init__ does -/
theorem set_of {src : Value} {Q : Value → Shared → Prop}
    (init : ∀ (B : Around) (R : Result → Shared → Prop), B.handled = A.handled → B.units = A.units + 1 → (∀ s', (∃ h' tk, s' = { s with heap := h', toks := tk }) → Q (.ref s.heap.objs.size) s' → R (.ok (.ret .none)) s') →
      wpAny (model P w) B.in1 (Builtin.«set.__init__» ⟨[.ref s.heap.objs.size, src], []⟩) (fun fin s' => match fin with | .done f => R (.ok f) s' | .again c' => c'.quiet = true ∧ codeAny (model P w) B c' R s') (fun e s' => R (.error e) s') { s with heap := s.heap.push (nS w) }) :
    wpAny (model P w) A (call (.type "set") [src]) Q E s := by
  obtain ⟨c, tl, hmro⟩ := F.called_set.mro
  have t1 := F.called_set.made
  have t2 := F.called_set.sub
  have t3 := F.called_set.notType
  have t4 := F.called_set.canCreate
  have t5 := F.typeCall_set_1 src
  refine wpAny_call (codeAny_of_tree ?_)
  show wpAny _ _ (callAny (.type "set") _) _ _ _
  refine wpAny_pure ⟨Code.quiet_builtin _ (by decide +kernel), codeAny_builtin F.entry_type_call ?_⟩
  rw [Around.under_plain (weight_type_call_type "set" [src] []) rfl]
  repeat (any_goals (first | assumption | wp_step))
  refine codeAny_mono (code_set_led1 src (E := E) (Q₁ := fun obj s₁ => obj = .ref s.heap.objs.size ∧ s₁ = { s with heap := s.heap.push (nS w) }) ⟨rfl, rfl⟩) fun r s₁ hr => ?_
  cases r with
  | error e => exact hr
  | ok fl =>
    cases fl with
    | ret obj =>
      obtain ⟨rfl, rfl⟩ := hr
      have top : (s.heap.push (nS w)).get? s.heap.objs.size = some (nS w) := Heap.get?_push_size _ rfl
      have isS : Shared.TypeIs { s with heap := s.heap.push (nS w) } (.ref s.heap.objs.size) "set" := ⟨_, top, rfl⟩
      have i1 := F.called_set.init.lookup
      have i2 := F.called_set.init.bind (.ref s.heap.objs.size)
      repeat (any_goals (first | assumption | wp_step))
      refine codeAny_mono (codeAny_call_builtin (R := wants (fun r s₂ => r = .none ∧ (∃ h' tk, s₂ = { s with heap := h', toks := tk }) ∧ Q (.ref s.heap.objs.size) s₂) E) F.called_set.init.plain F.entry_set_init (check_set_init_1 isS ?_)) fun r₂ s₂ hr₂ => ?_
      · refine init _ _ ?_ ?_ fun s' hs hq => ⟨rfl, hs, hq⟩
        · rfl
        · rfl
      · cases r₂ with
        | error e => exact hr₂
        | ok fl₂ =>
          cases fl₂ with
          | ret r =>
            obtain ⟨rfl, ⟨h', tk, rfl⟩, hq⟩ := hr₂
            repeat (any_goals (first | assumption | wp_step))
          | _ => exact hr₂.elim
    | _ => exact hr.elim
end
end DL.ST
/-! sets of keys of any depth: set(list), set(tuple), len, sorted -/
namespace DL.ST
open PySem PySem.Spec PyProof.Rows L2
section
variable {P : Program} {w : World} {A : Around} {E : Value → Shared → Prop} {s : Shared} {a : Addr}
theorem old_none {h : Heap} {b : Addr} (hb : h.objs.size ≤ b) : h.get? b = none := by
  cases q : h.get? b with
  | none => rfl
  | some o => exact absurd (Heap.lt_size q) (Nat.not_lt.mpr hb)
theorem val_at {items : Array Value} {ks : List (Addr × NestedKey)} (hit : items.toList = ks.map fun p => Value.ref p.1) (i : Nat) (v : Value) (hv : items[i]? = some v) : ∃ p, ks[i]? = some p ∧ v = .ref p.1 := by
  have q : items.toList[i]? = some v := by rw [Array.getElem?_toList]; exact hv
  rw [hit, List.getElem?_map, Option.map_eq_some_iff] at q
  obtain ⟨p, e, r⟩ := q
  exact ⟨p, e, r.symm⟩
/-- what a call of set leaves -/
def Left (P : Program) (w : World) (s : Shared) (ks : List (Addr × NestedKey)) (Q : Value → Shared → Prop) : Prop := ∀ (h' : Heap) (tk : Nat) L es ep t, SK w h' s.heap.objs.size L es ep t → Has ks ks.length L → (∀ b o, s.heap.get? b = some o → h'.get? b = some o) → Q (.ref s.heap.objs.size) { s with heap := h', toks := tk }
theorem set_list {l : Addr} {items : Array Value} (ks : List (Addr × NestedKey)) {Q : Value → Shared → Prop} (hh : A.handled = none) (hl : s.heap.IsList l items) (hit : items.toList = ks.map fun p => Value.ref p.1)
    (hk : ∀ p ∈ ks, At s.heap p) (few : ks.length ≤ 300) (hu : A.units + 13 < cLine) (left : Left P w s ks Q) : wpAny (model P w) A (call (.type "set") [.ref l]) Q E s := by
  have size : items.size = ks.length := by rw [← Array.length_toList, hit, List.length_map]
  refine set_of fun B R hB uB fin => ?_
  obtain ⟨⟨oc, od, dt, osl⟩, hol, hcl, nl, hdl⟩ := hl
  obtain rfl : oc = .type "list" := hcl
  obtain rfl : dt = .seq items nl := hdl
  have hol' : (s.heap.push (nS w)).get? l = some { cls := .type "list", dict := od, data := .seq items nl, slots := osl } := Heap.get?_push_of_some _ hol
  have c1 := F.sub_list_set
  have c2 := F.sub_list_frozenset
  have c3 : (Value.type "list" == Value.type "dict") = false := by decide
  have hl1 : (s.heap.push (nS w)).IsList l items := ⟨_, hol', rfl, nl, rfl⟩
  have sz1 : (s.heap.push (nS w)).objs.size = s.heap.objs.size + 1 := Heap.size_push ..
  have lS : l < s.heap.objs.size := Heap.lt_size hol
  unfold Builtin.«set.__init__» noKeywords Builtin.Frozenset.updateFrom
  generalize hPI : pyIter = PI
  wp_walk
  subst hPI
  refine wpAny_pyIter_list hl1 (wpAny_bind (wpAny_runValue ?_))
  have hB2 : B.in1.in1.handled = none := by simp [hB, hh]
  have apart : l ≠ (s.heap.push (nS w)).objs.size := by rw [sz1]; exact Nat.ne_of_lt (Nat.lt_succ_of_lt lS)
  refine fill ((Walks.list hB2 _ l apart items).toS) s.heap.objs.size (by rw [sz1]; simp only [List.mem_cons, List.not_mem_nil, or_false, not_or]; exact ⟨Nat.ne_of_lt (Nat.lt_succ_self _), Nat.ne_of_gt lS⟩) ks size few (fun i v hv => val_at hit i v hv) s.heap hk
    (old_none (Nat.le_refl _)) (fun b hb => old_none (by rw [List.mem_singleton.mp hb, sz1]; omega)) (by show B.units + 1 + 1 + 8 < cLine; omega) items.size 0 _ (by omega) ⟨⟨_, Heap.get?_push_size _ rfl, rfl, rfl⟩, hl1.push _⟩
    (fun b o e => Heap.get?_push_of_some _ (Heap.get?_push_of_some _ e)) ⟨[], #[], 0, _, SK.fresh (Heap.get?_push_of_some _ (Heap.get?_push_size _ rfl)), Has.start ks⟩ ?_
  rintro ⟨h', g2, d', tk', os'⟩ L es ep t mv hS g k
  have e1 : g2 = s.gens := mv.gens
  have e2 : d' = s.drawn := mv.drawn
  have e3 : os' = s.os := mv.os
  subst e1 e2 e3
  rw [size] at g
  exact wpAny_pure (wpAny_pure (fin _ ⟨h', tk', rfl⟩ (left h' tk' L es ep t hS g k)))
theorem set_tup {l : Addr} {items : Array Value} (ks : List (Addr × NestedKey)) {Q : Value → Shared → Prop} (hh : A.handled = none) (hl : s.heap.IsTuple l items) (hit : items.toList = ks.map fun p => Value.ref p.1)
    (hk : ∀ p ∈ ks, At s.heap p) (few : ks.length ≤ 300) (hu : A.units + 13 < cLine) (left : Left P w s ks Q) : wpAny (model P w) A (call (.type "set") [.ref l]) Q E s := by
  have size : items.size = ks.length := by rw [← Array.length_toList, hit, List.length_map]
  refine set_of fun B R hB uB fin => ?_
  obtain ⟨⟨oc, od, dt, osl⟩, hol, hcl, nl, hdl⟩ := hl
  obtain rfl : oc = .type "tuple" := hcl
  obtain rfl : dt = .seq items nl := hdl
  have hol' : (s.heap.push (nS w)).get? l = some { cls := .type "tuple", dict := od, data := .seq items nl, slots := osl } := Heap.get?_push_of_some _ hol
  have c1 := F.sub_tuple_set
  have c2 := F.sub_tuple_frozenset
  have c3 : (Value.type "tuple" == Value.type "dict") = false := by decide
  have hl1 : (s.heap.push (nS w)).IsTuple l items := ⟨_, hol', rfl, nl, rfl⟩
  have sz1 : (s.heap.push (nS w)).objs.size = s.heap.objs.size + 1 := Heap.size_push ..
  have lS : l < s.heap.objs.size := Heap.lt_size hol
  unfold Builtin.«set.__init__» noKeywords Builtin.Frozenset.updateFrom
  generalize hPI : pyIter = PI
  wp_walk
  subst hPI
  refine wpAny_pyIter_tuple hl1 (wpAny_bind (wpAny_runValue ?_))
  have hB2 : B.in1.in1.handled = none := by simp [hB, hh]
  have apart : l ≠ (s.heap.push (nS w)).objs.size := by rw [sz1]; exact Nat.ne_of_lt (Nat.lt_succ_of_lt lS)
  refine fill ((Walks.tuple hB2 _ l apart items).toS) s.heap.objs.size (by rw [sz1]; simp only [List.mem_cons, List.not_mem_nil, or_false, not_or]; exact ⟨Nat.ne_of_lt (Nat.lt_succ_self _), Nat.ne_of_gt lS⟩) ks size few (fun i v hv => val_at hit i v hv) s.heap hk
    (old_none (Nat.le_refl _)) (fun b hb => old_none (by rw [List.mem_singleton.mp hb, sz1]; omega)) (by show B.units + 1 + 1 + 8 < cLine; omega) items.size 0 _ (by omega) ⟨⟨_, Heap.get?_push_size _ rfl, rfl, rfl⟩, hl1.push _⟩
    (fun b o e => Heap.get?_push_of_some _ (Heap.get?_push_of_some _ e)) ⟨[], #[], 0, _, SK.fresh (Heap.get?_push_of_some _ (Heap.get?_push_size _ rfl)), Has.start ks⟩ ?_
  rintro ⟨h', g2, d', tk', os'⟩ L es ep t mv hS g k
  have e1 : g2 = s.gens := mv.gens
  have e2 : d' = s.drawn := mv.drawn
  have e3 : os' = s.os := mv.os
  subst e1 e2 e3
  rw [size] at g
  exact wpAny_pure (wpAny_pure (fin _ ⟨h', tk', rfl⟩ (left h' tk' L es ep t hS g k)))
end
end DL.ST
namespace DL
open PySem PySem.Spec PyProof.Rows L2
/-! ### sorted(set(t)), t a tuple of whole numbers; tuple(range(n)) -/
def rSetTI (K : PySem.W.Frag) (w : World) : List V → Hp → VK → Prop := fun xs H Q => ∃ (p : Addr) (ns : List Int), xs = [.ref p] ∧ SqT K H p (ns.map V.int) ∧ ns.length < 64 ∧
  ∀ q n, n ≤ ns.length → H q = none → Q (.ref q) (upd H q (SetO w q (fun j => decide (j ∈ ns)) n))
section
variable {J : Jd} {X : Cx} {E : XK} {a : Expr} {ta : DT} {pos : Pos}
theorem cr_setTI (hc : X.calm = true) : CallR X (.type "set") (rSetTI X.K X.w) := by
  intro pins s σ H xs us Q I r h
  obtain ⟨p, ns, rfl, hs, hl, q⟩ := h
  obtain ⟨u, rfl, ru⟩ := vals1 r
  obtain rfl : u = Value.ref p := ru
  obtain ⟨its, rv, pt, hz⟩ := I.tuple hs
  refine call_set_tupI ns (I.ok.hd hc) (items := its.toArray) pt (ints_of_vals rv) (by unfold scanBound; omega) fun h' tk c R hcn k => ?_
  have J : Inv X pins σ (upd H s.heap.objs.size (SetO X.w s.heap.objs.size (fun j => decide (j ∈ ns)) c)) { s with heap := h', toks := tk } := I.laid (t' := tk) k (Nat.le_refl _) (setO_new R)
  exact ⟨.ref _, _, J, rfl, q _ c hcn (I.hok.fresh (Nat.le_refl _))⟩
@[simp] def srtSetP (P : List D → Prop) : D → Prop
  | .tup ds => ∃ ns : List Int, ds = ns.map .int ∧ ns.length < 64 ∧ ∀ ms : List Int, ms.Pairwise (· < ·) → (∀ k, k ∈ ms ↔ k ∈ ns) → P (ms.map .int)
  | _ => False
@[simp] def dSrtSet (t : DT) : DTA := fun ρ P R => t ρ (srtSetP P) R
theorem DpA.isInts {W : Wd} {O : Addr → Prop} {H : Hp} : ∀ {ns : List Int} {xs : List V}, DpA W O H xs (ns.map .int) → xs = ns.map V.int
  | [], [], _ => rfl
  | [], _ :: _, h => h.elim
  | _ :: _, [], h => h.elim
  | n :: ns, v :: vs, h => by
    have e : v = V.int n := h.1
    rw [List.map_cons, e, DpA.isInts h.2]
theorem df_srtSet {p p2 pos2 : Pos} (hc : X.calm = true) (hg : Gl X "sorted") (hm : X.mg "sorted" = none) (hg2 : Gl X "set") (hm2 : X.mg "set" = none) (ha : DB J X E a ta)
    (he : starEach (a :: []) X.env = (false, eval a X.env) :: starEach [] X.env := by rfl) (he2 : starEach (.Call (.Name "set" p2) [a] [] pos2 :: []) X.env = (false, eval (.Call (.Name "set" p2) [a] [] pos2) X.env) :: starEach [] X.env := by rfl) :
    DF J X E (.Call (.Name "sorted" p) [.Call (.Name "set" p2) [a] [] pos2] [] pos) (dSrtSet ta) := by
  obtain ⟨te, p1, s1⟩ := ha.ex
  refine ⟨_, pe_callB (cr_sortedSet hc) hg hm boot_sorted' (pa_cons (pe_callTy (cr_setTI hc) hg2 hm2 boot_set (pa_cons p1 pa_nil he) (by decide) (by decide) he rfl) pa_nil he2) (by decide) (by decide) he2 rfl, fun B O H σ ρ P R Q rl x h fin => s1 B O H σ ρ _ R _ rl x h fun v H1 d x1 hv h1 => ?_⟩
  cases d with
  | tup ds =>
    obtain ⟨a, xs, rfl, t, n, r⟩ := hv.tup
    obtain ⟨ns, rfl, hn, k⟩ := h1
    obtain rfl := r.isInts
    refine ⟨a, ns, rfl, t.sq, hn, fun q c hcn nq => ?_⟩
    have x2 : Ext J.T H1 (upd H1 q (SetO X.w q (fun j => decide (j ∈ ns)) c)) := Ext.new nq
    refine ⟨q, _, c, rfl, upd_same, by omega, fun ms p hms hmem hlen np => ?_⟩
    have x3 := x2.trans (Ext.new (T := J.T) (o := .lst (ms.map V.int)) np)
    refine fin p _ _ (ms.map .int) (x1.trans x3) ((x1.trans x2).fresh np) ((rl.ext (x1.trans x2)).free np) ((rl.ext (x1.trans x2)).base.none np) upd_same (by rw [List.length_map, hlen, sizeLine_eq]; omega) (DpA.ints _) (k ms hms fun j => ?_)
    rw [hmem, decide_eq_true_eq]
  | _ => exact h1.elim
@[simp] def dTupRg (t : DT) : DT := fun ρ P R => t ρ (rangeP fun ds => P (.tup ds)) R
theorem de_tupRg {p p2 pos2 : Pos} (hc : X.calm = true) (hg : Gl X "tuple") (hm : X.mg "tuple" = none) (hg2 : Gl X "range") (hm2 : X.mg "range" = none) (ha : DE J X E a ta) (na : starEach [a] X.env = (false, eval a X.env) :: starEach [] X.env := by rfl)
    (na2 : starEach [.Call (.Name "range" p2) [a] [] pos2] X.env = (false, eval (.Call (.Name "range" p2) [a] [] pos2) X.env) :: starEach [] X.env := by rfl) : DE J X E (.Call (.Name "tuple" p) [.Call (.Name "range" p2) [a] [] pos2] [] pos) (dTupRg ta) := by
  obtain ⟨t1, p1, s1⟩ := ha.ex
  refine ⟨_, pe_tupRg hc hg hm (prg_1 hg2 hm2 p1 na) na2, fun B O H σ ρ P R Q rl x h fin => s1 B O H σ ρ _ R _ rl x h fun v H1 d x1 hv h1 => ?_⟩
  cases d with
  | int j =>
    refine ⟨j, hv, RgOk.of_le (by omega) h1.1.2 (by omega) h1.1.1, fun p np => ?_⟩
    have e : rgV 0 j = (List.range j.toNat).map fun i => V.int (0 + (i : Nat)) := by unfold rgV; simp
    have r : DpA (wd X) O (upd H1 p (.tup (rgV 0 j))) (rgV 0 j) (rangeD 0 j.toNat) := by
      have g : ∀ (W : Wd) (O' : Addr → Prop) (H' : Hp) (l : List Nat), DpA W O' H' (l.map fun i => V.int (0 + (i : Nat))) (l.map fun i => D.int (0 + (i : Nat))) := fun W O' H' l => by
        induction l with
        | nil => trivial
        | cons i l ih => exact ⟨rfl, ih⟩
      rw [e]
      exact g _ _ _ _
    exact fin (.ref p) _ (.tup (rangeD 0 j.toNat)) (x1.trans (Ext.new np)) ⟨p, _, rfl, .inl ⟨(rl.ext x1).free np, upd_same⟩, by rw [rangeD_len, sizeLine_eq]; have := h1.1; omega, r⟩ h1.2
  | _ => exact h1.elim
end
end DL
/-! len(set(x)), sorted(set(x)) of tuples of data -/
namespace DL
open PySem PySem.Spec PyProof.Rows L2
theorem reads_old {h : Heap} : ∀ {v : Value} {d : PyData} {as : List Addr}, Reads h v d as → ∀ b ∈ as, ∃ o, h.get? b = some o := fun {v d as} r => by
  refine Reads.rec (motive_1 := fun v d as _ => ∀ b ∈ as, ∃ o, h.get? b = some o) (motive_2 := fun vs ds as _ => ∀ b ∈ as, ∃ o, h.get? b = some o) ?_ ?_ ?_ ?_ ?_ ?_ ?_ ?_ ?_ r
  · intro b hb; cases hb
  · intro _ b hb; cases hb
  · intro _ _ b hb; cases hb
  · intro _ _ b hb; cases hb
  · intro a o vs n xs as h1 _ _ _ ih b hb
    rcases List.mem_cons.mp hb with rfl | hb
    · exact ⟨o, h1⟩
    · exact ih b hb
  · intro a o vs n xs as _ _ _ _ ih b hb
    exact ih b hb
  · intro a o es n kvs as bs h1 _ _ _ _ ih1 ih2 b hb
    rcases List.mem_append.mp hb with hb | hb
    · rcases List.mem_cons.mp hb with rfl | hb
      · exact ⟨o, h1⟩
      · exact ih1 b hb
    · exact ih2 b hb
  · intro b hb; cases hb
  · intro v vs d ds as bs _ _ ih1 ih2 b hb
    rcases List.mem_append.mp hb with hb | hb
    · exact ih1 b hb
    · exact ih2 b hb
/-- a key, its place, its data -/
abbrev KD3 := (Addr × NestedKey) × D
def K3 (W : Wd) (O : Addr → Prop) (H : Hp) (q : KD3) : Prop := Dp W O H (.ref q.1.1) q.2 ∧ keyOfD q.2 = some q.1.2
theorem keys3 {W : Wd} {O : Addr → Prop} {H : Hp} : ∀ {xs : List V} {ds : List D}, DpA W O H xs ds → (∀ d ∈ ds, ∃ ss k, d = .tup ss ∧ keyOfD d = some k) → ∃ T : List KD3, xs = T.map (fun q => V.ref q.1.1) ∧ ds = T.map (·.2) ∧ ∀ q ∈ T, K3 W O H q
  | [], [], _, _ => ⟨[], rfl, rfl, fun q hq => by cases hq⟩
  | [], _ :: _, h, _ => h.elim
  | _ :: _, [], h, _ => h.elim
  | v :: xs, d :: ds, h, hk => by
    obtain ⟨T, h1, h2, h3⟩ := keys3 h.2 fun d hd => hk d (List.mem_cons_of_mem _ hd)
    obtain ⟨ss, k, rfl, e⟩ := hk d (by simp)
    obtain ⟨a, ys, rfl, r⟩ := h.1
    refine ⟨((a, k), .tup ss) :: T, by rw [h1]; rfl, by rw [h2]; rfl, fun q hq => ?_⟩
    rcases List.mem_cons.mp hq with rfl | hq
    · exact ⟨⟨a, ys, rfl, r⟩, e⟩
    · exact h3 q hq
theorem K3.at {X : Cx} {pins : List (Addr × Obj)} {σ : St} {H : Hp} {s : Shared} {O : Addr → Prop} {q : KD3} (I : Inv X pins σ H s) (h : K3 (wd X) O H q) : ST.At s.heap q.1 := by
  obtain ⟨dp, h1, h2, h3⟩ := key_at h.1 h.2
  obtain ⟨as, r⟩ := L2.Dp.reads I dp _ (.ref q.1.1) h1 rfl
  exact ⟨nk_of r h2, h3⟩
theorem vals_ref {α : Type} (f : α → Addr) : ∀ l : List α, Vals (l.map fun q => V.ref (f q)) (l.map fun q => Value.ref (f q))
  | [] => .nil
  | q :: l => .cons rfl (vals_ref f l)
theorem refs_of {α : Type} (f : α → Addr) : ∀ {l : List α} {us : List Value}, Vals (l.map fun q => V.ref (f q)) us → us = l.map fun q => Value.ref (f q)
  | [], _, .nil => rfl
  | q :: l, u :: us, .cons h1 h2 => by
    have h1 : u = Value.ref (f q) := h1
    rw [h1, refs_of f h2]; rfl
theorem perm_back {α β : Type} (f : α → β) {a b : List β} (p : a.Perm b) : ∀ L : List α, b = L.map f → ∃ L' : List α, L'.Perm L ∧ a = L'.map f := by
  induction p with
  | nil => intro L e; exact ⟨L, .refl _, by rw [← e]⟩
  | cons x _ ih =>
    intro L e
    cases L with
    | nil => cases e
    | cons y L =>
      rw [List.map_cons] at e
      injection e with e1 e2
      obtain ⟨L', h1, h2⟩ := ih L e2
      exact ⟨y :: L', h1.cons y, by rw [h2, e1]; rfl⟩
  | swap x y l =>
    intro L e
    match L, e with
    | u :: v :: L, e =>
      simp only [List.map_cons, List.cons.injEq] at e
      exact ⟨v :: u :: L, .swap u v L, by rw [e.1, e.2.1, e.2.2]; rfl⟩
  | trans _ _ ih1 ih2 =>
    intro L e
    obtain ⟨L1, h1, h2⟩ := ih2 L e
    obtain ⟨L2, h3, h4⟩ := ih1 L1 h2
    exact ⟨L2, h3.trans h1, h4⟩
theorem has_keys {ks L : List (Addr × NestedKey)} (g : ST.Has ks ks.length L) (k : NestedKey) : k ∈ L.map (·.2) ↔ k ∈ ks.map (·.2) := by
  have e : ks.take ks.length = ks := List.take_length
  constructor
  · intro h
    obtain ⟨p, hp, rfl⟩ := List.mem_map.mp h
    have := g.from_ p hp
    rw [e] at this
    exact List.mem_map.mpr ⟨p, this, rfl⟩
  · intro h
    obtain ⟨p, hp, rfl⟩ := List.mem_map.mp h
    exact g.in_ p (by rw [e]; exact hp)
/-! ### len(set(x)) -/
def tLenK (W : Wd) (ta : TE) : TE := fun σ H Q => ta σ H fun x H1 => ∃ (O : Addr → Prop) (l : Addr) (T : List KD3), x = .ref l ∧ SqL W.K H1 l (T.map fun q => V.ref q.1.1) ∧ (∀ q ∈ T, K3 W O H1 q) ∧ T.length ≤ 300 ∧ ∀ M : List NestedKey, M.Nodup → (∀ k, k ∈ M ↔ k ∈ T.map (·.1.2)) → Q (.int M.length) H1
theorem pe_lenK {X : Cx} {a : Expr} {ta : TE} {p p2 q pos : Pos} (hc : X.calm = true) (hu : X.A.units + 65 < cLine) (hg : Gl X "len") (hm : X.mg "len" = none) (hg2 : Gl X "set") (hm2 : X.mg "set" = none) (ha : PE X a ta)
    (na : starEach [a] X.env = (false, eval a X.env) :: starEach [] X.env := by rfl) : PE X (.Call (.Name "len" p) [.Call (.Name "set" p2) [a] [] q] [] pos) (tLenK (wd X) ta) := by
  refine ⟨fun pins s σ H Q I h => ?_⟩
  refine Call_ (ld_blt I hg hm PySem.boot_len (PyProof.Rows.callWith_builtin1 (PyProof.Rows.args_cons ?_ rfl) rfl rfl))
  refine Call_ (ld_blt I hg2 hm2 PyProof.Rows.boot_set (PyProof.Rows.callWith_type1 (PyProof.Rows.args_cons (thn (ha.run pins s σ H _ I h) fun v s1 ⟨x, H1, I1, r1, O, l, T, ex, hq, hT, few, q1⟩ => PyProof.Rows.args_nil ?_) na) na rfl))
  subst ex
  cases r1
  obtain ⟨its, r, pl, hz⟩ := I1.list hq
  have hits : its.toArray.toList = (T.map (·.1)).map fun p => Value.ref p.1 := by
    rw [List.map_map]
    exact refs_of (fun q : KD3 => q.1.1) r
  refine ST.set_list (T.map (·.1)) (I1.ok.hd hc) pl.isList hits (fun p hp => ?_) (by rw [List.length_map]; exact few) (by omega) fun h' tk L es ep t R g k => PyProof.Rows.args_nil ?_
  · obtain ⟨q, hq, rfl⟩ := List.mem_map.mp hp
    exact (hT q hq).at I1
  · obtain ⟨o, ho, hex, hd⟩ := R.ob
    have I2 : Inv X pins σ H1 { s1 with heap := h', toks := tk } := I1.kept k
    have len : L.length ≤ 300 := by have := g.len; rw [List.length_map] at this; omega
    refine call_len_set ho hex hd R.fits (by rw [R.size]; omega) ⟨.int L.length, H1, I2.tok _, ⟨_, by rw [R.size]⟩, ?_⟩
    have := q1 (L.map (·.2)) R.nd fun k => by rw [has_keys g, List.map_map]; rfl
    rw [List.length_map] at this
    exact this
/-- tuples of data that are keys -/
def KeysL (ds : List D) (ks : List NestedKey) : Prop := (∀ d ∈ ds, ∃ ss k, d = .tup ss ∧ keyOfD d = some k) ∧ ds.map keyOfD = ks.map some
@[simp] def lenSetP (P : D → Prop) : D → Prop
  | .lst ds => ∃ ks : List NestedKey, KeysL ds ks ∧ ds.length ≤ 300 ∧ ∀ M : List NestedKey, M.Nodup → (∀ k, k ∈ M ↔ k ∈ ks) → P (.int (M.length : Int))
  | _ => False
@[simp] def dLenSet (t : DT) : DT := fun ρ P R => t ρ (lenSetP P) R
theorem keys3_map {W : Wd} {O : Addr → Prop} {H : Hp} {T : List KD3} {ks : List NestedKey} (hT : ∀ q ∈ T, K3 W O H q) (e : (T.map (·.2)).map keyOfD = ks.map some) : T.map (·.1.2) = ks := by
  have : (T.map (·.1.2)).map some = ks.map some := by
    rw [← e, List.map_map, List.map_map]
    exact List.map_congr_left fun q hq => (hT q hq).2.symm
  exact (List.map_inj_right fun _ _ z => Option.some.inj z).mp this
section
variable {J : Jd} {X : Cx} {E : XK} {a : Expr} {ta : DT} {pos : Pos}
theorem de_lenSet {p p2 pos2 : Pos} (hc : X.calm = true) (hu : X.A.units + 65 < cLine) (hg : Gl X "len") (hm : X.mg "len" = none) (hg2 : Gl X "set") (hm2 : X.mg "set" = none) (ha : DB J X E a ta)
    (he : starEach (a :: []) X.env = (false, eval a X.env) :: starEach [] X.env := by rfl) : DE J X E (.Call (.Name "len" p) [.Call (.Name "set" p2) [a] [] pos2] [] pos) (dLenSet ta) := by
  obtain ⟨te, p1, s1⟩ := ha.ex
  refine ⟨_, pe_lenK hc hu hg hm hg2 hm2 p1 he, fun B O H σ ρ P R Q rl x h fin => s1 B O H σ ρ _ R _ rl x h fun v H1 d x1 hv h1 => ?_⟩
  cases d with
  | lst ds =>
    obtain ⟨a, xs, rfl, t, n, r⟩ := hv.lst
    obtain ⟨ks, ⟨k1, k2⟩, few, q⟩ := h1
    obtain ⟨T, rfl, rfl, hT⟩ := keys3 r k1
    refine ⟨O, a, T, rfl, .inl (.inl t), hT, by rw [List.length_map] at few; exact few, fun M nd hM => ?_⟩
    have e := keys3_map hT k2
    exact fin _ H1 (.int (M.length : Int)) x1 rfl (q M nd fun k => by rw [hM, e])
  | _ => exact h1.elim
end
end DL
/-! sorted(set(x)), x a tuple of tuples of data -/
namespace DL
open PySem PySem.Spec PyProof.Rows L2
theorem lift3 {T : List KD3} : ∀ L : List (Addr × NestedKey), (∀ p ∈ L, p ∈ T.map (·.1)) → ∃ T2 : List KD3, T2.map (·.1) = L ∧ ∀ q ∈ T2, q ∈ T
  | [], _ => ⟨[], rfl, fun q hq => by cases hq⟩
  | p :: L, h => by
    obtain ⟨T2, h1, h2⟩ := lift3 L fun q hq => h q (List.mem_cons_of_mem _ hq)
    obtain ⟨q, hq, e⟩ := List.mem_map.mp (h p (by simp))
    refine ⟨q :: T2, by rw [List.map_cons, h1, e], fun r hr => ?_⟩
    rcases List.mem_cons.mp hr with rfl | hr
    · exact hq
    · exact h2 r hr
def tSrtK (W : Wd) (ta : TE) : TE := fun σ H Q => ta σ H fun x H1 => ∃ (O : Addr → Prop) (l : Addr) (T : List KD3), x = .ref l ∧ SqT W.K H1 l (T.map fun q => V.ref q.1.1) ∧ (∀ q ∈ T, K3 W O H1 q) ∧ T.length ≤ 300 ∧
  (∀ T2 : List KD3, (∀ q ∈ T2, q ∈ T) → (T2.map (·.1.2)).Nodup → SrtOk (T2.map (·.2))) ∧ ∀ (T2 : List KD3) (ys : List V) (p : Addr), (∀ q ∈ T2, q ∈ T) → (T2.map (·.1.2)).Nodup → (∀ k, k ∈ T2.map (·.1.2) ↔ k ∈ T.map (·.1.2)) → T2.length ≤ 300 → DpA W O H1 ys ((T2.map (·.2)).mergeSort leD) → H1 p = none → Q (.ref p) (upd H1 p (.lst ys))
theorem each3 {W : Wd} {O : Addr → Prop} {H : Hp} : ∀ T2 : List KD3, (∀ q ∈ T2, K3 W O H q) → PySem.W.EachIs (IsD W O H) (T2.map fun q => Value.ref q.1.1) (T2.map (·.2))
  | [], _ => .nil
  | q :: T2, h => .cons ⟨.ref q.1.1, rfl, (h q (by simp)).1⟩ (each3 T2 fun r hr => h r (List.mem_cons_of_mem _ hr))
theorem nodup_some {α : Type} : ∀ {l : List α}, l.Nodup → (l.map some).Nodup
  | [], _ => .nil
  | a :: l, h => by
    rw [List.nodup_cons] at h
    rw [List.map_cons, List.nodup_cons]
    refine ⟨fun z => ?_, nodup_some h.2⟩
    obtain ⟨b, hb, e⟩ := List.mem_map.mp z
    cases e
    exact h.1 hb
theorem sort_one1 : ∀ ds : List D, ds.length ≤ 1 → ds.mergeSort leD = ds
  | [], _ => by simp
  | [d], _ => by simp
  | _ :: _ :: _, h => absurd h (by simp)
theorem perm_one {α : Type} : ∀ {out vs : List α}, out.Perm vs → vs.length ≤ 1 → out = vs
  | out, [], p, _ => List.Perm.eq_nil p
  | out, [u], p, _ => List.perm_singleton.mp p
  | _, _ :: _ :: _, _, h => absurd h (by simp)
theorem pe_srtK {X : Cx} {a : Expr} {ta : TE} {p p2 q pos : Pos} (hc : X.calm = true) (hu : X.A.units + 65 < cLine) (hg : Gl X "sorted") (hm : X.mg "sorted" = none) (hg2 : Gl X "set") (hm2 : X.mg "set" = none) (ha : PE X a ta)
    (na : starEach [a] X.env = (false, eval a X.env) :: starEach [] X.env := by rfl) : PE X (.Call (.Name "sorted" p) [.Call (.Name "set" p2) [a] [] q] [] pos) (tSrtK (wd X) ta) := by
  refine ⟨fun pins s σ H Q I h => ?_⟩
  refine Call_ (ld_blt I hg hm boot_sorted' (PyProof.Rows.callWith_builtin1 (PyProof.Rows.args_cons ?_ rfl) rfl rfl))
  refine Call_ (ld_blt I hg2 hm2 PyProof.Rows.boot_set (PyProof.Rows.callWith_type1 (PyProof.Rows.args_cons (thn (ha.run pins s σ H _ I h) fun v s1 ⟨x, H1, I1, r1, O, l, T, ex, hq, hT, few, ok, q1⟩ => PyProof.Rows.args_nil ?_) na) na rfl))
  subst ex
  cases r1
  obtain ⟨its, r, pl, hz⟩ := I1.tuple hq
  have hits : its.toArray.toList = (T.map (·.1)).map fun p => Value.ref p.1 := by
    rw [List.map_map]
    exact refs_of (fun q : KD3 => q.1.1) r
  refine ST.set_tup (T.map (·.1)) (I1.ok.hd hc) pl hits (fun p hp => ?_) (by rw [List.length_map]; exact few) (by omega) fun h' tk L es ep t R g k => PyProof.Rows.args_nil ?_
  · obtain ⟨q, hq, rfl⟩ := List.mem_map.mp hp
    exact (hT q hq).at I1
  obtain ⟨o, ho, hex, hd⟩ := R.ob
  have len : L.length ≤ 300 := by have := g.len; rw [List.length_map] at this; omega
  refine Calls.call_function_entry kind_sorted plain_sorted entry_sorted (args_sorted1 _) ?_
  unfold Builtin.«sorted»
  refine wpAny_bind (m := checkCount "sorted" 1 1 _) (wpAny_pure ?_)
  refine wpAny_bind (collect_set (I1.ok.hd hc) (s := { s1 with heap := h', toks := tk }) ⟨o, ho, hex.1, hd⟩ R.fits (by rw [R.size]; unfold scanBound; omega) R.tab.asc R.led fun s2 vs k2 hz2 g2 o2 pm => ?_)
  have rows : es.toList.map (·.2) = L.map fun p => Value.ref p.1 := by
    rw [R.rows]
    unfold ST.ents
    rw [List.map_map]; rfl
  rw [rows] at pm
  obtain ⟨L', pL, eL⟩ := perm_back (fun p : Addr × NestedKey => Value.ref p.1) pm L rfl
  have fromT : ∀ p ∈ L', p ∈ T.map (·.1) := fun p hp => List.mem_of_mem_take (g.from_ p (pL.mem_iff.mp hp))
  obtain ⟨T2, e2, m2⟩ := lift3 L' fromT
  have ev : vs = T2.map fun q => Value.ref q.1.1 := by
    rw [eL, ← e2, List.map_map]; rfl
  have keyeq : T2.map (·.1.2) = L'.map (·.2) := by rw [← e2, List.map_map]; rfl
  have nd2 : (T2.map (·.1.2)).Nodup := by rw [keyeq]; exact (pL.map (·.2)).nodup_iff.mpr R.nd
  have mem2 : ∀ k, k ∈ T2.map (·.1.2) ↔ k ∈ T.map (·.1.2) := fun k => by
    rw [keyeq, (pL.map (·.2)).mem_iff, has_keys g, List.map_map]; rfl
  have len2 : T2.length ≤ 300 := by
    have := congrArg List.length e2
    rw [List.length_map, pL.length_eq] at this; omega
  have lenV : vs.length = T2.length := by rw [ev, List.length_map]
  have keep : ∀ b o, s1.heap.get? b = some o → s2.heap.get? b = some o := fun b o z => k2 b o (k b o z)
  refine wpAny_bind (wpAny_newList ?_ (by rw [lenV, sizeLine_eq]; omega))
  have top : (s2.heap.push (seqObj "list" vs.toArray 0)).get? s2.heap.objs.size = some (seqObj "list" vs.toArray 0) := Heap.get?_push_size _ rfl
  have K2 : ∀ q ∈ T2, K3 (wd X) O H1 q := fun q hq => hT q (m2 q hq)
  have e : PySem.W.EachIs (IsD (wd X) O H1) vs (T2.map (·.2)) := by rw [ev]; exact each3 T2 K2
  have fin : ∀ (out : List Value), PySem.W.EachIs (IsD (wd X) O H1) out ((T2.map (·.2)).mergeSort leD) → ∃ v, Pure.pure v = (Pure.pure (Value.ref s2.heap.objs.size) : Sem Value) := fun _ _ => ⟨_, rfl⟩
  have done : ∀ (out : List Value), out.length = T2.length → PySem.W.EachIs (IsD (wd X) O H1) out ((T2.map (·.2)).mergeSort leD) → ∃ x H', Inv X pins σ H' { s2 with heap := sortedHeap (s2.heap.push (seqObj "list" vs.toArray 0)) s2.heap.objs.size vs out.toArray } ∧ RelV x (.ref s2.heap.objs.size) ∧ Q x H' := fun out ol he => by
    obtain ⟨ys, ry, hy⟩ := of_each he
    obtain ⟨c, hc2⟩ := sortedHeap_at (vs := vs) (out := out.toArray) top
    have lo : s1.heap.objs.size ≤ s2.heap.objs.size := by
      refine Nat.le_trans ?_ hz2
      exact Nat.le_of_lt (Heap.lt_size ho)
    have np : H1 s2.heap.objs.size = none := I1.hok.fresh lo
    have kk : ∀ b o, s1.heap.get? b = some o → (sortedHeap (s2.heap.push (seqObj "list" vs.toArray 0)) s2.heap.objs.size vs out.toArray).get? b = some o := fun b u z => by
      have z2 := keep b u z
      have lt := Heap.lt_size z2
      rw [sortedHeap_old (Nat.ne_of_lt lt) (by rw [size_push']; exact Nat.lt_succ_of_lt lt)]
      exact Heap.get?_push_of_some _ z2
    refine ⟨.ref s2.heap.objs.size, upd H1 s2.heap.objs.size (.lst ys), ?_, rfl, q1 T2 ys _ m2 nd2 mem2 len2 hy np⟩
    have ylen : ys.length ≤ sizeLine := by rw [ry.length, ol, sizeLine_eq]; omega
    have J : Inv X pins σ (upd H1 s2.heap.objs.size (.lst ys)) { s1 with heap := sortedHeap (s2.heap.push (seqObj "list" vs.toArray 0)) s2.heap.objs.size vs out.toArray, gens := s2.gens, drawn := s2.drawn, toks := s2.toks } :=
      I1.call (ch := []) (Un.laid kk lo np) (I1.hok.laid kk lo ⟨ylen, out, c, ry, hc2⟩) (by rw [g2]; exact I1.bare) (fun _ z => nomatch z)
    have es : ({ s2 with heap := sortedHeap (s2.heap.push (seqObj "list" vs.toArray 0)) s2.heap.objs.size vs out.toArray } : Shared) = { s1 with heap := sortedHeap (s2.heap.push (seqObj "list" vs.toArray 0)) s2.heap.objs.size vs out.toArray, gens := s2.gens, drawn := s2.drawn, toks := s2.toks } := by
      cases s2
      cases s1
      cases o2
      rfl
    rw [es]; exact J
  clear fin
  obtain ⟨sok, sdep⟩ := ok T2 m2 nd2
  rcases sok with one | ⟨al, so⟩
  · have same := sort_one1 _ one
    rw [same] at done
    have lt1 : vs.length ≤ 1 := by rw [lenV]; rw [List.length_map] at one; exact one
    refine wpAny_bind (wpAny_holding (wpAny_call_entry slot_list_sort ⟨_, top, rfl⟩ entry_list_sort (SrtO.list_sort_ord (ltv := fun _ _ => false) ⟨fun x y h => (by cases h), fun x y z _ _ => rfl⟩ top (by rw [lenV, sizeLine_eq]; omega) (fun z => absurd z (by omega)) fun out hs hb => ⟨_, rfl, ?_⟩) (args_list_sort _)))
    have eo : out = vs := perm_one hb.perm lt1
    subst eo
    exact wpAny_pure ⟨_, rfl, done out lenV e⟩
  · refine wpAny_bind (wpAny_holding (PySem.W.list_sort_data (s := { s2 with heap := s2.heap.push (seqObj "list" vs.toArray 0) }) (enc := D.py) top e ?_ al so (by rw [List.length_map, sizeLine_eq]; omega) (fun d hd => ?_) fun out ol he => ?_))
    · refine (PySem.W.each_mem e).mono fun v d hv => ?_
      obtain ⟨⟨x, rx, hx⟩, hm⟩ := hv
      obtain ⟨as, rd⟩ := L2.Dp.reads I1 d.py x v (Dp.py d x hx (sdep d hm).1) rx
      refine ⟨as, Reads.keeps (fun b u z => Heap.get?_push_of_some _ (keep b u z)) rd, fun z => ?_⟩
      obtain ⟨u, hu⟩ := reads_old rd _ z
      exact absurd (Heap.lt_size (keep _ _ hu)) (Nat.lt_irrefl _)
    · have := (sdep d hd).2
      show X.A.units + 1 + 1 + d.py.depth < cLine
      omega
    · rw [List.length_map] at ol
      exact wpAny_pure ⟨_, rfl, done out ol he⟩
@[simp] def srtKP (P : List D → Prop) : D → Prop
  | .tup ds => ∃ ks : List NestedKey, KeysL ds ks ∧ ds.length ≤ 300 ∧ (∀ ds2 : List D, (∀ d ∈ ds2, d ∈ ds) → (ds2.map keyOfD).Nodup → SrtOk ds2) ∧ ∀ ds2 : List D, (∀ d ∈ ds2, d ∈ ds) → (ds2.map keyOfD).Nodup → (∀ d ∈ ds, keyOfD d ∈ ds2.map keyOfD) → P (ds2.mergeSort leD)
  | _ => False
@[simp] def dSrtK (t : DT) : DTA := fun ρ P R => t ρ (srtKP P) R
section
variable {J : Jd} {X : Cx} {E : XK} {a : Expr} {ta : DT} {pos : Pos}
theorem df_srtSetK {p p2 pos2 : Pos} (hc : X.calm = true) (hu : X.A.units + 65 < cLine) (hg : Gl X "sorted") (hm : X.mg "sorted" = none) (hg2 : Gl X "set") (hm2 : X.mg "set" = none) (ha : DB J X E a ta)
    (he : starEach (a :: []) X.env = (false, eval a X.env) :: starEach [] X.env := by rfl) : DF J X E (.Call (.Name "sorted" p) [.Call (.Name "set" p2) [a] [] pos2] [] pos) (dSrtK ta) := by
  obtain ⟨te, p1, s1⟩ := ha.ex
  refine ⟨_, pe_srtK hc hu hg hm hg2 hm2 p1 he, fun B O H σ ρ P R Q rl x h fin => s1 B O H σ ρ _ R _ rl x h fun v H1 d x1 hv h1 => ?_⟩
  cases d with
  | tup ds =>
    obtain ⟨a, xs, rfl, t, n, r⟩ := hv.tup
    obtain ⟨ks, ⟨k1, k2⟩, few, ok, q⟩ := h1
    obtain ⟨T, rfl, rfl, hT⟩ := keys3 r k1
    rw [List.length_map] at few
    have sub : ∀ T2 : List KD3, (∀ q ∈ T2, q ∈ T) → ∀ d ∈ T2.map (·.2), d ∈ T.map (·.2) := fun T2 h d hd => by
      obtain ⟨q, hq, rfl⟩ := List.mem_map.mp hd
      exact List.mem_map.mpr ⟨q, h q hq, rfl⟩
    have kd : ∀ T2 : List KD3, (∀ q ∈ T2, q ∈ T) → (T2.map (·.2)).map keyOfD = (T2.map (·.1.2)).map some := fun T2 h => by
      rw [List.map_map, List.map_map]
      exact List.map_congr_left fun q hq => (hT q (h q hq)).2
    refine ⟨O, a, T, rfl, t.sq, hT, few, fun T2 h nd => ok _ (sub T2 h) (by rw [kd T2 h]; exact nodup_some nd), fun T2 ys p h nd mem len hy np => ?_⟩
    have x2 : Ext J.T H1 (upd H1 p (.lst ys)) := Ext.new np
    refine fin p _ _ _ (x1.trans x2) (x1.fresh np) ((rl.ext x1).free np) ((rl.ext x1).base.none np) upd_same (by rw [List.length_mergeSort, List.length_map, sizeLine_eq]; omega) (DpA.ext x2 (fun b o hb _ z => z.elim id fun e => by rw [e, np] at hb; cases hb) _ _ hy) (q (T2.map (·.2)) (sub T2 h) ?_ fun d hd => ?_)
    · rw [kd T2 h]
      exact nodup_some nd
    · obtain ⟨q, hq, rfl⟩ := List.mem_map.mp hd
      rw [kd T2 h, (hT q hq).2]
      exact List.mem_map.mpr ⟨_, (mem _).mpr (List.mem_map.mpr ⟨q, hq, rfl⟩), rfl⟩
  | _ => exact h1.elim
end
end DL
namespace DL
open PySem PySem.Spec PyProof.Rows L2
theorem ov_all : OkV [0, 1, 2, 3, 4] := ⟨by decide, by decide⟩
theorem ov_nil : OkV [] := ⟨by decide, by decide⟩
theorem sort_view {v : List Nat} (ov : OkV v) {j : Int} (j0 : 0 ≤ j) (j5 : j < 5) {ms : List Int} (h1 : ms.Pairwise (· < ·)) (h2 : ∀ k, k ∈ ms ↔ k ∈ (v.map fun i : Nat => (i : Int)) ++ [j]) : ∃ w : List Nat, ms = w.map (fun i : Nat => (i : Int)) ∧ OkV w ∧ ∀ i ∈ v, i ∈ w := by
  have rng : ∀ k ∈ ms, 0 ≤ k ∧ k < 5 := fun k hk => by
    rcases List.mem_append.mp ((h2 k).mp hk) with h | h
    · obtain ⟨i, hi, rfl⟩ := List.mem_map.mp h
      have := ov.le i hi
      omega
    · rw [List.mem_singleton] at h; omega
  have back : ∀ ms : List Int, (∀ k ∈ ms, 0 ≤ k ∧ k < 5) → (ms.map Int.toNat).map (fun i : Nat => (i : Int)) = ms := fun ms => by
    induction ms with
    | nil => intro _; rfl
    | cons k ms ih =>
      intro h
      rw [List.map_cons, List.map_cons, ih fun x hx => h x (List.mem_cons_of_mem _ hx)]
      have := (h k (by simp)).1
      congr 1
      omega
  refine ⟨ms.map Int.toNat, (back ms rng).symm, ⟨fun i hi => ?_, ?_⟩, fun i hi => ?_⟩
  · obtain ⟨k, hk, rfl⟩ := List.mem_map.mp hi
    have := rng k hk; omega
  · rw [List.pairwise_map]
    refine h1.imp_of_mem fun {a b} ha hb hab => ?_
    have := rng a ha
    have := rng b hb
    omega
  · refine List.mem_map.mpr ⟨(i : Int), (h2 _).mpr (List.mem_append_left _ (List.mem_map.mpr ⟨i, hi, rfl⟩)), ?_⟩
    omega
theorem eqD_sty (a b : Bool × Bool) : eqD (styD a) (styD b) = decide (a = b) := by
  obtain ⟨a1, a2⟩ := a
  obtain ⟨b1, b2⟩ := b
  cases a1 <;> cases a2 <;> cases b1 <;> cases b2 <;> decide +kernel
theorem inL_sty (st : Bool × Bool) (ss : List (Bool × Bool)) : inL (styD st) (ss.map styD) = decide (st ∈ ss) := by
  unfold inL
  rw [List.any_map, Bool.eq_iff_iff, List.any_eq_true, decide_eq_true_iff]
  constructor
  · rintro ⟨s, hs, e⟩
    have e : eqD (styD s) (styD st) = true := e
    rw [eqD_sty, decide_eq_true_iff] at e
    rw [← e]; exact hs
  · intro h
    refine ⟨st, h, ?_⟩
    show eqD (styD st) (styD st) = true
    rw [eqD_sty]; exact decide_eq_true rfl
theorem shn_sty (st : Bool × Bool) : shn 1 (styD st) := shn_tup fun d hd => by
  simp only [List.mem_cons, List.not_mem_nil, or_false] at hd
  rcases hd with rfl | rfl <;> exact shn_bl _
theorem shp_stys (ss : List (Bool × Bool)) : shp (.tup (ss.map styD)) = true := (shn_tup (n := 1) fun d hd => by
  obtain ⟨s, _, rfl⟩ := List.mem_map.mp hd
  exact shn_sty s).shp
/-- more = tuple(sorted(set(view + (a draw,)))) -/
theorem more_run {ρ : Rho} {v : List Nat} (ov : OkV v) (h0 : ρ[0]? = some (.val .scr)) (h1 : ρ[1]? = some (.val .town)) (h5 : ρ[5]? = some (.val (rowD v))) {P : D → Prop} {R : RX} (k : ∀ w : List Nat, OkV w → (∀ i ∈ v, i ∈ w) → P (rowD w)) :
    dTuple (dOfL (dSrtSet (dOp fAdd (dV 5) (dTup (dCons (dCall sd_law_draw (dCons (dV 0) (dCons (dV 1) (dCons (dC (.int 5)) dNil)))) dNil))))) ρ P R := by
  have v5 : v.length ≤ 5 := asc_len ov.asc fun i hi => by have := ov.le i hi; omega
  show slP ρ[5]? _
  rw [h5]
  show slP ρ[0]? _
  rw [h0]
  show slP ρ[1]? _
  rw [h1]
  refine ⟨5, rfl, ⟨by decide, by decide⟩, fun j j0 j5 => ⟨line1, ?_, ?_⟩⟩
  · rw [List.length_map]; exact ofNat_line (show v.length + 1 ≤ 1000 by omega)
  · refine ⟨(v.map fun i : Nat => (i : Int)) ++ [j], ?_, ?_, fun ms h1 h2 => ?_⟩
    · rw [List.map_append, List.map_map]; rfl
    · rw [List.length_append, List.length_map]; show v.length + 1 < 64; omega
    · obtain ⟨w, rfl, ow, hw⟩ := sort_view ov j0 j5 h1 h2
      have := k w ow hw
      rw [List.map_map]
      exact this
theorem pair_isNone (o : Option (List Nat × List Nat)) {P : D → Prop} (k : P (.bl o.isNone)) : fIsN (pairD o) .non P := isNone_D o P k
theorem pair_notNone (o : Option (List Nat × List Nat)) {P : D → Prop} (k : P (.bl o.isSome)) : fNotN (pairD o) .non P := by
  cases o <;> exact k
theorem dis_notNone (o : Option (List Nat)) {P : D → Prop} (k : P (.bl o.isSome)) : fNotN (optRow o) .non P := by
  cases o <;> exact k
/-- glances as keys of a set -/
theorem keys_gls {α : Type} (l : List Sgn) (st : Bool × Bool) (v : List Nat) (f : α → List Nat) (rs : List α) : KeysL (rs.map fun r => glsD l (f r) st v) (rs.map fun r => glsK l (f r) st v) := by
  refine ⟨fun d hd => ?_, ?_⟩
  · obtain ⟨r, _, rfl⟩ := List.mem_map.mp hd
    exact ⟨_, _, rfl, key_gls l (f r) st v⟩
  · rw [List.map_map, List.map_map]
    exact List.map_congr_left fun r _ => key_gls l (f r) st v
theorem one_ok {l : List Sgn} (ol : okL l = true) {i : Nat} (h : i < l.length) : okL [l.getD i s0] = true :=
  okL_of (show 1 ≤ 1 by decide) (show 1 ≤ 6 by decide) (fun x hx => by rw [List.mem_singleton] at hx; rw [hx]; exact okL_good ol _ (getD_mem h)) (by simp)
theorem Ss_take (l : List Sgn) {i : Nat} (h : i ≤ l.length) : D.tup (cutD (l.map Sgn.d) none (some (i : Int))) = SsD (l.take i) := by
  rw [cut_take _ (by rw [List.length_map]; exact h), ← List.map_take]; rfl
theorem Ss_drop (l : List Sgn) {i : Nat} (h : i ≤ l.length) : D.tup (cutD (l.map Sgn.d) (some (i : Int)) none) = SsD (l.drop i) := by
  rw [cut_drop _ (by rw [List.length_map]; exact h), ← List.map_drop]; rfl
theorem cut_mid (ds : List D) {a b : Nat} (ha : a ≤ b) (hb : b ≤ ds.length) : cutD ds (some (a : Int)) (some (b : Int)) = (ds.drop a).take (b - a) := by
  unfold cutD
  rw [HT.sIx_nat, HT.sIx_nat, Nat.min_eq_left hb, Nat.min_eq_left (by omega)]
theorem Ss_mid (l : List Sgn) {i : Nat} (h : i < l.length) : D.tup (cutD (l.map Sgn.d) (some (i : Int)) (some ((i : Int) + 1))) = SsD [l.getD i s0] := by
  have e : ((i : Int) + 1) = ((i + 1 : Nat) : Int) := rfl
  rw [e, cut_mid _ (by omega) (by rw [List.length_map]; omega), ← List.map_drop, ← List.map_take]
  have : (l.drop i).take (i + 1 - i) = [l.getD i s0] := by
    rw [show i + 1 - i = 1 by omega, List.drop_eq_getElem_cons h, List.getD_eq_getElem?_getD, List.getElem?_eq_getElem h]; rfl
  rw [this]; rfl
/-- signs[:i] + signs[i + 1:] -/
def cutS1 (l : List Sgn) (i : Nat) : List Sgn := l.take i ++ l.drop (i + 1)
theorem cutS1_sub (l : List Sgn) (i : Nat) : (cutS1 l i).Sublist l := by
  unfold cutS1
  have h : (l.take i ++ l.drop (i + 1)).Sublist (l.take i ++ l.drop i) := (List.Sublist.refl _).append (by
    have : l.drop (i + 1) = (l.drop i).drop 1 := by rw [List.drop_drop]
    rw [this]; exact List.drop_sublist 1 _)
  rw [List.take_append_drop] at h; exact h
theorem sub_ok {l l' : List Sgn} (ol : okL l = true) (h : l'.Sublist l) (ne : l' ≠ []) : okL l' = true := by
  have h' := ol
  unfold okL at ol
  simp only [Bool.and_eq_true] at ol
  refine okL_of ?_ (Nat.le_trans h.length_le (okL_len h').2) (fun s hm => okL_good h' s (h.subset hm)) ((asc_pw ol.2.2).sublist (h.map _))
  cases l' with
  | nil => exact absurd rfl ne
  | cons a b => simp
theorem par2_run {t u : DT} {ρ : Rho} {P : List D → Prop} {R : RX} (d e : D) (h1 : ∀ P : D → Prop, P d → t ρ P R) (h2 : ∀ P : D → Prop, P e → u ρ P R) (k : P [d, e]) : dCons t (dCons u dNil) ρ P R := h1 _ (h2 _ k)
/-- if a: if b: return v -/
theorem seq_ifchk {q q' : DTQ} {v : DT} {u : DST} {ρ : Rho} {De : DEnds} (b : Bool) (h : ∀ P : Bool → Prop, P b → q ρ P De.xc) (h1 : b = true → ∀ P : Bool → Prop, P false → q' ρ P De.xc) (k : u ρ De) : sSeq (sIf q (sIf q' (sRet v) sNext) sNext) u ρ De := by
  refine h (fun b => if b = true then _ else _) ?_
  cases b
  · exact k
  · exact h1 rfl _ k
end DL
/-! enumerate over a zip of two tuples: zip's own tuple is kept by what enumerate hands out -/
namespace EZ
open PySem
open PySem.Sem (wp)
/-- a zip object whatever its own tuple does -/
abbrev ZipB (h : Heap) (z TI TO : Addr) (f0 b0 : Value) : Prop :=
  h.get? z = some { cls := .type "zip", dict := none, data := .fields #[f0, b0, .bool false, .ref TI, .ref TO], slots := #[] }
def Own (f0 b0 : Value) : Prop := (f0 = .none ∨ ∃ a, f0 = rawInt a) ∧ ∃ b, b0 = .bool b
section
variable {prog : Program} {w : World} {A : Around} {E : Value → Shared → Prop} {s : Shared}
theorem wpAny_loadIfAlive' {M : Model} {a : Addr} {Q : Option Obj → Shared → Prop} (h : Q (s.heap.get? a) s) : wpAny M A (loadIfAlive a) Q E s := fun Γ p _ => by
  unfold loadIfAlive
  rw [Sem.wp_loadIfAlive, Sem.wp_pure]
  exact h
theorem isFree_any {z TI TO : Addr} {f0 b0 : Value} {Q : Bool → Shared → Prop} (hz : ZipB s.heap z TI TO f0 b0) (ho : Own f0 b0) (ht : Q true s)
    (hF : ∀ h' b1, ZipB h' z TI TO f0 b1 → Own f0 b1 → Heap.SameBut z s.heap h' → Q false { s with heap := h' }) : wpAny (model prog w) A (Builtin.SmallTypes.ownedTupleIsFree (.ref z)) Q E s := by
  unfold Builtin.SmallTypes.ownedTupleIsFree
  obtain ⟨hf, b, rfl⟩ := ho
  refine wpAny_bind (wpAny_field hz rfl (x := f0) rfl ?_)
  rcases hf with rfl | ⟨a, rfl⟩
  · exact wpAny_pure ht
  · show wpAny _ _ (loadIfAlive a.toNat >>= _) _ _ _
    refine wpAny_bind (wpAny_loadIfAlive' ?_)
    cases e : s.heap.get? a.toNat with
    | none => exact wpAny_pure ht
    | some o =>
      show wpAny _ _ (field (.ref z) 1 >>= _) _ _ _
      refine wpAny_bind (wpAny_field hz rfl (x := .bool b) rfl ?_)
      cases b with
      | true => exact wpAny_pure (hF s.heap _ hz ⟨.inr ⟨a, rfl⟩, _, rfl⟩ (Heap.SameBut.refl _ _))
      | false =>
        show wpAny _ _ (setField (.ref z) 1 (.bool true) >>= _) _ _ _
        refine wpAny_bind (wpAny_setField_rec hz (by simp) fun h' hz' hs' => ?_)
        exact wpAny_pure (hF h' (.bool true) hz' ⟨.inr ⟨a, rfl⟩, _, rfl⟩ hs')
theorem zip_next_item {z TI TO i1 i2 l1 l2 : Addr} {k1 k2 : Nat} {xs ys : Array Value} {x y a b f0 b0 : Value} {Q : Value → Shared → Prop} (D : ZipApart z TI TO i1 i2 l1 l2)
    (hz : ZipB s.heap z TI TO f0 b0) (ho : Own f0 b0) (hTI : IsPair s.heap TI (.ref i1) (.ref i2)) (hTO : IsPair s.heap TO a b)
    (h1 : s.heap.IsTupleIter i1 l1 k1) (h2 : s.heap.IsTupleIter i2 l2 k2) (hl1 : s.heap.IsTuple l1 xs) (hl2 : s.heap.IsTuple l2 ys) (hx : xs[k1]? = some x) (hy : ys[k2]? = some y)
    (hQ : ∀ h' f1 b1 a1 a2, ZipB h' z TI TO f1 b1 → Own f1 b1 → IsPair h' TO a1 a2 → h'.IsTupleIter i1 l1 (k1 + 1) → h'.IsTupleIter i2 l2 (k2 + 1) → IsPair h' s.heap.objs.size x y → h'.objs.size = s.heap.objs.size + 1 →
      (∀ c o, c ≠ z → c ≠ TO → c ≠ i1 → c ≠ i2 → s.heap.get? c = some o → h'.get? c = some o) → Q (.ref s.heap.objs.size) { s with heap := h' }) :
    wpAny (model prog w) A (Builtin.«zip.__next__» ⟨[.ref z], []⟩) (fun fin s' => ∃ v, fin = .done (.ret v) ∧ Q v s') E s := by
  show wpAny _ _ (field (.ref z) 2 >>= _) _ _ _
  refine wpAny_bind (wpAny_field hz rfl (x := .bool false) rfl ?_)
  show wpAny _ _ (field (.ref z) 3 >>= _) _ _ _
  refine wpAny_bind (wpAny_field hz rfl (x := .ref TI) rfl ?_)
  refine wpAny_bind (wpAny_seqItems hTI rfl ?_)
  show wpAny _ _ (Builtin.SmallTypes.ownedTupleIsFree (.ref z) >>= _) _ _ _
  refine wpAny_bind (isFree_any hz ho ?_ fun h₁ b1 hz₁ ho₁ hs₁ => ?_)
  · simp only [if_true]
    refine wpAny_bind (wpAny_rule ?_)
    refine wpAny_bind (wpAny_field hz rfl (x := .ref TO) rfl ?_)
    refine wpAny_bind (wpAny_setField_rec hz (by simp) fun h₁ hz₁ hs₁ => ?_)
    replace hz₁ : ZipB h₁ z TI TO .ellipsis b0 := hz₁
    refine wpAny_bind ?_
    simp only [List.zipIdx_cons, List.zipIdx_nil, List.forIn_cons, List.forIn_nil]
    refine wpAny_bind (wpAny_bind (wpAny_onRaise ?_))
    show wpAny _ _ (Builtin.SmallTypes.nextOf (.ref i1) >>= _) _ _ _
    refine wpAny_bind (RZ.nextOf_tuple_item (h1.extBut hs₁.extBut D.i1z) (hl1.extBut hs₁.extBut D.l1z) hx fun h₂ h1₂ hs₂ => wpAny_pure ?_)
    have hTO₂ : IsPair h₂ TO a b := hs₂.extBut _ _ D.TOi1 (hs₁.extBut _ _ D.TOz hTO)
    refine wpAny_bind (wpAny_seqItems hTO₂ rfl ?_)
    refine wpAny_bind (wpAny_updateSeq_pair hTO₂ fun h₃ hTO₃ hs₃ => ?_)
    replace hTO₃ : IsPair h₃ TO x b := hTO₃
    refine wpAny_bind (wpAny_letGo (wpAny_pure ?_))
    refine wpAny_bind (wpAny_bind (wpAny_onRaise ?_))
    show wpAny _ _ (Builtin.SmallTypes.nextOf (.ref i2) >>= _) _ _ _
    refine wpAny_bind (RZ.nextOf_tuple_item (((h2.extBut hs₁.extBut D.i2z).extBut hs₂.extBut D.i12.symm).extBut hs₃.extBut D.TOi2.symm)
      (((hl2.extBut hs₁.extBut D.l2z).extBut hs₂.extBut D.l2i1).extBut hs₃.extBut D.l2TO) hy fun h₄ h2₄ hs₄ => wpAny_pure ?_)
    have hTO₄ : IsPair h₄ TO x b := hs₄.extBut _ _ D.TOi2 hTO₃
    refine wpAny_bind (wpAny_seqItems hTO₄ rfl ?_)
    refine wpAny_bind (wpAny_updateSeq_pair hTO₄ fun h₅ hTO₅ hs₅ => ?_)
    replace hTO₅ : IsPair h₅ TO x y := hTO₅
    refine wpAny_bind (wpAny_letGo (wpAny_pure (wpAny_pure ?_)))
    refine wpAny_bind (wpAny_seqItems hTO₅ rfl ?_)
    refine wpAny_bind (wpAny_newTuple ?_)
    have hsz : h₅.objs.size = s.heap.objs.size := by rw [hs₅.1, hs₄.1, hs₃.1, hs₂.1, hs₁.1]
    have hz₅ : ZipB h₅ z TI TO .ellipsis b0 := hs₅.extBut _ _ D.TOz.symm (hs₄.extBut _ _ D.i2z.symm (hs₃.extBut _ _ D.TOz.symm (hs₂.extBut _ _ D.i1z.symm hz₁)))
    have hk₅ : ∀ c o, c ≠ z → c ≠ TO → c ≠ i1 → c ≠ i2 → s.heap.get? c = some o → h₅.get? c = some o := fun c o c1 c2 c3 c4 e =>
      hs₅.extBut _ _ c2 (hs₄.extBut _ _ c4 (hs₃.extBut _ _ c2 (hs₂.extBut _ _ c3 (hs₁.extBut _ _ c1 e))))
    have h1₅ : h₅.IsTupleIter i1 l1 (k1 + 1) := ((h1₂.extBut hs₃.extBut D.TOi1.symm).extBut hs₄.extBut D.i12).extBut hs₅.extBut D.TOi1.symm
    have h2₅ : h₅.IsTupleIter i2 l2 (k2 + 1) := h2₄.extBut hs₅.extBut D.TOi2.symm
    have hzlt : z < h₅.objs.size := Heap.lt_size hz₅
    show wpAny _ _ (Builtin.SmallTypes.ownedTupleHandOut (.ref z) (.ref h₅.objs.size) >>= _) _ _ _
    refine wpAny_bind ?_
    unfold Builtin.SmallTypes.ownedTupleHandOut
    have hz₆ : ZipB (h₅.push { cls := .type "tuple", data := .seq #[x, y] }) z TI TO .ellipsis b0 := Heap.get?_push_of_some _ hz₅
    refine wpAny_bind (wpAny_setField_rec hz₆ (by simp) fun h₇ hz₇ hs₇ => ?_)
    replace hz₇ : ZipB h₇ z TI TO (rawInt h₅.objs.size) b0 := hz₇
    refine wpAny_setField_rec hz₇ (by simp) fun h₈ hz₈ hs₈ => ?_
    replace hz₈ : ZipB h₈ z TI TO (rawInt h₅.objs.size) (.bool false) := hz₈
    have up : ∀ c o, c ≠ z → h₅.get? c = some o → h₈.get? c = some o := fun c o c1 e => hs₈.extBut _ _ c1 (hs₇.extBut _ _ c1 (Heap.get?_push_of_some _ e))
    have hT₈ : IsPair h₈ h₅.objs.size x y := hs₈.extBut _ _ (Nat.ne_of_gt hzlt) (hs₇.extBut _ _ (Nat.ne_of_gt hzlt) (Heap.get?_push_size _ rfl))
    have hz8 : h₈.objs.size = h₅.objs.size + 1 := by rw [hs₈.1, hs₇.1, Heap.size_push]
    rw [hsz] at hz₈ hT₈ hz8
    refine wpAny_pure ⟨_, rfl, ?_⟩
    show Q (.ref h₅.objs.size) _
    rw [hsz]
    exact hQ h₈ _ _ _ _ hz₈ ⟨.inr ⟨_, rfl⟩, _, rfl⟩ (up _ _ D.TOz hTO₅) (h1₅.at fun o e => up _ o D.i1z e) (h2₅.at fun o e => up _ o D.i2z e) hT₈ hz8 fun c o c1 c2 c3 c4 e => up c o c1 (hk₅ c o c1 c2 c3 c4 e)
  · simp only [Bool.false_eq_true, if_false, ↓reduceIte]
    refine wpAny_bind ?_
    simp only [List.forIn_toArray, List.forIn_cons, List.forIn_nil]
    refine wpAny_bind (wpAny_bind (wpAny_holding ?_))
    show wpAny _ _ (Builtin.SmallTypes.nextOf (.ref i1) >>= _) _ _ _
    refine wpAny_bind (RZ.nextOf_tuple_item (h1.extBut hs₁.extBut D.i1z) (hl1.extBut hs₁.extBut D.l1z) hx fun h₂ h1₂ hs₂ => wpAny_pure (wpAny_pure ?_))
    refine wpAny_bind (wpAny_bind (wpAny_holding ?_))
    show wpAny _ _ (Builtin.SmallTypes.nextOf (.ref i2) >>= _) _ _ _
    refine wpAny_bind (RZ.nextOf_tuple_item ((h2.extBut hs₁.extBut D.i2z).extBut hs₂.extBut D.i12.symm) ((hl2.extBut hs₁.extBut D.l2z).extBut hs₂.extBut D.l2i1) hy fun h₄ h2₄ hs₄ => wpAny_pure (wpAny_pure (wpAny_pure ?_)))
    show wpAny _ _ (newTuple [x, y] >>= _) _ _ _
    refine wpAny_bind (wpAny_newTuple (wpAny_pure ⟨_, rfl, ?_⟩))
    have hsz : h₄.objs.size = s.heap.objs.size := by rw [hs₄.1, hs₂.1, hs₁.1]
    have hz₄ : ZipB h₄ z TI TO f0 b1 := hs₄.extBut _ _ D.i2z.symm (hs₂.extBut _ _ D.i1z.symm hz₁)
    have up : ∀ c o, h₄.get? c = some o → (h₄.push { cls := .type "tuple", data := .seq #[x, y] }).get? c = some o := fun c o e => Heap.get?_push_of_some _ e
    show Q (.ref h₄.objs.size) _
    rw [hsz]
    refine hQ (h₄.push { cls := .type "tuple", data := .seq #[x, y] }) f0 b1 a b (up _ _ hz₄) ho₁ (up _ _ (hs₄.extBut _ _ D.TOi2 (hs₂.extBut _ _ D.TOi1 (hs₁.extBut _ _ D.TOz hTO)))) ((h1₂.extBut hs₄.extBut D.i12).at fun o e => up _ o e) (h2₄.at fun o e => up _ o e) ?_ (by rw [Heap.size_push, hsz]) fun c o c1 c2 c3 c4 e => up c o (hs₄.extBut _ _ c4 (hs₂.extBut _ _ c3 (hs₁.extBut _ _ c1 e)))
    rw [← hsz]
    exact Heap.get?_push_size _ rfl
theorem zip_next_end {z TI TO i1 i2 l1 l2 : Addr} {k1 k2 : Nat} {xs ys : Array Value} {a b f0 b0 : Value} {Q : Fin → Shared → Prop} (hh : A.handled = none) (D : ZipApart z TI TO i1 i2 l1 l2)
    (hz : ZipB s.heap z TI TO f0 b0) (ho : Own f0 b0) (hTI : IsPair s.heap TI (.ref i1) (.ref i2)) (hTO : IsPair s.heap TO a b)
    (h1 : s.heap.IsTupleIter i1 l1 k1) (h2 : s.heap.IsTupleIter i2 l2 k2) (hl1 : s.heap.IsTuple l1 xs) (hl2 : s.heap.IsTuple l2 ys) (hend : xs[k1]? = none ∨ ys[k2]? = none)
    (hE : ∀ h' e, (∀ c o, c ≠ z → c ≠ TO → c ≠ i1 → c ≠ i2 → s.heap.get? c = some o → h'.get? c = some o) → (∃ o, h'.get? e = some o ∧ o.cls = .type "StopIteration") → E (.ref e) { s with heap := h' }) :
    wpAny (model prog w) A (Builtin.«zip.__next__» ⟨[.ref z], []⟩) Q E s := by
  show wpAny _ _ (field (.ref z) 2 >>= _) _ _ _
  refine wpAny_bind (wpAny_field hz rfl (x := .bool false) rfl ?_)
  show wpAny _ _ (field (.ref z) 3 >>= _) _ _ _
  refine wpAny_bind (wpAny_field hz rfl (x := .ref TI) rfl ?_)
  refine wpAny_bind (wpAny_seqItems hTI rfl ?_)
  show wpAny _ _ (Builtin.SmallTypes.ownedTupleIsFree (.ref z) >>= _) _ _ _
  refine wpAny_bind (isFree_any hz ho ?_ fun h₁ b1 hz₁ ho₁ hs₁ => ?_)
  · simp only [if_true]
    refine wpAny_bind (wpAny_rule ?_)
    refine wpAny_bind (wpAny_field hz rfl (x := .ref TO) rfl ?_)
    refine wpAny_bind (wpAny_setField_rec hz (by simp) fun h₁ hz₁ hs₁ => ?_)
    replace hz₁ : ZipB h₁ z TI TO .ellipsis b0 := hz₁
    refine wpAny_bind ?_
    simp only [List.zipIdx_cons, List.zipIdx_nil, List.forIn_cons, List.forIn_nil]
    refine wpAny_bind (wpAny_bind (wpAny_onRaise ?_))
    show wpAny _ _ (Builtin.SmallTypes.nextOf (.ref i1) >>= _) _ _ _
    cases hx : xs[k1]? with
    | none =>
      refine wpAny_bind (RZ.nextOf_tuple_end hh (h1.extBut hs₁.extBut D.i1z) (hl1.extBut hs₁.extBut D.l1z) hx fun h₂ e hs₂ he => ?_)
      obtain ⟨oe, hoe, hce⟩ := he
      have hz₂ : ZipB h₂ z TI TO .ellipsis b0 := hs₂ _ _ D.i1z.symm hz₁
      have hez : e ≠ z := fun x => by subst x; rw [hz₂] at hoe; cases hoe; simp at hce
      refine wpAny_setField_rec hz₂ (by simp) fun h₃ _ hs₃ => hE h₃ e (fun c o c1 _ c3 _ x => hs₃.extBut _ _ c1 (hs₂ _ _ c3 (hs₁.extBut _ _ c1 x))) ⟨oe, hs₃.extBut _ _ hez hoe, hce⟩
    | some x =>
      have hy : ys[k2]? = none := by rcases hend with h | h; rw [hx] at h; cases h; exact h
      refine wpAny_bind (RZ.nextOf_tuple_item (h1.extBut hs₁.extBut D.i1z) (hl1.extBut hs₁.extBut D.l1z) hx fun h₂ h1₂ hs₂ => wpAny_pure ?_)
      have hTO₂ : IsPair h₂ TO a b := hs₂.extBut _ _ D.TOi1 (hs₁.extBut _ _ D.TOz hTO)
      refine wpAny_bind (wpAny_seqItems hTO₂ rfl ?_)
      refine wpAny_bind (wpAny_updateSeq_pair hTO₂ fun h₃ hTO₃ hs₃ => ?_)
      refine wpAny_bind (wpAny_letGo (wpAny_pure ?_))
      refine wpAny_bind (wpAny_bind (wpAny_onRaise ?_))
      show wpAny _ _ (Builtin.SmallTypes.nextOf (.ref i2) >>= _) _ _ _
      refine wpAny_bind (RZ.nextOf_tuple_end hh (((h2.extBut hs₁.extBut D.i2z).extBut hs₂.extBut D.i12.symm).extBut hs₃.extBut D.TOi2.symm)
        (((hl2.extBut hs₁.extBut D.l2z).extBut hs₂.extBut D.l2i1).extBut hs₃.extBut D.l2TO) hy fun h₄ e hs₄ he => ?_)
      obtain ⟨oe, hoe, hce⟩ := he
      have hz₄ : ZipB h₄ z TI TO .ellipsis b0 := hs₄ _ _ D.i2z.symm (hs₃.extBut _ _ D.TOz.symm (hs₂.extBut _ _ D.i1z.symm hz₁))
      have hez : e ≠ z := fun x => by subst x; rw [hz₄] at hoe; cases hoe; simp at hce
      refine wpAny_setField_rec hz₄ (by simp) fun h₅ _ hs₅ => hE h₅ e (fun c o c1 c2 c3 c4 x => hs₅.extBut _ _ c1 (hs₄ _ _ c4 (hs₃.extBut _ _ c2 (hs₂.extBut _ _ c3 (hs₁.extBut _ _ c1 x))))) ⟨oe, hs₅.extBut _ _ hez hoe, hce⟩
  · simp only [Bool.false_eq_true, if_false, ↓reduceIte]
    refine wpAny_bind ?_
    simp only [List.forIn_toArray, List.forIn_cons, List.forIn_nil]
    refine wpAny_bind (wpAny_bind (wpAny_holding ?_))
    show wpAny _ _ (Builtin.SmallTypes.nextOf (.ref i1) >>= _) _ _ _
    cases hx : xs[k1]? with
    | none =>
      refine wpAny_bind (RZ.nextOf_tuple_end hh (h1.extBut hs₁.extBut D.i1z) (hl1.extBut hs₁.extBut D.l1z) hx fun h₂ e hs₂ he => ?_)
      exact hE h₂ e (fun c o c1 _ c3 _ x => hs₂ _ _ c3 (hs₁.extBut _ _ c1 x)) he
    | some x =>
      have hy : ys[k2]? = none := by rcases hend with h | h; rw [hx] at h; cases h; exact h
      refine wpAny_bind (RZ.nextOf_tuple_item (h1.extBut hs₁.extBut D.i1z) (hl1.extBut hs₁.extBut D.l1z) hx fun h₂ h1₂ hs₂ => wpAny_pure (wpAny_pure ?_))
      refine wpAny_bind (wpAny_bind (wpAny_holding ?_))
      show wpAny _ _ (Builtin.SmallTypes.nextOf (.ref i2) >>= _) _ _ _
      refine wpAny_bind (RZ.nextOf_tuple_end hh ((h2.extBut hs₁.extBut D.i2z).extBut hs₂.extBut D.i12.symm) ((hl2.extBut hs₁.extBut D.l2z).extBut hs₂.extBut D.l2i1) hy fun h₄ e hs₄ he => ?_)
      exact hE h₄ e (fun c o c1 c2 c3 c4 x => hs₄ _ _ c4 (hs₂.extBut _ _ c3 (hs₁.extBut _ _ c1 x))) he
/-- nextOf of a zip -/
theorem nextOf_zip {z TI TO : Addr} {f0 b0 : Value} {Q : Value → Shared → Prop} (hz : ZipB s.heap z TI TO f0 b0)
    (h : wpAny (model prog w) A.in1 (Builtin.«zip.__next__» ⟨[.ref z], []⟩) (fun fin s' => ∃ v, fin = .done (.ret v) ∧ Q v s') E s) : wpAny (model prog w) A (Builtin.SmallTypes.nextOf (.ref z)) Q E s := by
  have hT : s.TypeIs (.ref z) "zip" := ⟨_, hz, rfl⟩
  unfold Builtin.SmallTypes.nextOf
  refine wpAny_bind (wpAny_callSpecial?_slot (name := Str.ofString "__next__") hT F.slot_zip_next
    (wpAny_call_entry F.slot_zip_next hT F.entry_zip_next (wpAny_mono h (fun _ _ ⟨v, e, q⟩ => ⟨v, e, wpAny_pure q⟩) fun _ _ x => x) (F.args_zip_next_1 _)))
end
end EZ
/-! enumerate over a zip of two tuples -/
namespace EZ
open PySem
open PySem.Sem (wp)
open AutoSeq1 (wpAny_loadPart')
section
variable {prog : Program} {w : World} {A : Around} {E : Value → Shared → Prop} {s : Shared}
/-- enumerate's next, whatever is next in it -/
theorem enum_next_any {e z : Addr} {i : Int} {old : Value} {Q : Value → Shared → Prop} (he : IsEnum s.heap e z i old)
    (hn : wpAny (model prog w) A (Builtin.SmallTypes.nextOf (.ref z)) (fun x s1 => IsEnum s1.heap e z i old ∧ ∀ h', IsEnumOut h' e z (i + 1) x s1.heap.objs.size →
      h'.get? s1.heap.objs.size = some { cls := .type "tuple", data := .seq #[.int i s1.toks, x] } → h'.objs.size = s1.heap.objs.size + 1 →
      (∀ b o, b ≠ e → s1.heap.get? b = some o → h'.get? b = some o) → Q (.ref s1.heap.objs.size) { s1 with heap := h', toks := s1.toks + 1 }) E s) :
    wpAny (model prog w) A (Builtin.«enumerate.__next__» ⟨[.ref e], []⟩) (fun fin s' => ∃ v, fin = .done (.ret v) ∧ Q v s') E s := by
  show wpAny _ _ (field (.ref e) 2 >>= _) _ _ _
  refine wpAny_bind (wpAny_field he rfl (x := .ref z) rfl ?_)
  refine wpAny_bind (wpAny_mono hn (fun x s1 q => ?_) fun _ _ q => q)
  obtain ⟨h₁, g, d, tk, os⟩ := s1
  obtain ⟨he₁, hQ⟩ := q
  show wpAny _ _ (field (.ref e) 3 >>= _) _ _ ⟨h₁, g, d, tk, os⟩
  refine wpAny_bind (wpAny_field he₁ rfl (x := rawInt i) rfl ?_)
  show wpAny _ _ (field (.ref e) 4 >>= _) _ _ ⟨h₁, g, d, tk, os⟩
  refine wpAny_bind (wpAny_field he₁ rfl (x := .none) rfl ?_)
  show wpAny _ _ (mkInt i >>= _) _ _ ⟨h₁, g, d, tk, os⟩
  refine wpAny_bind (wpAny_mkInt ?_)
  show wpAny _ _ (setField (.ref e) 3 (rawInt (i + 1)) >>= _) _ _ ⟨h₁, g, d, tk + 1, os⟩
  refine wpAny_bind (wpAny_setField_rec he₁ (by simp) fun h₂ he₂ hs₂ => ?_)
  replace hs₂ : Heap.SameBut e h₁ h₂ := hs₂
  replace he₂ : IsEnum h₂ e z (i + 1) old := he₂
  show wpAny _ _ (setField (.ref e) 4 .none >>= _) _ _ ⟨h₂, g, d, tk + 1, os⟩
  refine wpAny_bind (wpAny_setField_rec he₂ (by simp) fun h₃ he₃ hs₃ => ?_)
  replace hs₃ : Heap.SameBut e h₂ h₃ := hs₃
  replace he₃ : IsEnum h₃ e z (i + 1) old := he₃
  show wpAny _ _ (newTuple [.int i tk, x] >>= _) _ _ ⟨h₃, g, d, tk + 1, os⟩
  refine wpAny_bind (wpAny_newTuple ?_)
  have he₄ : IsEnum (h₃.push { cls := .type "tuple", data := .seq #[.int i tk, x] }) e z (i + 1) old := Heap.get?_push_of_some _ he₃
  generalize hh₄ : h₃.push { cls := .type "tuple", data := .seq #[.int i tk, x] } = h₄ at he₄
  have hsz : h₃.objs.size = h₁.objs.size := by rw [hs₃.1, hs₂.1]
  have hel : e < h₁.objs.size := Heap.lt_size he₁
  have ht₄ : h₄.get? h₁.objs.size = some { cls := .type "tuple", data := .seq #[.int i tk, x] } := by rw [← hh₄, ← hsz]; exact Heap.get?_push_size _ rfl
  have hz₄ : h₄.objs.size = h₁.objs.size + 1 := by rw [← hh₄, Heap.size_push, hsz]
  have hk₄ : ∀ b o, b ≠ e → h₁.get? b = some o → h₄.get? b = some o := fun b o hbe hb => by
    rw [← hh₄]; exact Heap.get?_push_of_some _ (hs₃.extBut b o hbe (hs₂.extBut b o hbe hb))
  show wpAny _ _ (Builtin.SmallTypes.ownedTupleIsFree (.ref e) >>= _) _ _ ⟨h₄, g, d, tk + 1, os⟩
  rw [hsz]
  clear hh₄ he₃ hs₃ he₂ hs₂ he₁ hsz h₃ h₂
  refine wpAny_bind ?_
  unfold Builtin.SmallTypes.ownedTupleIsFree
  refine wpAny_bind (wpAny_field he₄ rfl (x := .none) rfl (wpAny_pure ?_))
  simp only [if_true]
  refine wpAny_bind (wpAny_rule ?_)
  refine wpAny_bind (wpAny_field he₄ rfl (x := old) rfl ?_)
  refine wpAny_bind (wpAny_setField_rec he₄ (by simp) fun h₅ he₅ hs₅ => ?_)
  replace hs₅ : Heap.SameBut e h₄ h₅ := hs₅
  replace he₅ : IsEnum h₅ e z (i + 1) x := he₅
  show wpAny _ _ (Builtin.SmallTypes.ownedTupleHandOut (.ref e) (.ref h₁.objs.size) >>= _) _ _ ⟨h₅, g, d, tk + 1, os⟩
  refine wpAny_bind ?_
  unfold Builtin.SmallTypes.ownedTupleHandOut
  refine wpAny_bind (wpAny_setField_rec he₅ (by simp) fun h₆ he₆ hs₆ => ?_)
  replace hs₆ : Heap.SameBut e h₅ h₆ := hs₆
  replace he₆ : IsEnumOut h₆ e z (i + 1) x h₁.objs.size := he₆
  refine wpAny_setField_rec he₆ (by simp) fun h₇ he₇ hs₇ => ?_
  replace hs₇ : Heap.SameBut e h₆ h₇ := hs₇
  replace he₇ : IsEnumOut h₇ e z (i + 1) x h₁.objs.size := he₇
  refine wpAny_bind (wpAny_letGo (wpAny_pure ⟨_, rfl, hQ h₇ he₇ ?_ ?_ ?_⟩))
  · exact hs₇.extBut _ _ (Nat.ne_of_gt hel) (hs₆.extBut _ _ (Nat.ne_of_gt hel) (hs₅.extBut _ _ (Nat.ne_of_gt hel) ht₄))
  · show h₇.objs.size = h₁.objs.size + 1
    rw [hs₇.1, hs₆.1, hs₅.1, hz₄]
  · exact fun b o hbe hb => hs₇.extBut b o hbe (hs₆.extBut b o hbe (hs₅.extBut b o hbe (hk₄ b o hbe hb)))
theorem pyNext_enum_item {e z : Addr} {i : Int} {old : Value} {Q : Option Value → Shared → Prop} (he : IsEnum s.heap e z i old)
    (hn : wpAny (model prog w) A.in1 (Builtin.SmallTypes.nextOf (.ref z)) (fun x s1 => IsEnum s1.heap e z i old ∧ ∀ h', IsEnumOut h' e z (i + 1) x s1.heap.objs.size →
      h'.get? s1.heap.objs.size = some { cls := .type "tuple", data := .seq #[.int i s1.toks, x] } → h'.objs.size = s1.heap.objs.size + 1 →
      (∀ b o, b ≠ e → s1.heap.get? b = some o → h'.get? b = some o) → Q (some (.ref s1.heap.objs.size)) { s1 with heap := h', toks := s1.toks + 1 }) (fun _ _ => False) s) : wpAny (model prog w) A (pyNext (.ref e)) Q E s := by
  have hT : s.TypeIs (.ref e) "enumerate" := ⟨_, he, rfl⟩
  unfold pyNext
  refine wpAny_bind (wpAny_attempt (wpAny_callSpecial?_slot (name := Str.ofString "__next__") hT F.slot_enumerate_next
    (wpAny_call_entry F.slot_enumerate_next hT F.entry_enumerate_next ?_ (F.args_enumerate_next_1 _))))
  refine enum_next_any he ?_
  refine wpAny_mono hn (fun x s1 q => ⟨q.1, fun h' a b c d => wpAny_pure (q.2 h' a b c d)⟩) fun _ _ f => f.elim
theorem pyNext_enum_end {e z : Addr} {i : Int} {old : Value} {Q : Option Value → Shared → Prop} (he : IsEnum s.heap e z i old)
    (hn : wpAny (model prog w) A.in1 (Builtin.SmallTypes.nextOf (.ref z)) (fun _ _ => False) (fun x s1 => ∃ a o, x = .ref a ∧ s1.heap.get? a = some o ∧ o.cls = .type "StopIteration" ∧ Q none s1) s) : wpAny (model prog w) A (pyNext (.ref e)) Q E s := by
  have hT : s.TypeIs (.ref e) "enumerate" := ⟨_, he, rfl⟩
  unfold pyNext
  refine wpAny_bind (wpAny_attempt (wpAny_callSpecial?_slot (name := Str.ofString "__next__") hT F.slot_enumerate_next
    (wpAny_call_entry F.slot_enumerate_next hT F.entry_enumerate_next ?_ (F.args_enumerate_next_1 _))))
  show wpAny _ _ (field (.ref e) 2 >>= _) _ _ _
  refine wpAny_bind (wpAny_field he rfl (x := .ref z) rfl ?_)
  refine wpAny_bind (wpAny_mono hn (fun _ _ f => f.elim) fun x s1 q => ?_)
  obtain ⟨a, o, rfl, ho, hc, q⟩ := q
  exact wpAny_bind (wpAny_isInstance (T := "StopIteration") (b := true) ⟨o, ho, hc⟩ isSubtype_stop (wpAny_pure q))
theorem enumerate_newZ (z TI TO : Addr) :
    Meets (Builtin.«enumerate.__new__» ⟨[.type "enumerate", .ref z], []⟩) (fun _ R s => IsZip s.heap z TI TO .none ∧
      R (.ok (.ret (.ref s.heap.objs.size))) { s with heap := s.heap.push { cls := .type "enumerate", data := .fields #[.none, .bool false, .ref z, rawInt 0, .none, .none] } }) :=
  .of_wp fun prog w A R s h => by
    obtain ⟨hp, g, d, tk, os⟩ := s; obtain ⟨hl, h⟩ := h
    have hsub := sub_enumerate
    wp_walk using wpAny_loadPart' hl
    refine wpAny_stack_any fun st => wpAny_pure ?_
    split
    · rename_i c _ _ _ _ _
      cases (c == Value.type "enumerate")
      · wp_walk using wpAny_loadPart' hl, wpAny_pyIter_zip hl
        exact ⟨_, rfl, h⟩
      · wp_walk using wpAny_loadPart' hl, wpAny_pyIter_zip hl
        exact ⟨_, rfl, h⟩
    · wp_walk using wpAny_loadPart' hl, wpAny_pyIter_zip hl
      exact ⟨_, rfl, h⟩
theorem call_enumerate_zip {z TI TO : Addr} {Q : Value → Shared → Prop} (hz : IsZip s.heap z TI TO .none)
    (h : ∀ h', IsEnum h' s.heap.objs.size z 0 .none → h'.objs.size = s.heap.objs.size + 1 → (∀ b o, s.heap.get? b = some o → h'.get? b = some o) → Q (.ref s.heap.objs.size) { s with heap := h' }) :
    wpAny (model prog w) A (call (.type "enumerate") [.ref z]) Q E s := by
  refine callType_new F.called_enumerate (by decide) (F.typeCall_enumerate_1 _) (F.newCall_enumerate_1 _) (fun obj => F.args_object_init_2 obj _) F.entry_enumerate_new
    (enumerate_newZ z TI TO) ⟨hz, ?_⟩
  have he : IsEnum (s.heap.push { cls := .type "enumerate", data := .fields #[.none, .bool false, .ref z, rawInt 0, .none, .none] }) s.heap.objs.size z 0 .none := Heap.get?_push_size _ rfl
  exact ⟨⟨_, he, rfl⟩, h _ he (Heap.size_push ..) fun b o x => Heap.get?_push_of_some _ x⟩
end
end EZ
/-! for at, (x, y) in enumerate(zip(xs, ys)) -/
namespace DL
open PySem PySem.Spec PyProof.Rows L2
def IteZ (K : PySem.W.Frag) (a b : Addr) : It :=
  ⟨fun i H => ∃ (xs ys : List V) (x y : V), SqT K H a xs ∧ SqT K H b ys ∧ xs[i]? = some x ∧ ys[i]? = some y,
    fun i H v H' => ∃ T1 T2 x y, v = .ref T2 ∧ H T1 = none ∧ H T2 = none ∧ T2 ≠ T1 ∧ H' = upd (upd H T1 (.tup [x, y])) T2 (.tup [.int (i : Nat), .ref T1]) ∧ (∀ xs, SqT K H a xs → xs[i]? = some x) ∧ ∀ ys, SqT K H b ys → ys[i]? = some y,
    fun i H => ∃ xs ys : List V, SqT K H a xs ∧ SqT K H b ys ∧ (xs.length ≤ i ∨ ys.length ≤ i)⟩
theorem fpOk_upd {X : Cx} {pins : List (Addr × Obj)} {H : Hp} {b T : Addr} {o : HO} (h : FpOk X pins H b) (n : b ≠ T) : FpOk X pins (upd H T o) b := ⟨by rw [upd_ne n]; exact h.1, h.2⟩
theorem turn_enumZ {P : Program} {w : World} {K : PySem.W.Frag} {elts : List Expr} {kk : Nat} {tpos : Pos} {a b z TI TO i1 i2 e : Addr} (D : ZipApart z TI TO i1 i2 a b) (ez : e ≠ z) (eTI : e ≠ TI) (eTO : e ≠ TO) (e1 : e ≠ i1) (e2 : e ≠ i2) :
    Turn P w K (.Tuple elts kk tpos) (IteZ K a b) [e, z, TI, TO, i1, i2] e (fun i h => (∃ old, IsEnum h e z ((i : Nat) : Int) old) ∧ (∃ f0 b0, EZ.ZipB h z TI TO f0 b0 ∧ EZ.Own f0 b0) ∧ IsPair h TI (.ref i1) (.ref i2) ∧ (∃ x y, IsPair h TO x y) ∧ h.IsTupleIter i1 a i ∧ h.IsTupleIter i2 b i) where
  mem := by simp
  obj := fun i h st c hc => by
    obtain ⟨⟨old, he⟩, ⟨f0, b0, hz, _⟩, hTI, ⟨x, y, hTO⟩, ⟨o1, q1, _, d1⟩, ⟨o2, q2, _, d2⟩⟩ := st
    have e' : c = e ∨ c = z ∨ c = TI ∨ c = TO ∨ c = i1 ∨ c = i2 := by simpa using hc
    rcases e' with q | q | q | q | q | q
    · rw [q]; exact ⟨_, he, fun v q => nomatch q⟩
    · rw [q]; exact ⟨_, hz, fun v q => nomatch q⟩
    · rw [q]; exact ⟨_, hTI, fun v q => nomatch q⟩
    · rw [q]; exact ⟨_, hTO, fun v q => nomatch q⟩
    · rw [q]; exact ⟨o1, q1, fun v q => by rw [d1] at q; cases q⟩
    · rw [q]; exact ⟨o2, q2, fun v q => by rw [d2] at q; cases q⟩
  keep := fun i h h' st k => by
    obtain ⟨⟨old, he⟩, ⟨f0, b0, hz, ho⟩, hTI, ⟨x, y, hTO⟩, h1, h2⟩ := st
    exact ⟨⟨old, k e (by simp) _ he⟩, ⟨f0, b0, k z (by simp) _ hz, ho⟩, k TI (by simp) _ hTI, ⟨x, y, k TO (by simp) _ hTO⟩, h1.at fun o q => k i1 (by simp) o q, h2.at fun o q => k i2 (by simp) o q⟩
  item := by
    intro X hP hw hK hc i pins s σ H E I hf st hg
    subst hP hw hK
    obtain ⟨⟨old, he⟩, ⟨f0, b0, hz, ho⟩, hTI, ⟨x0, y0, hTO⟩, h1, h2⟩ := st
    obtain ⟨xs, ys, x, y, hqx, hqy, hx, hy⟩ := hg
    obtain ⟨its, rv, p, _⟩ := I.tuple hqx
    obtain ⟨its2, rv2, p2, _⟩ := I.tuple hqy
    obtain ⟨u, hu, ru⟩ := rv.get hx
    obtain ⟨u2, hu2, ru2⟩ := rv2.get hy
    have hlt : ∀ c ∈ [e, z, TI, TO, i1, i2], c < s.heap.objs.size := fun c hcm => by
      have e' : c = e ∨ c = z ∨ c = TI ∨ c = TO ∨ c = i1 ∨ c = i2 := by simpa using hcm
      rcases e' with q | q | q | q | q | q
      · rw [q]; exact Heap.lt_size he
      · rw [q]; exact Heap.lt_size hz
      · rw [q]; exact Heap.lt_size hTI
      · rw [q]; exact Heap.lt_size hTO
      · rw [q]; obtain ⟨_, q1, _⟩ := h1; exact Heap.lt_size q1
      · rw [q]; obtain ⟨_, q1, _⟩ := h2; exact Heap.lt_size q1
    refine EZ.pyNext_enum_item he (EZ.nextOf_zip hz (EZ.zip_next_item D hz ho hTI hTO h1 h2 p p2 (x := u) (y := u2) (by simpa using hu) (by simpa using hu2) fun h' f1 b1 a1 a2 z' ho' TO' h1' h2' hT hsz hk => ?_))
    refine ⟨hk e _ ez eTO e1 e2 he, fun g2 he2 hT2 hsz2 hk2 => ⟨_, rfl, wpAny_letOwnedTupleGo_enum (s := { s with heap := g2, toks := s.toks + 1 }) he2 fun h3 he3 sb => ?_⟩⟩
    have hsz : h'.objs.size = s.heap.objs.size + 1 := hsz
    have hT2 : g2.get? h'.objs.size = some { cls := .type "tuple", data := .seq #[.int i s.toks, .ref s.heap.objs.size] } := hT2
    have hk2 : ∀ b o, b ≠ e → h'.get? b = some o → g2.get? b = some o := hk2
    have sb : Heap.SameBut e g2 h3 := sb
    have hT1 : s.heap.objs.size < h'.objs.size := by rw [hsz]; exact Nat.lt_succ_self _
    have hk3 : ∀ b o, b ≠ e → h'.get? b = some o → h3.get? b = some o := fun b o n q => sb.extBut b o n (hk2 b o n q)
    have hel := hlt e (by simp)
    -- the zip's pair
    have new1 : ObjOk X.prog X.w (upd H s.heap.objs.size (.tup [x, y])) h' s.heap.objs.size (.tup [x, y]) :=
      ⟨by show 2 ≤ sizeLine; decide, [u, u2], .cons ru (.cons ru2 .nil), ⟨_, hT, rfl, _, rfl⟩⟩
    have I1 : Inv X pins σ (upd H s.heap.objs.size (.tup [x, y])) { s with heap := h', toks := s.toks } :=
      I.turnedNew (t' := s.toks) (ch := [z, TI, TO, i1, i2]) (fun c o hb q => hk c o (fun q' => hb (by simp [q'])) (fun q' => hb (by simp [q'])) (fun q' => hb (by simp [q'])) (fun q' => hb (by simp [q'])) q)
        (fun c hcm => hf c (by simp only [List.mem_cons] at hcm ⊢; exact .inr hcm)) (Nat.le_refl _) new1
    -- enumerate's pair
    have hTe : h3.get? h'.objs.size = some { cls := .type "tuple", data := .seq #[.int i s.toks, .ref s.heap.objs.size] } := (sb.2 _ (Nat.ne_of_gt (Nat.lt_trans hel hT1))).trans hT2
    have new2 : ObjOk X.prog X.w (upd (upd H s.heap.objs.size (.tup [x, y])) h'.objs.size (.tup [.int (i : Nat), .ref s.heap.objs.size])) h3 h'.objs.size (.tup [.int (i : Nat), .ref s.heap.objs.size]) :=
      ⟨by show 2 ≤ sizeLine; decide, [.int i s.toks, .ref s.heap.objs.size], .cons ⟨_, rfl⟩ (.cons rfl .nil), ⟨_, hTe, rfl, _, rfl⟩⟩
    have I2 : Inv X pins σ (upd (upd H s.heap.objs.size (.tup [x, y])) h'.objs.size (.tup [.int (i : Nat), .ref s.heap.objs.size])) { s with heap := h3, toks := s.toks + 1 } :=
      I1.turnedNew (t' := s.toks + 1) (ch := [e]) (fun c o hb q => hk3 c o (fun q' => hb (by simp [q'])) q)
        (fun c hcm => by have q : c = e := by simpa using hcm
                         rw [q]; exact fpOk_upd (hf e (by simp)) (Nat.ne_of_lt hel)) (Nat.le_refl _) new2
    refine ⟨.ref h'.objs.size, _, I2, rfl, ⟨s.heap.objs.size, h'.objs.size, x, y, rfl, I.hok.fresh (Nat.le_refl _), I.hok.fresh (Nat.le_of_lt hT1), Nat.ne_of_gt hT1, rfl, fun l hl => by rw [I.tuple_inj hl hqx]; exact hx, fun l hl => by rw [I.tuple_inj hl hqy]; exact hy⟩, ⟨⟨.ref s.heap.objs.size, ?_⟩, ⟨f1, b1, hk3 z _ ez.symm z', ho'⟩, ?_, ⟨a1, a2, hk3 TO _ eTO.symm TO'⟩, ?_, ?_⟩, fun c hcm => ?_⟩
    · have q1 : ((i + 1 : Nat) : Int) = (i : Int) + 1 := by omega
      rw [q1]; exact he3
    · exact hk3 TI _ eTI.symm (hk _ _ D.TIz D.TITO D.TIi1 D.TIi2 hTI)
    · exact h1'.at fun o q => hk3 i1 o e1.symm q
    · exact h2'.at fun o q => hk3 i2 o e2.symm q
    · have hl := hlt c hcm
      rw [upd_ne (Nat.ne_of_lt (Nat.lt_trans hl hT1)), upd_ne (Nat.ne_of_lt hl)]
      exact (hf c hcm).1
  done := by
    intro X hP hw hK hc i pins s σ H E I hf st hg
    subst hP hw hK
    obtain ⟨⟨old, he⟩, ⟨f0, b0, hz, ho⟩, hTI, ⟨x0, y0, hTO⟩, h1, h2⟩ := st
    obtain ⟨xs, ys, hqx, hqy, hend⟩ := hg
    obtain ⟨its, rv, p, _⟩ := I.tuple hqx
    obtain ⟨its2, rv2, p2, _⟩ := I.tuple hqy
    have l1 := rv.length
    have l2 := rv2.length
    have hn : its.toArray[i]? = none ∨ its2.toArray[i]? = none := by
      rcases hend with q | q
      · exact .inl (by simp; omega)
      · exact .inr (by simp; omega)
    refine EZ.pyNext_enum_end he (EZ.nextOf_zip hz (EZ.zip_next_end (I.ok.hd hc) D hz ho hTI hTO h1 h2 p p2 hn fun h' ex hk hx => ?_))
    obtain ⟨o, ho, hcl⟩ := hx
    exact ⟨ex, o, rfl, ho, hcl, rfl, I.turnedL (t' := s.toks) (ch := [z, TI, TO, i1, i2]) (fun c o hb q =>
      hk c o (fun q' => hb (by simp [q'])) (fun q' => hb (by simp [q'])) (fun q' => hb (by simp [q'])) (fun q' => hb (by simp [q'])) q) (fun c hcm => hf c (by simp only [List.mem_cons] at hcm ⊢; exact .inr hcm))⟩
  self := fun A i s Q E st h => let ⟨⟨_, he⟩, _⟩ := st; wpAny_pyIter_enum he h
def iEnumZ (K : PySem.W.Frag) (ta : TA) : TI := fun σ H R => ta σ H fun vs H1 => ∃ a b xs ys, vs = [.ref a, .ref b] ∧ SqT K H1 a xs ∧ SqT K H1 b ys ∧ R (IteZ K a b) H1
theorem pi_enumZ {X : Cx} {e1 e2 : Expr} {ta : TA} {p p2 pos pos2 tpos : Pos} {elts : List Expr} {kk : Nat} (hg : Gl X "enumerate") (hm : X.mg "enumerate" = none) (hg2 : Gl X "zip") (hm2 : X.mg "zip" = none) (ha : PA X [e1, e2] ta)
    (hs : starEach [e1, e2] X.env = (false, eval e1 X.env) :: starEach [e2] X.env := by rfl) (hpl : (backTo pos2 (starEach [e2] X.env)).any (·.1) = false := by rfl)
    (hs2 : starEach [.Call (.Name "zip" p2) [e1, e2] [] pos2] X.env = [(false, eval (.Call (.Name "zip" p2) [e1, e2] [] pos2) X.env)] := by rfl) :
    PI X (.Tuple elts kk tpos) (.Call (.Name "enumerate" p) [.Call (.Name "zip" p2) [e1, e2] [] pos2] [] pos) (iEnumZ X.K ta) := by
  refine ⟨fun pins s σ H R I h => ?_⟩
  refine Call_ (ld_blt I hg hm boot_enumerate (PyProof.Rows.callWith_type1 ?_ hs2 rfl))
  rw [hs2]
  show wpAny _ _ (spliced [(false, eval (.Call (.Name "zip" p2) [e1, e2] [] pos2) X.env)]) _ _ _
  refine PySem.Calls.spliced_cons ?_
  refine Call_ (ld_blt I hg2 hm2 PyProof.Rows.boot_zip (PyProof.Rows.callWith_type1 (thn (ha.run pos2 pins s σ H _ I h) fun us s1 ⟨vs, H1, I1, r1, q1⟩ => ?_) hs hpl))
  obtain ⟨a, b, xs, ys, ex, hqx, hqy, q⟩ := q1
  subst ex
  cases r1 with
  | cons r rr =>
    cases rr with
    | cons r' rr =>
      cases rr
      cases r
      cases r'
      obtain ⟨its, rv, p1, _⟩ := I1.tuple hqx
      obtain ⟨its2, rv2, p2, _⟩ := I1.tuple hqy
      obtain ⟨o1, ho1, _⟩ := id p1
      obtain ⟨o2, ho2, _⟩ := id p2
      refine RZ.call_zipT (show s1.heap.IsTuple a its.toArray from p1) (show s1.heap.IsTuple b its2.toArray from p2) fun h' hz hTI hTO h1 h2 hsz hk => PySem.Calls.spliced_nil ?_
      refine EZ.call_enumerate_zip (s := { s1 with heap := h' }) hz fun h2' he hsz2 hk2 => wpAny_pyIter_enum he ?_
      have hsz : h'.objs.size = s1.heap.objs.size + 5 := hsz
      have hk2 : ∀ b o, h'.get? b = some o → h2'.get? b = some o := hk2
      have ap : ∀ (n m : Nat), n = m + 5 → n ≠ m + 4 ∧ n ≠ m + 2 ∧ n ≠ m + 3 ∧ n ≠ m ∧ n ≠ m + 1 := fun n m q => by omega
      obtain ⟨a4, a2, a3, a0, a1⟩ := ap _ _ hsz
      have I2 : Inv X pins σ H1 { s1 with heap := h2' } := I1.kept (t' := s1.toks) fun b o q => hk2 b o (hk b o q)
      refine ⟨h'.objs.size, [h'.objs.size, s1.heap.objs.size + 4, s1.heap.objs.size + 2, s1.heap.objs.size + 3, s1.heap.objs.size, s1.heap.objs.size + 1], _, _, H1, rfl, I2,
        turn_enumZ (PySem.W.ktu_apart s1.heap.objs.size a b (Heap.lt_size ho1) (Heap.lt_size ho2)) a4 a2 a3 a0 a1,
        ⟨⟨.none, he⟩, ⟨_, _, hk2 _ _ hz, .inl rfl, _, rfl⟩, hk2 _ _ hTI, ⟨_, _, hk2 _ _ hTO⟩, h1.at fun o q => hk2 _ o q, h2.at fun o q => hk2 _ o q⟩, fun c hcm => ?_, q⟩
      have hle : s1.heap.objs.size ≤ c := by
        have e' : c = h'.objs.size ∨ c = s1.heap.objs.size + 4 ∨ c = s1.heap.objs.size + 2 ∨ c = s1.heap.objs.size + 3 ∨ c = s1.heap.objs.size ∨ c = s1.heap.objs.size + 1 := by simpa using hcm
        have up : ∀ (n m : Nat), n = m + 5 → m ≤ n := fun n m q => by omega
        rcases e' with z | z | z | z | z | z <;> rw [z]
        · exact up _ _ hsz
        · exact Nat.le_add_right _ _
        · exact Nat.le_add_right _ _
        · exact Nat.le_add_right _ _
        · exact Nat.le_refl _
        · exact Nat.le_add_right _ _
      exact I1.fpOk hle (I1.hok.fresh hle)
theorem wk_enumZ {X : Cx} {T : Tb} {O : Addr → Prop} {H : Hp} {a b : Addr} {ds es : List D} (h : Dp (wd X) O H (.ref a) (.tup ds)) (h2 : Dp (wd X) O H (.ref b) (.tup es)) : Wk X T (IteZ X.K a b) O H (enumD (zipD ds es)) := fun Hb O0 m => by
  obtain ⟨xs, t, r⟩ := Dp.tup_at m h
  obtain ⟨ys, t2, r2⟩ := Dp.tup_at m h2
  rw [enumD_len, zipD_len, ← DpA.len r, ← DpA.len r2]
  refine ⟨fun i H1 hi s => ?_, fun H1 s => ⟨xs, ys, sqT_same s t, sqT_same s t2, by omega⟩, fun i H1 v H2 hi s y => ?_⟩
  · have q1 : i < xs.length := by omega
    have q2 : i < ys.length := by omega
    exact ⟨xs, ys, xs[i], ys[i], sqT_same s t, sqT_same s t2, by simp [q1], by simp [q2]⟩
  · obtain ⟨T1, T2, x, y, rfl, n1, n2, ne, rfl, hx, hy⟩ := y
    obtain ⟨d, hd, hv⟩ := r.get (hx xs (sqT_same s t))
    obtain ⟨e, he, hu⟩ := r2.get (hy ys (sqT_same s t2))
    have n2' : upd H1 T1 (.tup [x, y]) T2 = none := by rw [upd_ne ne]; exact n2
    refine ⟨(Ext.new n1).trans (Ext.new n2'), .tup [.int (i : Nat), .tup [d, e]], zipD_get (range_get (by rw [zipD_len, ← DpA.len r, ← DpA.len r2]; exact hi)) (zipD_get hd he), fun O1 ho dm => ?_⟩
    have p1 : Dp (wd X) O1 (upd H1 T1 (.tup [x, y])) (.ref T1) (.tup [d, e]) := pair_dp (T := T) s hv hu n1 ho dm
    have p1' : Dp (wd X) O1 (upd (upd H1 T1 (.tup [x, y])) T2 (.tup [.int (i : Nat), .ref T1])) (.ref T1) (.tup [d, e]) := Dp.ext (Ext.new (T := T) n2') (fun _ _ _ _ z => z) _ _ p1
    exact ⟨T2, [.int (i : Nat), .ref T1], rfl, .inl ⟨dm.free n2, upd_same⟩, two_line, rfl, p1', trivial⟩
section
variable {J : Jd} {X : Cx} {E : XK} {e a b c tg : Expr} {ta tb : DT} {pos : Pos}
@[simp] def enZP (P : List D → Prop) (x y : D) : Prop := match x, y with
  | .tup ds, .tup es => P (enumD (zipD ds es))
  | _, _ => False
@[simp] def dEnumZ (ta tb : DT) : DTA := fun ρ P R => ta ρ (fun x => tb ρ (fun y => enZP P x y) R) R
theorem di_enumZ {p p2 pos2 tpos : Pos} {elts : List Expr} {kk : Nat} (hg : Gl X "enumerate") (hm : X.mg "enumerate" = none) (hg2 : Gl X "zip") (hm2 : X.mg "zip" = none) (ha : DE J X E a ta) (hb : DE J X E b tb)
    (hs : starEach [a, b] X.env = (false, eval a X.env) :: starEach [b] X.env := by rfl) (hs2 : starEach (b :: []) X.env = (false, eval b X.env) :: starEach [] X.env := by rfl) (hpl : (backTo pos2 (starEach [b] X.env)).any (·.1) = false := by rfl)
    (hs3 : starEach [.Call (.Name "zip" p2) [a, b] [] pos2] X.env = [(false, eval (.Call (.Name "zip" p2) [a, b] [] pos2) X.env)] := by rfl) :
    DI J X E (.Tuple elts kk tpos) (.Call (.Name "enumerate" p) [.Call (.Name "zip" p2) [a, b] [] pos2] [] pos) (dEnumZ ta tb) := by
  obtain ⟨t1, p1, s1⟩ := ha.ex
  obtain ⟨t2, p2, s2⟩ := hb.ex
  refine ⟨_, pi_enumZ hg hm hg2 hm2 (pa_cons p1 (pa_cons p2 pa_nil hs2) hs) hs hpl hs3, fun B O H σ ρ P R Q rl x h fin => s1 B O H σ ρ _ R _ rl x h fun v H1 d x1 hv h1 => s2 B O H1 σ ρ _ R _ (rl.ext x1) x h1 fun u H2 d2 x2 hu h2 => ?_⟩
  have hv := Dp.ext x2 (fun _ _ _ _ z => z) d v hv
  cases d with
  | tup ds =>
    cases d2 with
    | tup es =>
      obtain ⟨a, xs, rfl, t, n, r⟩ := hv
      obtain ⟨b, ys, rfl, t2, n2, r2⟩ := hu
      exact ⟨a, b, xs, ys, rfl, t.sq, t2.sq, fin _ H2 _ (x1.trans x2) (wk_enumZ ⟨a, xs, rfl, t, n, r⟩ ⟨b, ys, rfl, t2, n2, r2⟩) (by rw [enumD_len, zipD_len]; omega) h2⟩
    | _ => exact h2.elim
  | _ => exact h2.elim
end
end DL
/-! t.index(x) of a tuple of data -/
namespace DL
open PySem PySem.Spec PyProof.Rows L2
def rTupIndexD (K : PySem.W.Frag) : V → List V → Hp → VK → Prop := fun x xs H Q => ∃ (a : Addr) (y : V) (d : PyData) (ds : List PyData) (j : Nat) (z : PyData), x = V.ref a ∧ xs = [y] ∧ L2.Dp K H (V.ref a) (.tuple ds) ∧ L2.Dp K H y d ∧
  SeqAt.shaped (.tuple ds) = true ∧ SeqAt.shaped d = true ∧ ds[j]? = some z ∧ PyData.eqv z d = true ∧ (∀ (m : Nat) (z' : PyData), m < j → ds[m]? = some z' → PyData.eqv z' d = false) ∧ Q (.int (j : Nat)) H
theorem mt_tupIndexD {X : Cx} (hu : X.A.units + 65 < cLine) : MtR X "tuple.index" (rTupIndexD X.K) := by
  intro pins s σ H x xs v us Q I rx rxs h
  obtain ⟨a, y, d, ds, j, z, rfl, rfl, hl, hy, sl, sd, hz, hzj, hno, q⟩ := h
  cases rx
  cases rxs with
  | cons ry rt =>
    rename_i uy ut
    cases rt
    obtain ⟨bs, r1⟩ := Dp.reads I d y uy hy ry
    have hxs : PyData.canLayAll0 ds = true := by simpa [PyData.canLay0] using SeqAt.canLay_of_shaped sl
    have hroom : X.A.units + 1 + min (PyData.depthAll ds) d.depth < cLine := room_in_shaped sd hu
    cases hl with
    | tup hs ha =>
      obtain ⟨its, rv, ⟨⟨cls, dd, data, sls⟩, ho, hc, n, hdt⟩, hlen⟩ := I.tuple hs
      simp only at hc hdt
      subst hc hdt
      obtain ⟨as, h4⟩ := Dp.readsAll I ds _ its ha rv
      have hn : its.length = ds.length := SeqAt.ReadsAll.length ds its as h4
      have hmap : its.map (SeqAt.readOf s.heap) = ds := SeqAt.readsAll_map ds its as hxs h4
      have hvl := rv.length
      have hsl := sizeLine_eq
      obtain ⟨hjd, _⟩ := List.getElem?_eq_some_iff.mp hz
      have hjl : j < its.length := by omega
      have hj : j < its.toArray.size := by simpa using hjl
      have at_ : ∀ (m : Nat) (hm : m < its.toArray.size) (z' : PyData), ds[m]? = some z' → SeqAt.readOf s.heap its.toArray[m] = z' := by
        intro m hm z' hz'
        have hml : m < its.length := by simpa using hm
        rw [← hmap, List.getElem?_map, List.getElem?_eq_getElem hml] at hz'
        have e1 : SeqAt.readOf s.heap its[m] = z' := Option.some.inj (show some (SeqAt.readOf s.heap its[m]) = some z' from hz')
        simpa using e1
      refine call_meets PySem.F.slot_tuple_index ⟨_, ho, rfl⟩ PySem.F.entry_tuple_index (PySem.F.args_tuple_index_2 _ _)
        (TI.tuple_indexAt a its.toArray n dd sls uy (fun u => PyData.eqv (SeqAt.readOf s.heap u) d) j hj ?_ ?_) ⟨ho, SeqAt.items_eqAt (vs := its.toArray) (show ReadsAll s.heap its.toArray.toList ds as from h4) r1 hxs (SeqAt.canLay_of_shaped sd) hroom, ?_⟩
      · show PyData.eqv (SeqAt.readOf s.heap its.toArray[j]) d = true
        rw [at_ j hj z hz]
        exact hzj
      · intro m hm hmj
        have hmd : m < ds.length := by omega
        have hz' : ds[m]? = some ds[m] := List.getElem?_eq_getElem hmd
        show PyData.eqv (SeqAt.readOf s.heap its.toArray[m]) d = false
        rw [at_ m hm _ hz']
        exact hno m _ hmj hz'
      · exact ⟨.int (j : Nat), H, I.tok _, ⟨_, rfl⟩, q⟩
/-- a tuple made of a list, known to have no dict -/
theorem call_tuple_frz {X : Cx} : CallR X (.type "tuple") (fun xs H Q => ∃ p ys, xs = [.ref p] ∧ SqL X.K H p ys ∧ ∀ (q : Addr) (o : Obj), H q = none → o.dict = none → Q (.ref q) (upd H q (.frz o (.tup ys)))) := by
  intro pins s σ H xs us Q I r h
  obtain ⟨p, ys, rfl, hs, q⟩ := h
  obtain ⟨u, rfl, ru⟩ := vals1 r
  cases ru
  obtain ⟨its, rv, pl, hz⟩ := I.list hs
  refine call_tuple_list pl.isList (fun h' hk => ?_) (by rw [List.size_toArray, ← rv.length]; exact hz)
  have I1 : Inv X pins σ H { s with heap := h' } := I.kept (t' := s.toks) hk
  have I2 : Inv X pins σ (upd H h'.objs.size (.frz { cls := .type "tuple", data := .seq its.toArray } (.tup ys))) { s with heap := h'.push { cls := .type "tuple", data := .seq its.toArray } } :=
    I1.laid (t' := s.toks) (fun b o e => Heap.get?_push_of_some _ e) (Nat.le_refl _) (show ObjOk X.prog X.w _ _ _ (.frz _ (.tup ys)) from ⟨Heap.get?_push_size _ rfl, hz, its, rv, IsTup.new _ _⟩)
  exact ⟨.ref h'.objs.size, _, I2, rfl, q _ _ (I1.hok.fresh (Nat.le_refl _)) rfl⟩
/-- a method of a tuple that has no dict -/
def tTM (K : PySem.W.Frag) (r : V → List V → Hp → VK → Prop) (to : TE) (t : TA) : TE := fun σ H Q => to σ H fun x H1 => (∃ a o xs, x = .ref a ∧ o.dict = none ∧ H1 a = some (.frz o (.tup xs))) ∧ t σ H1 fun xs H2 => r x xs H2 Q
theorem frz_is {X : Cx} {pins : List (Addr × Obj)} {σ : St} {H : Hp} {s : Shared} {a : Addr} {o : Obj} {xs : List V} (I : Inv X pins σ H s) (dn : o.dict = none) (h : H a = some (.frz o (.tup xs))) :
    s.TypeIs (.ref a) "tuple" ∧ ∀ b, Value.ref a = .ref b → ∃ ob, s.heap.get? b = some ob ∧ ob.dict = none := by
  obtain ⟨e, _, its, _, o', e', hc, _⟩ := (show ObjOk X.prog X.w H s.heap a (.frz o (.tup xs)) from I.hok a _ h)
  exact ⟨⟨o', e', hc⟩, fun b q => by cases q; exact ⟨o, e, dn⟩⟩
theorem pe_tm {X : Cx} {o e : Expr} {es : List Expr} {to : TE} {t : TA} {name : Str} {apos cpos : Pos} {id : String} {r : V → List V → Hp → VK → Prop} (slot : Slot "tuple" name id) (hty : typeOf (.builtin id) = pure (.type "method_descriptor")) (hm : MtR X id r) (ho : PE X o to) (ha : PA X (e :: es) t)
    (hbase : attributeBase o name X.env (eval o X.env) = eval o X.env := by rfl)
    (hfew : ((backTo cpos (starEach (e :: es) X.env)).all (fun x => !x.1) && (backToKw cpos (keywordEach [] X.env)).all (fun x => x.1.isSome)
      && decide ((e :: es).length + ([] : List Keyword).length + (if ([] : List Keyword).isEmpty then 0 else 1) < 30)) = true := by rfl)
    (hline : (apos.endLine == cpos.line) = true := by rfl) (hs : starEach (e :: es) X.env = (false, eval e X.env) :: starEach es X.env := by rfl) (hplain : (backTo cpos (starEach es X.env)).any (·.1) = false := by rfl) :
    PE X (.Call (.Attribute o name apos) (e :: es) [] cpos) (tTM X.K r to t) := by
  refine ⟨fun pins s σ H Q I h => ?_⟩
  refine wpAny_Call_method_late hbase hfew hline rfl (thn (ho.run pins s σ H _ I h) fun v s1 ⟨x, H1, I1, r1, ty, q1⟩ => ?_)
  obtain ⟨a, ob, xs, rfl, dn, hx⟩ := ty
  cases r1
  obtain ⟨h1, h2⟩ := frz_is I1 dn hx
  refine ⟨"tuple", id, PySem.F.plainAttrs_tuple, slot, hty, h1, h2, ?_⟩
  have hA := ha.run cpos pins s1 σ H1 _ I1 q1
  rw [hs] at hA ⊢
  refine Calls.callWith_builtin (by show (false || (backTo cpos (starEach es X.env)).any (·.1)) = false; rw [hplain] <;> rfl) (Calls.evalArgs_plain ?_)
  exact thn hA fun us s2 ⟨vs, H2, I2, r2, q2⟩ => hm pins s2 σ H2 (.ref a) vs _ us Q I2 rfl r2 q2
section
variable {J : Jd} {X : Cx} {E : XK} {a b : Expr} {ta tb : DT} {pos : Pos}
def idxP (P : D → Prop) (ds : List D) (y : D) : Prop := shp (.tup ds) = true ∧ shp y = true ∧ ∃ j z, ds[j]? = some z ∧ eqD z y = true ∧ (∀ m z', m < j → ds[m]? = some z' → eqD z' y = false) ∧ P (.int (j : Nat))
@[simp] def dIndex (ta tb : DT) : DT := fun ρ P R => ta ρ (fun x => match x with
  | .ftp ds => tb ρ (fun y => idxP P ds y) R
  | _ => False) R
theorem pyA_get (ds : List D) (j : Nat) : (D.pyA ds)[j]? = ds[j]?.map D.py := by rw [pyA_map, List.getElem?_map]
theorem Dp.thaw {W : Wd} {O : Addr → Prop} {H : Hp} {v : V} {ds : List D} (h : Dp W O H v (.ftp ds)) : Dp W O H v (.tup ds) := by
  obtain ⟨a, o, xs, e, n, _, t, l, r⟩ := h
  exact ⟨a, xs, e, .inr (.inl ⟨n, o, t⟩), l, r⟩
theorem de_index {apos : Pos} (hu : X.A.units + 65 < cLine) (ha : DE J X E a ta) (hb : DE J X E b tb) (hs : starEach [b] X.env = (false, eval b X.env) :: starEach [] X.env := by rfl)
    (hbase : attributeBase a "index" X.env (eval a X.env) = eval a X.env := by rfl) (hline : (apos.endLine == pos.line) = true := by rfl)
    (hfew : ((backTo pos (starEach [b] X.env)).all (fun x => !x.1) && (backToKw pos (keywordEach [] X.env)).all (fun x => x.1.isSome)
      && decide (([b] : List Expr).length + ([] : List Keyword).length + (if ([] : List Keyword).isEmpty then 0 else 1) < 30)) = true := by rfl) :
    DE J X E (.Call (.Attribute a "index" apos) [b] [] pos) (dIndex ta tb) := by
  obtain ⟨t1, p1, s1⟩ := ha.ex
  obtain ⟨t2, p2, s2⟩ := hb.ex
  refine ⟨_, pe_tm PySem.F.slot_tuple_index PySem.F.type_tuple_index (mt_tupIndexD hu) p1 (pa_cons p2 pa_nil hs) hbase hfew hline hs rfl, fun B O H σ ρ P R Q rl x h fin => s1 B O H σ ρ _ R _ rl x h fun v H1 d x1 hv h1 => ?_⟩
  cases d with
  | ftp ds =>
    obtain ⟨a, o, xs, rfl, n, dn, t, l, r⟩ := id hv
    refine ⟨⟨a, o, xs, rfl, dn, t⟩, s2 B O H1 σ ρ _ R _ (rl.ext x1) x h1 fun u H2 d2 x2 hu h2 => ?_⟩
    obtain ⟨k1, k2, j, z, hz, he, hno, hp⟩ := h2
    have hv2 := Dp.thaw (Dp.ext x2 (fun _ _ _ _ z => z) _ _ hv)
    refine ⟨a, u, d2.py, D.pyA ds, j, z.py, rfl, rfl, Dp.py (.tup ds) _ hv2 (SeqAt.canLay_of_shaped k1), Dp.py d2 _ hu (SeqAt.canLay_of_shaped k2), k1, k2, by rw [pyA_get, hz]; rfl, he, fun m z' hm hz' => ?_, fin _ H2 (.int (j : Nat)) (x1.trans x2) rfl hp⟩
    rw [pyA_get] at hz'
    cases e : ds[m]? with
    | none => rw [e] at hz'; cases hz'
    | some z'' => rw [e] at hz'; cases hz'; exact hno m z'' hm e
  | _ => exact h1.elim
/-- a tuple of a list, kept as one that has no dict -/
@[simp] def dTupleF (t : DT) : DT := fun ρ P R => t ρ (fun d => match d with
  | .lst ds => P (.ftp ds)
  | _ => False) R
theorem de_tupleF {p : Pos} (hg : Gl X "tuple") (hm : X.mg "tuple" = none) (ha : DB J X E a ta) (he : starEach (a :: []) X.env = (false, eval a X.env) :: starEach [] X.env := by rfl) : DE J X E (.Call (.Name "tuple" p) [a] [] pos) (dTupleF ta) := by
  obtain ⟨te, p1, s1⟩ := ha.ex
  refine ⟨_, pe_callTy call_tuple_frz hg hm boot_tuple' (pa_cons p1 pa_nil he) (by decide) (by decide) he rfl, fun B O H σ ρ P R Q rl x h fin => s1 B O H σ ρ _ R _ rl x h fun v H1 d x1 hv h1 => ?_⟩
  cases d with
  | lst ds =>
    obtain ⟨a, xs, rfl, t, n, r⟩ := hv.lst
    exact ⟨a, xs, rfl, .inl (.inl t), fun p o np dn => fin _ _ (.ftp ds) (x1.trans (Ext.new np)) ⟨p, o, xs, rfl, (rl.ext x1).free np, dn, upd_same, n, DpA.ext (Ext.new (T := J.T) np) (fun _ _ _ _ z => z) _ _ r⟩ h1⟩
  | _ => exact h1.elim
/-- read as a plain tuple -/
@[simp] def dThaw (t : DT) : DT := fun ρ P R => t ρ (fun d => match d with
  | .ftp ds => P (.tup ds)
  | _ => False) R
theorem de_thaw (ha : DE J X E a ta) : DE J X E a (dThaw ta) := by
  obtain ⟨te, p1, s1⟩ := ha.ex
  refine ⟨te, p1, fun B O H σ ρ P R Q rl x h fin => s1 B O H σ ρ _ R _ rl x h fun v H1 d x1 hv h1 => ?_⟩
  cases d with
  | ftp ds => exact fin _ H1 (.tup ds) x1 hv.thaw h1
  | _ => exact h1.elim
end
end DL
namespace DL
open PySem PySem.Spec PyProof.Rows L2
/-! ### what is seen, mirrored -/
theorem takeH_mir (s : Sgn) (on : Bool) (o : Option Sgn) : takeH s.mir on (o.map Sgn.mir) = (takeH s on o).map Sec.mir := by
  cases o with
  | none => rfl
  | some t =>
    obtain ⟨a, b, c, p, q⟩ := t
    cases q with
    | non => rfl
    | m => rfl
    | hand x y =>
      show (if on && goTog s.sh s.mv.mir (.hand x y.mir) then some (Sec.hand x y.mir) else none) = Option.map Sec.mir (if on && goTog s.sh s.mv (.hand x y) then some (Sec.hand x y) else none)
      have e : goTog s.sh s.mv.mir (.hand x y.mir) = goTog s.sh s.mv (.hand x y) := rfl
      rw [e]
      split <;> rfl
theorem sc_mir_non (s : Sgn) : s.mir.sc = .non ↔ s.sc = .non := by
  obtain ⟨a, b, c, p, q⟩ := s
  cases q <;> simp [Sgn.mir, Sec.mir]
theorem seenB_mir (b : Option Sgn) (s : Sgn) (a : Option Sgn) (st : Bool × Bool) : seenB (b.map Sgn.mir) s.mir (a.map Sgn.mir) st = (seenB b s a st).mir := by
  unfold seenB
  by_cases h : s.sc = .non
  · rw [if_pos h, if_pos ((sc_mir_non s).mpr h), takeH_mir, takeH_mir]
    cases takeH s st.1 b with
    | some q => rfl
    | none =>
      cases takeH s st.2 a with
      | some q => rfl
      | none => rfl
  · rw [if_neg h, if_neg (fun z => h ((sc_mir_non s).mp z))]
theorem getD_mir (l : List Sgn) (i : Nat) : (l.map Sgn.mir).getD i s0 = (l.getD i s0).mir := by
  rw [List.getD_eq_getElem?_getD, List.getD_eq_getElem?_getD, List.getElem?_map]
  cases l[i]? <;> rfl
theorem prevO_mir (l : List Sgn) (i : Nat) : prevO (l.map Sgn.mir) i = (prevO l i).map Sgn.mir := by
  unfold prevO
  split
  · rfl
  · rw [List.getElem?_map]
theorem seenRow_mir (l : List Sgn) (st : Bool × Bool) : seenRow (l.map Sgn.mir) st = (seenRow l st).map Sgn.mir := by
  unfold seenRow
  rw [List.length_map, List.map_map]
  refine List.map_congr_left fun i _ => ?_
  rw [Function.comp_apply, prevO_mir, getD_mir, List.getElem?_map, seenB_mir]
theorem idx_first {x : Sgn} : ∀ {lm : List Sgn} {m : Nat}, m < lm.idxOf x → lm[m]? = some x → False
  | [], m, h, e => by cases e
  | a :: lm, m, h, e => by
    rw [List.idxOf_cons] at h
    by_cases z : a = x
    · subst z; simp at h
    · have zb : (a == x) = false := beq_eq_false_iff_ne.mpr z
      rw [zb] at h
      simp only [cond_false] at h
      cases m with
      | zero => cases e; exact z rfl
      | succ m =>
        rw [List.getElem?_cons_succ] at e
        exact idx_first (lm := lm) (by omega) e
def turnR (l lm : List Sgn) (r : List Nat) : List Nat := r.map fun i => lm.idxOf (l.getD i s0).mir
theorem getD_idxOf {lm : List Sgn} {x : Sgn} (h : x ∈ lm) : lm.getD (lm.idxOf x) s0 = x := by
  have hl := List.idxOf_lt_length_iff.mpr h
  rw [List.getD_eq_getElem?_getD, List.getElem?_eq_getElem hl, List.getElem_idxOf]; rfl
theorem pick_turn {l lm : List Sgn} {r : List Nat} (hr : ∀ i ∈ r, i < l.length) (hm : ∀ s ∈ l, s.mir ∈ lm) : pick lm (turnR l lm r) = (pick l r).map Sgn.mir := by
  unfold pick turnR
  rw [List.map_map, List.map_map]
  refine List.map_congr_left fun i hi => ?_
  rw [Function.comp_apply, Function.comp_apply]
  have hi := hr i hi
  refine getD_idxOf (hm _ ?_)
  rw [List.getD_eq_getElem?_getD, List.getElem?_eq_getElem hi]
  exact List.getElem_mem hi
theorem shown_turn {l lm : List Sgn} {r : List Nat} {st : Bool × Bool} (hr : ∀ i ∈ r, i < l.length) (hm : ∀ s ∈ l, s.mir ∈ lm) : shownRow lm (turnR l lm r) st = (shownRow l r st).map Sgn.mir := by
  unfold shownRow
  rw [pick_turn hr hm, seenRow_mir]
/-! ### all that is seen is a sign -/
theorem seen_good {b : Option Sgn} {s : Sgn} {a : Option Sgn} {st : Bool × Bool} (g : s.good = true) : (seenB b s a st).good = true := by
  unfold seenB
  have key : ∀ (on : Bool) (o : Option Sgn) (q : Sec), takeH s on o = some q → ({ s with sc := q } : Sgn).good = true := fun on o q h => by
    cases o with
    | none => cases h
    | some t =>
      unfold takeH at h
      simp only at h
      split at h
      · rename_i x y e
        split at h
        · rename_i z
          cases h
          exact (Bool.and_eq_true_iff.mp z).2
        · cases h
      · cases h
  by_cases h : s.sc = .non
  · rw [if_pos h]
    cases h1 : takeH s st.1 b with
    | some q => exact key _ _ _ h1
    | none =>
      cases h2 : takeH s st.2 a with
      | some q => exact key _ _ _ h2
      | none => exact g
  · rw [if_neg h]; exact g
theorem getD_good {l : List Sgn} (ol : okL l = true) (i : Nat) : (l.getD i s0).good = true := by
  rw [List.getD_eq_getElem?_getD]
  cases e : l[i]? with
  | none => decide
  | some s => exact okL_good ol s (List.mem_of_getElem? e)
theorem shown_good {l : List Sgn} {r : List Nat} {st : Bool × Bool} (ol : okL l = true) : ∀ s ∈ shownRow l r st, s.good = true := fun s hs => by
  unfold shownRow seenRow at hs
  obtain ⟨i, _, rfl⟩ := List.mem_map.mp hs
  refine seen_good ?_
  unfold pick
  rw [List.getD_eq_getElem?_getD, List.getElem?_map]
  cases r[i]? with
  | none => show s0.good = true; decide
  | some j => exact getD_good ol j
theorem tupLc_run {i : Nat} {q : DTQ} {ti te : DT} {ρ : Rho} {K : D → Prop} {R : RX} {vs : List Nat} (ds : List D) (h : ∀ P : D → Prop, P (.tup ds) → ti ρ P R) (k : lcGo (gN i) q te (wipeR ρ vs) (fun es => K (.tup es)) ds []) :
    dTuple (dOfL (dLc (dItems ti) (gN i) q te vs)) ρ K R := h _ k
@[simp] def sd_law_mirror : SpD := fun ds P _ => ∃ (l : List Sgn) (r : List Nat) (st : Bool × Bool), ds = [SsD l, rowD r, styD st] ∧ okL l = true ∧ r.length ≤ 8 ∧ (∀ i ∈ r, i < l.length) ∧ P (.bl true)
theorem len_law_mirror : ∀ ds P R, sd_law_mirror ds P R → ds.length = 3 := fun ds P R h => by obtain ⟨_, _, _, rfl, _⟩ := h; rfl
def t_law_mirror : DST :=
    (sSeq (sAsg (dDctP (dOfL (dLc (dItems (dV 0)) (gN 4) qYes (dTup (dCons (dCall sd_law_written (dCons (dCall sd_mirrored (dCons (dV 4) dNil)) dNil)) (dCons (dCall sd_mirrored (dCons (dV 4) dNil)) dNil))) [4]))) (gN 3))
    (sSeq (sAsg (dTupleF (dOfL (dLc (dItems (dOfL (dSrtD (dV 3)))) (gN 6) qYes (dOp fDget (dV 3) (dV 6)) [6]))) (gN 5))
    (sSeq (sAsg (dTuple (dOfL (dLc (dItems (dV 1)) (gN 8) qYes (dIndex (dV 5) (dCall sd_mirrored (dCons (dOp fIx (dV 0) (dV 8)) dNil))) [8]))) (gN 7))
    (sRet (dOp fEq (dCall sd_shown (dCons (dThaw (dV 5)) (dCons (dV 7) (dCons (dV 2) dNil)))) (dTuple (dOfL (dLc (dItems (dCall sd_shown (dCons (dV 0) (dCons (dV 1) (dCons (dV 2) dNil))))) (gN 4) qYes (dCall sd_mirrored (dCons (dV 4) dNil)) [4]))))))))

theorem vc_law_mirror : ∀ ds P R, sd_law_mirror ds P R → t_law_mirror (startR ["_law_signs_here", "_law_row", "_law_style_here", "_law_known", "_law_one", "_law_there", "_law_text", "_law_turned", "_law_number"] ds) ⟨fun _ => P .non, P, fun _ => False, fun _ => False, R⟩ := fun ds P R h => by
  obtain ⟨l, r, st, rfl, ol, r8, rl, h⟩ := h
  obtain ⟨l1, l6⟩ := okL_len ol
  have og := okL_good ol
  show t_law_mirror [.val (SsD l), .val (rowD r), .val (styD st), .non, .non, .non, .non, .non, .non] _
  unfold t_law_mirror
  refine seq_any (fun d => ∃ l' : List Sgn, l'.Nodup ∧ (∀ t, t ∈ l' ↔ t ∈ l.map Sgn.mir) ∧ l'.length ≤ l.length ∧ d = .dct (l'.map Sgn.txt) (l'.map Sgn.d)) (fun K hK => ?_) ?_
  · refine lc_map (P := fun ds => dctP K (.lst ds)) Sgn.d (fun s => .tup [.str s.mir.txt, s.mir.d]) l (fun s hs K h => ?_) ?_
    · have gs := og s hs
      exact par2_run (P := fun ds => ds.length ≤ sizeLine ∧ K (.tup ds)) (.str s.mir.txt) s.mir.d (fun P k => call1_run s.mir.d (fun P k => call1_run s.d (fun P k => k) (mir_ok gs k)) ⟨s.mir, rfl, k⟩) (fun P k => call1_run s.d (fun P k => k) (mir_ok gs k)) ⟨line2, h⟩
    · have e : l.map (fun s => D.tup [.str s.mir.txt, s.mir.d]) = (l.map Sgn.mir).map fun s => D.tup [.str s.txt, s.d] := by rw [List.map_map]; rfl
      rw [e]
      exact dct_kv _ fun l' n m le => hK _ ⟨l', n, m, by rw [List.length_map] at le; exact le, rfl⟩
  rintro _ ⟨l', nd, m, le, rfl⟩
  simp only [List.map_cons, List.map_nil, List.cons_append, List.nil_append, List.set_cons_succ, List.set_cons_zero, List.replicate, List.length_cons, List.length_nil]
  have hm : ∀ s ∈ l, s.mir ∈ sortSg (l.map Sgn.mir) := fun s hs => mem_sortSg.mpr (List.mem_map_of_mem hs)
  obtain ⟨k1, k2⟩ := sortSg_ok (l := l.map Sgn.mir) (n := 6) (by rw [List.length_map]; exact l1) (by rw [List.length_map]; exact l6) (by omega) (fun s hs => by
    obtain ⟨t, ht, rfl⟩ := List.mem_map.mp hs
    rw [Sgn.good_mir]; exact og t ht)
  refine seq_asg (.ftp ((sortSg (l.map Sgn.mir)).map Sgn.d)) (fun P k => ?_) ?_
  · change srtP (fun ds => lcGo (gN 6) qYes (dOp fDget (dV 3) (dV 6)) _ _ ds []) (.dct (l'.map Sgn.txt) (l'.map Sgn.d))
    refine srt_kv nd (by omega) _ ?_
    rw [List.map_map, sortSg_congr m]
    refine lc_map (D.str ∘ Sgn.txt) Sgn.d (sortSg (l.map Sgn.mir)) (fun t ht K h => ?_) k
    show (match lookD (l'.map Sgn.txt) (l'.map Sgn.d) t.txt with | some d => K d | none => False)
    rw [look_kv ((m t).mpr (mem_sortSg.mp ht))]
    exact h
  simp only [List.set_cons_succ, List.set_cons_zero]
  refine seq_asg (rowD (turnR l (sortSg (l.map Sgn.mir)) r)) (fun P k => ?_) ?_
  · refine lc_map natD (fun i => natD ((sortSg (l.map Sgn.mir)).idxOf (l.getD i s0).mir)) r (fun i hi K h => ?_) ?_
    · have hi := rl i hi
      refine at_Ss l i hi _ ?_
      show sd_mirrored [(l.getD i s0).d] (fun y => idxP K ((sortSg (l.map Sgn.mir)).map Sgn.d) y) (fun _ => False)
      refine mir_ok (getD_good ol i) ?_
      have hx : (l.getD i s0).mir ∈ sortSg (l.map Sgn.mir) := hm _ (by
        rw [List.getD_eq_getElem?_getD, List.getElem?_eq_getElem hi]
        exact List.getElem_mem hi)
      have hj := List.idxOf_lt_length_iff.mpr hx
      refine ⟨shp_SsD _, shp_S _, (sortSg (l.map Sgn.mir)).idxOf (l.getD i s0).mir, (l.getD i s0).mir.d, ?_, by rw [eqD_S]; simp, fun q z hq hz => ?_, h⟩
      · rw [List.getElem?_map, List.getElem?_eq_getElem hj, List.getElem_idxOf]; rfl
      · rw [List.getElem?_map] at hz
        cases e : (sortSg (l.map Sgn.mir))[q]? with
        | none => rw [e] at hz; cases hz
        | some t =>
          rw [e] at hz
          cases hz
          rw [eqD_S]
          refine decide_eq_false fun z => ?_
          subst z
          obtain ⟨hq1, hq2⟩ := List.getElem?_eq_some_iff.mp e
          exact idx_first hq e
    · have e : rowD (turnR l (sortSg (l.map Sgn.mir)) r) = .tup (r.map fun i => natD ((sortSg (l.map Sgn.mir)).idxOf (l.getD i s0).mir)) := by
        unfold rowD turnR; rw [List.map_map]; rfl
      rw [e] at k
      exact k
  simp only [List.set_cons_succ, List.set_cons_zero]
  refine one_ret (.bl true) (fun K k => ?_) h
  refine op2_run (.tup ((shownRow l r st).map Sgn.mir |>.map Sgn.d)) (.tup ((shownRow l r st).map Sgn.mir |>.map Sgn.d)) (fun P k => ?_) (fun P k => ?_) (eq_of true (shp_Ss _) (shp_Ss _) (eqD_reflSs _) k)
  · have hh : sd_shown [SsD (sortSg (l.map Sgn.mir)), rowD (turnR l (sortSg (l.map Sgn.mir)) r), styD st] P R := by
      refine shown_ok k1 (by unfold turnR; rw [List.length_map]; exact r8) (fun i hi => ?_) ?_
      · unfold turnR at hi
        obtain ⟨j, hj, rfl⟩ := List.mem_map.mp hi
        have hj := rl j hj
        exact List.idxOf_lt_length_iff.mpr (hm _ (by
          rw [List.getD_eq_getElem?_getD, List.getElem?_eq_getElem hj]
          exact List.getElem_mem hj))
      · rw [shown_turn rl hm]; exact k
    exact hh
  · refine tupLc_run ((shownRow l r st).map Sgn.d) (fun P k => shown_ok ol r8 rl k) ?_
    refine lc_map Sgn.d (fun s => s.mir.d) (shownRow l r st) (fun s hs K h => call1_run s.d (fun P k => k) (mir_ok (shown_good ol s hs) h)) ?_
    rw [List.map_map] at k
    exact k
/-! ### enumerate(zip(row, seen)) -/
theorem enumZ_row (r : List Nat) (w : List Sgn) (h : w.length = r.length) : enumD (zipD (r.map natD) (w.map Sgn.d)) = (List.range r.length).map fun i => D.tup [natD i, .tup [natD (r.getD i 0), (w.getD i s0).d]] := by
  apply List.ext_getElem?
  intro i
  have zl : (zipD (r.map natD) (w.map Sgn.d)).length = r.length := by rw [zipD_len, List.length_map, List.length_map]; omega
  by_cases hi : i < r.length
  · have e1 : (zipD (r.map natD) (w.map Sgn.d))[i]? = some (.tup [natD (r.getD i 0), (w.getD i s0).d]) := zipD_get
      (by rw [List.getElem?_map, List.getElem?_eq_getElem hi, List.getD_eq_getElem?_getD, List.getElem?_eq_getElem hi]; rfl)
      (by rw [List.getElem?_map, List.getElem?_eq_getElem (by omega), List.getD_eq_getElem?_getD, List.getElem?_eq_getElem (by omega)]; rfl)
    have e2 : (enumD (zipD (r.map natD) (w.map Sgn.d)))[i]? = some (.tup [.int (i : Nat), .tup [natD (r.getD i 0), (w.getD i s0).d]]) := by
      unfold enumD
      exact zipD_get (range_get (by rw [zl]; exact hi)) e1
    rw [e2, List.getElem?_map, List.getElem?_range hi]; rfl
  · rw [List.getElem?_eq_none (by rw [enumD_len, zl]; omega), List.getElem?_eq_none (by rw [List.length_map, List.length_range]; omega)]
theorem for_oddsG {g : GD} {s : DST} {De : DEnds} {α : Type} {f : α → D} (I : Rho → Prop) : ∀ (ds : List α) (ρ : Rho), I ρ → (∀ d ∈ ds, ∀ ρ, I ρ → ∀ N : Rho → Prop, (∀ ρ', I ρ' → N ρ') → g (f d) ρ fun ρ1 => s ρ1 { De with nx := N, ct := N, bk := De.nx }) → (∀ ρ, I ρ → De.nx ρ) → forGo g s De (ds.map f) ρ
  | [], ρ, h0, _, he => he ρ h0
  | d :: ds, ρ, h0, hs, he => by
    rw [List.map_cons]
    exact hs d (by simp) ρ h0 _ fun ρ' h' => for_oddsG I ds ρ' h' (fun x hx => hs x (List.mem_cons_of_mem _ hx)) he
/-! ### a sign with two hands cuts a row -/
theorem seen_held {p : Option Sgn} {x : Sgn} {n : Option Sgn} {st : Bool × Bool} (h : x.sc ≠ .non) : seenB p x n st = x := by unfold seenB; rw [if_neg h]
theorem cut_here (l : List Sgn) (r : List Nat) (st : Bool × Bool) {i : Nat} (hi : i < r.length) (hs : (l.getD (r.getD i 0) s0).sc ≠ .non) : shownRow l (r.take (i + 1)) st ++ (shownRow l (r.drop i) st).drop 1 = shownRow l r st := by
  have pk : ∀ (q : List Nat) (k : Nat), (pick l q)[k]? = (q[k]?).map fun j => l.getD j s0 := fun q k => by unfold pick; rw [List.getElem?_map]
  have own : (pick l r).getD i s0 = l.getD (r.getD i 0) s0 := by
    rw [List.getD_eq_getElem?_getD, pk, List.getElem?_eq_getElem hi, List.getD_eq_getElem?_getD (l := r), List.getElem?_eq_getElem hi]; rfl
  apply List.ext_getElem?
  intro k
  have ln : (shownRow l (r.take (i + 1)) st).length = i + 1 := by rw [shownRow_len, List.length_take]; omega
  by_cases h : k < i + 1
  · rw [List.getElem?_append_left (by rw [ln]; exact h)]
    unfold shownRow
    rw [seenRow_get, seenRow_get, if_pos (by rw [pick_len, List.length_take]; omega), if_pos (by rw [pick_len]; omega)]
    have e1 : ∀ k, k < i + 1 → (pick l (r.take (i + 1)))[k]? = (pick l r)[k]? := fun k hk => by rw [pk, pk, List.getElem?_take_of_lt hk]
    have e0 : (pick l (r.take (i + 1))).getD k s0 = (pick l r).getD k s0 := by rw [List.getD_eq_getElem?_getD, List.getD_eq_getElem?_getD, e1 k h]
    rw [e0]
    by_cases z : k = i
    · subst z
      rw [seen_held (by rw [own]; exact hs), seen_held (by rw [own]; exact hs)]
    · have e2 : prevO (pick l (r.take (i + 1))) k = prevO (pick l r) k := by
        unfold prevO
        split
        · rfl
        · exact e1 _ (by omega)
      rw [e2, e1 (k + 1) (by omega)]
  · rw [List.getElem?_append_right (by rw [ln]; omega), ln, List.getElem?_drop]
    unfold shownRow
    have em : 1 + (k - (i + 1)) = k - i := by omega
    rw [em, seenRow_get, seenRow_get]
    by_cases hk : k < r.length
    · rw [if_pos (by rw [pick_len, List.length_drop]; omega), if_pos (by rw [pick_len]; exact hk)]
      have e1 : ∀ k, (pick l (r.drop i))[k]? = (pick l r)[i + k]? := fun k => by rw [pk, pk, List.getElem?_drop]
      have e2 : prevO (pick l (r.drop i)) (k - i) = prevO (pick l r) k := by
        unfold prevO
        rw [if_neg (by omega), if_neg (by omega), e1]
        congr 1; omega
      have e3 : i + (k - i) = k := by omega
      have e4 : i + (k - i + 1) = k + 1 := by omega
      rw [e2, List.getD_eq_getElem?_getD, List.getD_eq_getElem?_getD, e1, e1, e3, e4]
    · rw [if_neg (by rw [pick_len, List.length_drop]; omega), if_neg (by rw [pick_len]; exact hk)]
/-- the sign at a place, as it is seen -/
theorem seen_at2 (l : List Sgn) (r : List Nat) (st : Bool × Bool) {i : Nat} (hi : i < r.length) : (shownRow l r st).getD i s0 = seenB (if i = 0 then none else (r[i - 1]?).map fun j => l.getD j s0) (l.getD (r.getD i 0) s0) ((r[i + 1]?).map fun j => l.getD j s0) st := by
  unfold shownRow
  rw [List.getD_eq_getElem?_getD, seenRow_get, if_pos (by rw [pick_len]; exact hi)]
  have pk : ∀ (k : Nat), (pick l r)[k]? = (r[k]?).map fun j => l.getD j s0 := fun k => by unfold pick; rw [List.getElem?_map]
  have own : (pick l r).getD i s0 = l.getD (r.getD i 0) s0 := by
    rw [List.getD_eq_getElem?_getD, pk, List.getElem?_eq_getElem hi, List.getD_eq_getElem?_getD (l := r), List.getElem?_eq_getElem hi]; rfl
  rw [own, pk]
  unfold prevO
  rw [pk]; rfl
theorem at_row (r : List Nat) (i : Nat) (h : i < r.length) (P : D → Prop) (k : P (natD (r.getD i 0))) : atD (r.map natD) (i : Int) P := by
  unfold atD
  rw [atI_nat (v := natD (r.getD i 0)) (by rw [List.getElem?_map, List.getD_eq_getElem?_getD, List.getElem?_eq_getElem h]; rfl)]
  exact k
/-- the second hands around a place -/
def aroundP (n i : Nat) : List Int := [(i : Int) - 1, (i : Int) + 1].filter fun p => decide (0 ≤ p) && decide (p < (n : Int))
def aroundL (l : List Sgn) (r : List Nat) (i : Nat) : List Sec := (aroundP r.length i).map fun p => (l.getD (r.getD p.toNat 0) s0).sc
/-- what is held is held by a sign beside -/
theorem held_by {l : List Sgn} {r : List Nat} {st : Bool × Bool} {i : Nat} (hi : i < r.length) (ne : (shownRow l r st).getD i s0 ≠ l.getD (r.getD i 0) s0) :
    (l.getD (r.getD i 0) s0).sc = .non ∧ ∃ a t, ((shownRow l r st).getD i s0).sc = .hand a t ∧ Sec.hand a t ∈ aroundL l r i ∧ goTog (l.getD (r.getD i 0) s0).sh (l.getD (r.getD i 0) s0).mv (.hand a t) = true := by
  rw [seen_at2 l r st hi] at ne ⊢
  generalize hx : l.getD (r.getD i 0) s0 = x at ne ⊢
  have hs : x.sc = .non := Classical.byContradiction fun z => ne (seen_held z)
  refine ⟨hs, ?_⟩
  have key : ∀ (on : Bool) (o : Option Sgn) (q : Sec), takeH x on o = some q → ∃ t a b, o = some t ∧ t.sc = .hand a b ∧ q = .hand a b ∧ goTog x.sh x.mv (.hand a b) = true := fun on o q h => by
    cases o with
    | none => cases h
    | some t =>
      unfold takeH at h
      simp only at h
      split at h
      · rename_i a b e
        split at h
        · rename_i z
          cases h
          exact ⟨t, a, b, rfl, e, rfl, (Bool.and_eq_true_iff.mp z).2⟩
        · cases h
      · cases h
  have mem : ∀ (p : Int) (t : Sgn) (a : Shp) (b : Trn), p = (i : Int) - 1 ∨ p = (i : Int) + 1 → 0 ≤ p → (r[p.toNat]?).map (fun j => l.getD j s0) = some t → t.sc = .hand a b → Sec.hand a b ∈ aroundL l r i := fun p t a b hp p0 e et => by
    cases e2 : r[p.toNat]? with
    | none => rw [e2] at e; cases e
    | some j =>
      rw [e2] at e
      cases e
      obtain ⟨hl, _⟩ := List.getElem?_eq_some_iff.mp e2
      unfold aroundL
      refine List.mem_map.mpr ⟨p, ?_, ?_⟩
      · unfold aroundP
        refine List.mem_filter.mpr ⟨?_, ?_⟩
        · rcases hp with rfl | rfl <;> simp
        · rw [decide_eq_true p0, decide_eq_true (show p < (r.length : Int) by omega)]; rfl
      · rw [List.getD_eq_getElem?_getD (l := r), e2]; exact et
  unfold seenB at ne ⊢
  rw [if_pos hs] at ne ⊢
  cases h1 : takeH x st.1 (if i = 0 then none else (r[i - 1]?).map fun j => l.getD j s0) with
  | some q =>
    obtain ⟨t, a, b, e1, e2, rfl, e3⟩ := key _ _ _ h1
    refine ⟨a, b, rfl, ?_, e3⟩
    by_cases z : i = 0
    · rw [if_pos z] at e1; cases e1
    · rw [if_neg z] at e1
      refine mem ((i : Int) - 1) t a b (.inl rfl) (by omega) ?_ e2
      rw [show ((i : Int) - 1).toNat = i - 1 by omega]; exact e1
  | none =>
    rw [h1] at ne
    cases h2 : takeH x st.2 ((r[i + 1]?).map fun j => l.getD j s0) with
    | some q =>
      obtain ⟨t, a, b, e1, e2, rfl, e3⟩ := key _ _ _ h2
      refine ⟨a, b, rfl, ?_, e3⟩
      refine mem ((i : Int) + 1) t a b (.inr rfl) (by omega) ?_ e2
      rw [show ((i : Int) + 1).toNat = i + 1 by omega]; exact e1
    | none =>
      rw [h2] at ne
      exact absurd rfl ne
/-- seen and written differ in the second hand alone -/
theorem seen_unlike {l : List Sgn} {r : List Nat} {st : Bool × Bool} {i : Nat} (hi : i < r.length) : unlikeL ((shownRow l r st).getD i s0) (l.getD (r.getD i 0) s0) = [] ∨ unlikeL ((shownRow l r st).getD i s0) (l.getD (r.getD i 0) s0) = [4] := by
  rw [seen_at2 l r st hi]
  obtain ⟨c, e⟩ := seen_is (if i = 0 then none else (r[i - 1]?).map fun j => l.getD j s0) (l.getD (r.getD i 0) s0) ((r[i + 1]?).map fun j => l.getD j s0) st
  rw [e]
  unfold unlikeL
  simp only [if_true, List.nil_append]
  split
  · exact .inl rfl
  · exact .inr rfl
theorem gls_hidD {l : List Sgn} {r : List Nat} {st : Bool × Bool} {v : List Nat} (h : ∀ i ∈ v, i < 4) : glsD l r st v = glsD l r (false, false) v := by
  unfold glsD
  have hf : ∀ st, (shownRow l r st).map (glD v) = (pick l r).map (glD v) := fun st => map_seen (glD v) (pick l r) st fun p x n => by
    obtain ⟨c, e⟩ := seen_is p x n st
    rw [e]
    unfold glD
    congr 1
    refine List.map_congr_left fun i hi => ?_
    have := h i hi
    match i, this with
    | 0, _ => rfl
    | 1, _ => rfl
    | 2, _ => rfl
    | 3, _ => rfl
  rw [hf st, hf (false, false)]
end DL
namespace DL
open PySem PySem.Spec PyProof.Rows L2
theorem gls_all (l : List Sgn) (r : List Nat) (st : Bool × Bool) : glsD l r st [0, 1, 2, 3, 4] = .tup ((shownRow l r st).map Sgn.d) := rfl
theorem notN_run {q : Sec} {K : Bool → Prop} (b : Bool) (h : decide (q ≠ .non) = b) (k : K b) : fNotN q.d .non (isB K) := by
  cases q with
  | non => have : b = false := by rw [← h]; rfl
           subst this; exact k
  | m => have : b = true := by rw [← h]; rfl
         subst this; exact k
  | hand a t => have : b = true := by rw [← h]; rfl
                subst this; exact k
theorem inL_Sc (q : Sec) (qs : List Sec) : inL q.d (qs.map Sec.d) = decide (q ∈ qs) := by
  unfold inL
  rw [List.any_map, Bool.eq_iff_iff, List.any_eq_true, decide_eq_true_eq]
  constructor
  · rintro ⟨x, hx, e⟩
    rw [Function.comp_apply, sc_eq] at e
    have := of_decide_eq_true e
    subst this; exact hx
  · intro h
    exact ⟨q, h, by rw [Function.comp_apply, sc_eq]; simp⟩
theorem shp_Scs (qs : List Sec) : shp (.lst (qs.map Sec.d)) = true := (shn_lst (n := 1) fun d hd => by
  obtain ⟨q, _, rfl⟩ := List.mem_map.mp hd
  exact shn_Sc q).shp
theorem gt_enZ {i j k : Nat} {a b c : D} {ρ : Rho} {P : Rho → Prop} (h : P (((ρ.set i (.val a)).set j (.val b)).set k (.val c))) : gT 2 (gsCons (gN i) (gsCons (gT 2 (gsCons (gN j) (gsCons (gN k) gsNil))) gsNil)) (.tup [a, .tup [b, c]]) ρ P := by
  refine ⟨rfl, rfl, ?_⟩
  simp only [gsCons, gsNil, gN]
  exact ⟨trivial, trivial, h⟩
def t_law : DST :=
    (sSeq (sAsg (dCall sd_law_begun dNil) (gN 1))
    (sSeq (sFor (dRange (dC (.int 6))) (gN 2)
      (sSeq (sAsg (dTup (dCons (dCall sd_law_signs (dCons (dV 0) (dCons (dV 1) (dCons (dC (.int 5)) dNil)))) (dCons (dCall sd_law_style (dCons (dV 0) (dCons (dV 1) dNil))) (dCons (dCall sd_law_view (dCons (dV 0) (dCons (dV 1) dNil))) dNil)))) (gT 3 (gsCons (gN 3) (gsCons (gN 4) (gsCons (gN 5) gsNil)))))
      (sSeq (sAsg (dCall sd_law_line (dCons (dV 0) (dCons (dV 1) (dCons (dLen (dV 3)) (dCons (dC (.int 7)) dNil))))) (gN 6))
      (sSeq (sAsg (dCall sd_shown (dCons (dV 3) (dCons (dV 6) (dCons (dV 4) dNil)))) (gN 7))
      (sSeq (sIf (qOr (qV (dOp fNe (dLen (dV 7)) (dLen (dV 6)))) (qNot (qV (dCall sd_law_mirror (dCons (dV 3) (dCons (dV 6) (dCons (dV 4) dNil)))))))
        (sRet (dC (.bl false)))
        sNext)
      (sSeq (sFor (dEnumZ (dV 6) (dV 7)) (gT 2 (gsCons (gN 8) (gsCons (gT 2 (gsCons (gN 9) (gsCons (gN 10) gsNil))) gsNil)))
        (sSeq (sAsg (dOp fIx (dV 3) (dV 9)) (gN 11))
        (sSeq (sIf (qNot (qV (dCall sd_is_sign (dCons (dV 10) dNil))))
          (sRet (dC (.bl false)))
          sNext)
        (sSeq (sIf (qV (dOp (fIn true) (dCall sd_differences (dCons (dV 10) (dCons (dV 11) dNil))) (dTup (dCons (dTup dNil) (dCons (dTup (dCons (dC (.int 4)) dNil)) dNil)))))
          (sRet (dC (.bl false)))
          sNext)
        (sSeq (sIf (qAnd (qV (dOp fNe (dV 10) (dV 11))) (qV (dOp fNotN (dOp fIx (dV 11) (dC (.int 4))) (dC .non))))
          (sRet (dC (.bl false)))
          sNext)
        (sSeq (sAsgL 12 (dLc (dItems (dTup (dCons (dOp (fII fun i j => .int (i - j)) (dV 8) (dC (.int 1))) (dCons (dOp fAdd (dV 8) (dC (.int 1))) dNil)))) (gN 13) (qV (dChain (fII fun i j => .bl (decide (i ≤ j))) fLt (dC (.int 0)) (dV 13) (dLen (dV 6)))) (dOp fIx (dOp fIx (dV 3) (dOp fIx (dV 6) (dV 13))) (dC (.int 4))) [13]))
        (sSeq (sIf (qAnd (qV (dOp fNe (dV 10) (dV 11))) (qOr (qV (dOp (fIn true) (dOp fIx (dV 10) (dC (.int 4))) (dV 12))) (qNot (qV (dCall sd_can_rest (dCons (dV 11) (dCons (dOp fIx (dV 10) (dC (.int 4))) dNil)))))))
          (sRet (dC (.bl false)))
          sNext)
        (sIf (qV (dOp fNotN (dOp fIx (dV 11) (dC (.int 4))) (dC .non)))
          (sSeq (sPar 14 15 (dCons (dCall sd_shown (dCons (dV 3) (dCons (dSl (dV 6) dNoP (dP (dOp fAdd (dV 8) (dC (.int 1))))) (dCons (dV 4) dNil)))) (dCons (dCall sd_shown (dCons (dV 3) (dCons (dSl (dV 6) (dP (dV 8)) dNoP) (dCons (dV 4) dNil)))) dNil)))
          (sIf (qV (dOp fNe (dOp fAdd (dV 14) (dSl (dV 15) (dP (dC (.int 1))) dNoP)) (dV 7)))
            (sRet (dC (.bl false)))
            sNext))
          sNext))))))))
      (sSeq (sIf (qV (dOp fNe (dCall sd_shown (dCons (dV 3) (dCons (dV 6) (dCons (dTup (dCons (dC (.bl false)) (dCons (dC (.bl false)) dNil))) dNil)))) (dTuple (dOfL (dLc (dItems (dV 6)) (gN 9) qYes (dOp fIx (dV 3) (dV 9)) [9])))))
        (sRet (dC (.bl false)))
        sNext)
      (sSeq (sIf (qV (dOp fNe (dCall sd_glances (dCons (dV 3) (dCons (dV 6) (dCons (dV 4) (dCons (dTup (dCons (dC (.int 0)) (dCons (dC (.int 1)) (dCons (dC (.int 2)) (dCons (dC (.int 3)) (dCons (dC (.int 4)) dNil)))))) dNil))))) (dV 7)))
        (sRet (dC (.bl false)))
        sNext)
      (sSeq (sIf (qV (dOp fNe (dCall sd_glances (dCons (dV 3) (dCons (dV 6) (dCons (dV 4) (dCons (dV 5) dNil))))) (dTuple (dOfL (dLc (dItems (dV 7)) (gN 10) qYes (dTuple (dOfL (dLc (dItems (dV 5)) (gN 16) qYes (dOp fIx (dV 10) (dV 16)) [16]))) [10])))))
        (sRet (dC (.bl false)))
        sNext)
      (sSeq (sAsg (dTuple (dOfL (dLc (dItems (dV 5)) (gN 16) (qV (dOp fNe (dV 16) (dC (.int 4)))) (dV 16) [16]))) (gN 17))
      (sIf (qV (dOp fNe (dCall sd_glances (dCons (dV 3) (dCons (dV 6) (dCons (dV 4) (dCons (dV 17) dNil))))) (dCall sd_glances (dCons (dV 3) (dCons (dV 6) (dCons (dTup (dCons (dC (.bl false)) (dCons (dC (.bl false)) dNil))) (dCons (dV 17) dNil)))))))
        (sRet (dC (.bl false)))
        sNext)))))))))))
    (sRet (dC (.bl true)))))

theorem vc_law : ∀ ds P R, sd_law ds P R → t_law (startR ["_law_script", "_law_town", "_law_k", "_law_signs_here", "_law_style_here", "_law_view_here", "_law_row", "_law_seen", "_law_at", "_law_number", "_law_one", "_law_here", "_law_around", "_law_place", "_law_first", "_law_second", "_law_thing", "_law_hidden"] ds) ⟨fun _ => P .non, P, fun _ => False, fun _ => False, R⟩ := fun ds P R h => by
  obtain ⟨rfl, h⟩ := h
  unfold t_law startR
  refine seq_asg .town (fun P k => ⟨rfl, k⟩) ?_
  refine seq_for (rangeD 0 6) (fun P k => ⟨⟨by decide, by decide⟩, k⟩) ?_
  refine for_odds (fun ρ => ∃ x2 x3 x4 x5 x6 x7 x8 x9 x10 x11 x12 x13 x14 x15 x16 x17 : Sl, ρ = [.val .scr, .val .town, x2, x3, x4, x5, x6, x7, x8, x9, x10, x11, x12, x13, x14, x15, x16, x17]) _ _ ⟨_, _, _, _, _, _, _, _, _, _, _, _, _, _, _, _, rfl⟩ ?_ ?_
  rotate_left
  · rintro _ ⟨x2, x3, x4, x5, x6, x7, x8, x9, x10, x11, x12, x13, x14, x15, x16, x17, rfl⟩
    dsimp only
    exact one_ret (.bl true) (fun P k => k) h
  rintro x hx _ ⟨x2, x3, x4, x5, x6, x7, x8, x9, x10, x11, x12, x13, x14, x15, x16, x17, rfl⟩ N hN
  simp only [List.set_cons_succ, List.set_cons_zero]
  refine ⟨5, rfl, ⟨by decide, by decide⟩, fun l ol l5 => ⟨rfl, fun st => ⟨rfl, fun v ov => ⟨line3, rfl, rfl, ?_⟩⟩⟩⟩
  obtain ⟨l1, l6⟩ := okL_len ol
  simp only [List.set_cons_succ, List.set_cons_zero]
  refine ⟨l.length, 7, by show [D.scr, .town, .int ((l.map Sgn.d).length : Int), .int 7] = _; rw [List.length_map]; rfl, ⟨by omega, by omega⟩, by decide, fun r r7 rl => ?_⟩
  have r8 : r.length ≤ 8 := by omega
  simp only [List.set_cons_succ, List.set_cons_zero]
  refine seq_asg (.tup ((shownRow l r st).map Sgn.d)) (fun P k => shown_ok ol r8 rl k) ?_
  simp only [List.set_cons_succ, List.set_cons_zero]
  refine seq_chk (fun K kk => ?_) ?_
  · refine or_f (fun P k => intq_run (r.length : Int) (fun P k => len_run ((shownRow l r st).map Sgn.d) (fun P k => k) (by rw [List.length_map, shownRow_len]; exact k)) (fun P k => len_run (r.map natD) (fun P k => k) (by rw [List.length_map]; exact k)) k) ?_
    exact not_run true (fun P k => call3_run (SsD l) (rowD r) (styD st) (fun P k => k) (fun P k => k) (fun P k => k) ⟨l, r, st, rfl, ol, r8, rl, k⟩) kk
  refine seq_for ((List.range r.length).map fun i => D.tup [natD i, .tup [natD (r.getD i 0), ((shownRow l r st).getD i s0).d]]) (fun P k => ?_) ?_
  · rw [← enumZ_row r (shownRow l r st) (shownRow_len l r st)] at k
    exact k
  refine for_oddsG (fun ρ => ∃ x8 x9 x10 x11 x12 x13 x14 x15 : Sl, ρ = [.val .scr, .val .town, .val x, .val (SsD l), .val (styD st), .val (rowD v), .val (rowD r), .val (.tup ((shownRow l r st).map Sgn.d)), x8, x9, x10, x11, x12, x13, x14, x15, x16, x17]) _ _ ⟨_, _, _, _, _, _, _, _, rfl⟩ ?_ ?_
  · rintro i hi _ ⟨x8, x9, x10, x11, x12, x13, x14, x15, rfl⟩ N2 hN2
    have hi := List.mem_range.mp hi
    have hj : r.getD i 0 < l.length := rl _ (by rw [List.getD_eq_getElem?_getD, List.getElem?_eq_getElem hi]; exact List.getElem_mem hi)
    have gx : (l.getD (r.getD i 0) s0).good = true := getD_good ol _
    have gy : ((shownRow l r st).getD i s0).good = true := by
      rw [List.getD_eq_getElem?_getD, List.getElem?_eq_getElem (by rw [shownRow_len]; exact hi)]
      exact shown_good ol _ (List.getElem_mem _)
    have un := seen_unlike (l := l) (r := r) (st := st) hi
    have hb := held_by (l := l) (r := r) (st := st) hi
    have ch := cut_here l r st hi
    generalize hX : l.getD (r.getD i 0) s0 = X at *
    generalize hY : (shownRow l r st).getD i s0 = Y at *
    refine gt_enZ ?_
    simp only [List.set_cons_succ, List.set_cons_zero]
    refine seq_asg X.d (fun P k => op2_run (SsD l) (natD (r.getD i 0)) (fun P k => k) (fun P k => k) (at_Ss l (r.getD i 0) hj P (by rw [hX]; exact k))) ?_
    simp only [List.set_cons_succ, List.set_cons_zero]
    refine seq_chk (fun K kk => ?_) ?_
    · exact not_run true (fun P k => call1_run Y.d (fun P k => k) ⟨plain_S Y, by rw [isSign_d, gy]; exact k⟩) kk
    refine seq_chk (fun K kk => ?_) ?_
    · refine opq_run (.tup ((unlikeL Y X).map .int)) (.tup [.tup [], .tup [.int 4]]) (fun P k => call2_run Y.d X.d (fun P k => k) (fun P k => k) (diff_ok gy gx k)) (fun P k => ⟨line0, line1, line2, k⟩) ?_
      rcases un with e | e <;> rw [e]
      · exact ⟨by decide +kernel, by decide +kernel, kk⟩
      · exact ⟨by decide +kernel, by decide +kernel, kk⟩
    refine seq_chk (fun K kk => ?_) ?_
    · refine and_b (!decide (Y = X)) (fun P k => nev_run Y.d X.d (fun P k => k) (fun P k => k) (ne_of' (decide (Y = X)) (shp_S _) (shp_S _) (eqD_S _ _) k)) (fun z => ?_) (fun _ => kk)
      rw [Bool.not_eq_true', decide_eq_false_iff_not] at z
      obtain ⟨hs, _⟩ := hb z
      exact opq_run X.sc.d .non (fun P k => op2_run X.d (.int 4) (fun P k => k) (fun P k => k) (fS_ent X 4 (by decide) P k)) (fun P k => k) (notN_run false (by rw [hs]; rfl) kk)
    refine seq_asgL ((aroundL l r i).map Sec.d) (fun P k => ?_) ?_
    · have hp : ∀ p : Int, (p = (i : Int) - 1 ∨ p = (i : Int) + 1) → (decide (0 ≤ p) && decide (p < (r.length : Int))) = true → ∃ k : Nat, p = (k : Int) ∧ k < r.length := fun p _ z => by
        obtain ⟨a, b⟩ := Bool.and_eq_true_iff.mp z
        have a := of_decide_eq_true a
        have b := of_decide_eq_true b
        exact ⟨p.toNat, by omega, by omega⟩
      refine ⟨line2, ?_⟩
      refine lc_gen (P := P) D.int (fun p => decide (0 ≤ p) && decide (p < (r.length : Int))) (fun p => (l.getD (r.getD p.toNat 0) s0).sc.d) [(i : Int) - 1, (i : Int) + 1] (fun p hp K k => ?_) (fun p hm z K k => ?_) (by unfold aroundL aroundP at k; rw [List.map_map] at k; exact k)
      · show (if decide ((0 : Int) ≤ p) = true then dLen (dV 6) _ (fun z => fLt (.int p) z (isB K)) _ else isB K (.bl false))
        cases c : decide ((0 : Int) ≤ p) with
        | false => rw [c] at k; exact k
        | true =>
          rw [c, Bool.true_and] at k
          rw [if_pos rfl]
          refine len_run (K := fun z => fLt (.int p) z (isB K)) (r.map natD) (fun P k => k) ?_
          rw [List.length_map]; exact k
      · obtain ⟨q, rfl, hq⟩ := hp p (by simpa using hm) z
        refine op2_run (l.getD (r.getD q 0) s0).d (.int 4) (fun P k => ?_) (fun P k => k) (fS_ent _ 4 (by decide) K k)
        refine op2_run (SsD l) (natD (r.getD q 0)) (fun P k => k) (fun P k => ?_) (at_Ss l (r.getD q 0) (rl _ (by rw [List.getD_eq_getElem?_getD, List.getElem?_eq_getElem hq]; exact List.getElem_mem hq)) P k)
        exact op2_run (rowD r) (natD q) (fun P k => k) (fun P k => k) (at_row r q hq P k)
    simp only [List.set_cons_succ, List.set_cons_zero]
    refine seq_chk (fun K kk => ?_) ?_
    · refine and_b (!decide (Y = X)) (fun P k => nev_run Y.d X.d (fun P k => k) (fun P k => k) (ne_of' (decide (Y = X)) (shp_S _) (shp_S _) (eqD_S _ _) k)) (fun z => ?_) (fun _ => kk)
      rw [Bool.not_eq_true', decide_eq_false_iff_not] at z
      obtain ⟨hs, a, t, e1, e2, e3⟩ := hb z
      have y4 : ∀ P : D → Prop, P (Sec.hand a t).d → fIx Y.d (.int 4) P := fun P k => fS_ent Y 4 (by decide) P (by show P Y.sc.d; rw [e1]; exact k)
      refine or_f (fun P k => ?_) ?_
      · refine opq_run (Sec.hand a t).d (.lst ((aroundL l r i).map Sec.d)) (fun P k => op2_run Y.d (.int 4) (fun P k => k) (fun P k => k) (y4 P k)) (fun P k => k) ⟨shp_Sc _, shp_Scs _, ?_⟩
        show P (!inL (Sec.hand a t).d ((aroundL l r i).map Sec.d))
        rw [inL_Sc, decide_eq_true e2]; exact k
      · refine not_run true (fun P k => call2_run X.d (Sec.hand a t).d (fun P k => k) (fun P k => op2_run Y.d (.int 4) (fun P k => k) (fun P k => k) (y4 P k)) (rest_ok gx (by rw [e3]; exact k))) kk
    refine one_if (decide (X.sc ≠ .non)) (fun P k => opq_run X.sc.d .non (fun P k => op2_run X.d (.int 4) (fun P k => k) (fun P k => k) (fS_ent X 4 (by decide) P k)) (fun P k => k) (notN_run _ rfl k)) (fun z => ?_) (fun _ => ?_)
    · have z := of_decide_eq_true z
      have ch := ch z
      have rt : ∀ {q : List Nat}, q.Sublist r → q.length ≤ 8 ∧ ∀ j ∈ q, j < l.length := fun s => ⟨Nat.le_trans s.length_le r8, fun j hj => rl j (s.subset hj)⟩
      have t1 := rt (List.take_sublist (i + 1) r)
      have t2 := rt (List.drop_sublist i r)
      refine seq_par (.tup ((shownRow l (r.take (i + 1)) st).map Sgn.d)) (.tup ((shownRow l (r.drop i) st).map Sgn.d)) (fun P k => ?_) ?_
      · refine par2_run _ _ (fun P k => call3_run (SsD l) (rowD (r.take (i + 1))) (styD st) (fun P k => k) (fun P k => ?_) (fun P k => k) (shown_ok ol t1.1 t1.2 k)) (fun P k => call3_run (SsD l) (rowD (r.drop i)) (styD st) (fun P k => k) (fun P k => ?_) (fun P k => k) (shown_ok ol t2.1 t2.2 k)) k
        · show P (D.tup (cutD (r.map natD) none (some ((i : Int) + 1))))
          have e : ((i : Int) + 1) = ((i + 1 : Nat) : Int) := rfl
          rw [e, cut_take _ (by rw [List.length_map]; omega), ← List.map_take]; exact k
        · show P (D.tup (cutD (r.map natD) (some (i : Int)) none))
          rw [cut_drop _ (by rw [List.length_map]; omega), ← List.map_drop]; exact k
      simp only [List.set_cons_succ, List.set_cons_zero]
      refine one_chk (fun K kk => ?_) (hN2 _ ⟨_, _, _, _, _, _, _, _, rfl⟩)
      refine neq_run (.tup ((shownRow l r st).map Sgn.d)) (shp_Ss _) (eqD_reflSs _) (fun P k => ?_) (fun P k => k) kk
      refine op2_run (.tup ((shownRow l (r.take (i + 1)) st).map Sgn.d)) (.tup (((shownRow l (r.drop i) st).map Sgn.d).drop 1)) (fun P k => k) (fun P k => ?_) ⟨?_, ?_⟩
      · show P (D.tup (cutD ((shownRow l (r.drop i) st).map Sgn.d) (some ((1 : Nat) : Int)) none))
        rw [cut_drop _ (by rw [List.length_map, shownRow_len, List.length_drop]; omega)]; exact k
      · rw [List.length_map, List.length_drop, List.length_map, shownRow_len, shownRow_len, List.length_take, List.length_drop]; exact ofNat_line (show _ ≤ 1000 by omega)
      · rw [← List.map_drop, ← List.map_append, ch]; exact k
    · exact hN2 _ ⟨_, _, _, _, _, _, _, _, rfl⟩
  · rintro _ ⟨x8, x9, x10, x11, x12, x13, x14, x15, rfl⟩
    dsimp only
    refine seq_chk (fun K kk => ?_) ?_
    · refine neq_run (.tup ((pick l r).map Sgn.d)) (shp_Ss _) (eqD_reflSs _) (fun P k => call3_run (SsD l) (rowD r) (styD (false, false)) (fun P k => k) (fun P k => k) (fun P k => ⟨line2, k⟩) (shown_ok ol r8 rl (by rw [shown_off]; exact k))) (fun P k => ?_) kk
      refine tupLc_run (r.map natD) (fun P k => k) ?_
      exact lc_pick l r rl (fun i K k => k) k
    refine seq_chk (fun K kk => ?_) ?_
    · refine neq_run (.tup ((shownRow l r st).map Sgn.d)) (shp_Ss _) (eqD_reflSs _) (fun P k => call4_run (SsD l) (rowD r) (styD st) (rowD [0, 1, 2, 3, 4]) (fun P k => k) (fun P k => k) (fun P k => k) (fun P k => ⟨line5, k⟩) (glances_ok ol r8 rl ov_all (by rw [gls_all]; exact k))) (fun P k => k) kk
    refine seq_chk (fun K kk => ?_) ?_
    · refine neq_run (glsD l r st v) (shn_gls _ _ _ _).shp (eqD_gls _ _ _ _) (fun P k => call4_run (SsD l) (rowD r) (styD st) (rowD v) (fun P k => k) (fun P k => k) (fun P k => k) (fun P k => k) (glances_ok ol r8 rl ov k)) (fun P k => ?_) kk
      refine tupLc_run ((shownRow l r st).map Sgn.d) (fun P k => k) ?_
      refine lc_map Sgn.d (glD v) (shownRow l r st) (fun s _ K k => ?_) k
      refine tupLc_run (v.map natD) (fun P k => k) ?_
      exact lc_map natD (ent s) v (fun i hi K k => op2_run s.d (natD i) (fun P k => k) (fun P k => k) (fS_ent s i (ov.le i hi) K k)) k
    have oh : OkV (v.filter fun i => !decide (i = 4)) := ⟨fun i hi => ov.le i (List.mem_filter.mp hi).1, ov.asc.filter _⟩
    have h4 : ∀ i ∈ v.filter (fun i => !decide (i = 4)), i < 4 := fun i hi => by
      obtain ⟨a, b⟩ := List.mem_filter.mp hi
      rw [Bool.not_eq_true', decide_eq_false_iff_not] at b
      have := ov.le i a; omega
    refine seq_asg (rowD (v.filter fun i => !decide (i = 4))) (fun P k => ?_) ?_
    · refine lc_gen (P := fun ds => P (.tup ds)) natD (fun i => !decide (i = 4)) natD v (fun j hj K k => ?_) (fun j hj _ K k => k) k
      refine opq_run (natD j) (.int ((4 : Nat) : Int)) (fun P k => k) (fun P k => k) ⟨shp_int _, shp_int _, ?_⟩
      show K (!eqD (.int (j : Int)) (.int ((4 : Nat) : Int)))
      rw [eqI]; exact k
    simp only [List.set_cons_succ, List.set_cons_zero]
    refine one_chk (fun K kk => ?_) (hN _ ⟨_, _, _, _, _, _, _, _, _, _, _, _, _, _, _, _, rfl⟩)
    refine neq_run (glsD l r (false, false) (v.filter fun i => !decide (i = 4))) (shn_gls _ _ _ _).shp (eqD_gls _ _ _ _) (fun P k => glances_ok ol r8 rl oh (by rw [gls_hidD h4]; exact k)) (fun P k => call4_run (SsD l) (rowD r) (styD (false, false)) (rowD _) (fun P k => k) (fun P k => k) (fun P k => ⟨line2, k⟩) (fun P k => k) (glances_ok ol r8 rl oh k)) kk
end DL
namespace DL
open PySem PySem.Spec PyProof.Rows L2
def topS (i : Nat) : Stmt := PySem.Challenge.pw_signscribes_k09_whole_rows.main.body.getD i (.Pass ⟨0, 0, 0, 0⟩)
def dd (i : Nat) (x : Str) : He.DefD := ⟨(x, none), x, x, defArgs (topS i), defBody (topS i), defScope (topS i), [], []⟩
def fn : List He.DefD := [dd 14 "is_between", dd 15 "is_letter", dd 16 "is_hand", dd 17 "is_entry", dd 18 "do_go_together", dd 19 "is_sign", dd 20 "check_sign", dd 21 "with_hand", dd 22 "can_hold", dd 23 "can_rest", dd 24 "check_two", dd 25 "unlike_in", dd 26 "differences", dd 27 "swapped", dd 28 "turned_over", dd 29 "mirrored", dd 30 "sign_text", dd 32 "are_signs", dd 33 "check_signs", dd 34 "is_row", dd 35 "check_row", dd 36 "check_style", dd 37 "check_view", dd 38 "seen_between", dd 39 "seen_row", dd 40 "shown_row", dd 41 "shown", dd 42 "glance", dd 43 "glances_of", dd 44 "glances", dd 46 "_law_draw", dd 47 "_law_begun", dd 48 "_law_sign", dd 49 "_law_written", dd 50 "_law_good", dd 51 "_law_near", dd 52 "_law_signs", dd 53 "_law_view", dd 54 "_law_style", dd 55 "_law_line", dd 56 "_law_mirror", dd 57 "law"]
def fa : List He.Fa := [.glo "is_between", .glo "is_letter", .glo "is_hand", .glo "is_entry", .glo "do_go_together", .glo "is_sign", .glo "check_sign", .glo "with_hand", .glo "can_hold", .glo "can_rest", .glo "check_two", .glo "unlike_in", .glo "differences", .glo "swapped", .glo "turned_over", .glo "mirrored", .glo "sign_text", .glo "are_signs", .glo "check_signs", .glo "is_row", .glo "check_row", .glo "check_style", .glo "check_view", .glo "seen_between", .glo "seen_row", .glo "shown_row", .glo "shown", .glo "glance", .glo "glances_of", .glo "glances", .glo "_law_draw", .glo "_law_begun", .glo "_law_sign", .glo "_law_written", .glo "_law_good", .glo "_law_near", .glo "_law_signs", .glo "_law_view", .glo "_law_style", .glo "_law_line", .glo "_law_mirror", .glo "law", .glo "HandError", .glo "InvalidSign", .glo "InvalidHand", .glo "InvalidSigns", .glo "InvalidRow", .glo "InvalidStyle", .glo "InvalidView", .free "all", .free "bool", .free "dict", .free "enumerate", .free "int", .free "isinstance", .free "len", .free "list", .free "range", .free "sorted", .free "str", .free "tuple", .free "zip", .str "SHAPES" "abcd", .str "SIMPLE" "ab", .str "TURNS" "iolr", .str "MOVES" "nuwlr", .int "PLACES" 3, .exc "InvalidSign", .exc "InvalidHand", .exc "InvalidSigns", .exc "InvalidRow", .exc "InvalidStyle", .exc "InvalidView"]
abbrev Cn := CnG fa fn
abbrev jj (K : PySem.W.Frag) : Jd := jd K
section
variable {P : Program} {w : World} {K : PySem.W.Frag} {h base : Heap} {mg : Str → Option Value}
theorem sc__law_begun : FnScope [] [] (defScope (topS 47)) := ⟨rfl, rfl, rfl, by decide +kernel, rfl, by decide +kernel, by decide +kernel⟩
theorem ok__law_begun (C : Cn K h mg) : OkF P w K mg base (jj K) "_law_begun" 1 [] sd_law_begun (topS 47) := by
  obtain ⟨fd, F⟩ := C.fn 31 (x := "_law_begun") (st := topS 47) rfl
  refine ⟨fd, begun_ok (F.ok sc__law_begun (fun vs H Q E h => ?_) fun cdv A outer s H vs Q E hr h => ?_), C.gl 31 rfl, F.kp, F.bindsN fun _ _ _ _ _ _ us hl => match us, hl with | [], _ => rfl, F⟩
  · obtain ⟨rfl, _⟩ := h; rfl
  refine ⟨_, PSs.nox (pss_one (ps_ret (pe_disp (pps_cons pe_str pe_int (pps_cons pe_str pe_dnewK pps_nil)) rfl rfl (by simp) (by show 2 ≤ 15; decide)))), ?_⟩
  obtain ⟨rfl, h⟩ := h
  intro t nt r nr
  have ne : t ≠ r := fun z => by rw [z, upd_same] at nr; cases nr
  have nr2 : H r = none := by rw [upd_ne (Ne.symm ne)] at nr; exact nr
  refine ⟨by rw [upd_ne ne, upd_same], [(.inr "count", .int 0), (.inr "rests", .ref r)], rfl, by show 2 ≤ 15; decide, ?_⟩
  rw [begun_end ne]
  exact h t r ne nt nr2

theorem sc__law_draw : FnScope ["_law_script", "_law_town", "_law_many", "_law_at", "_law_rest", "_law_number"] ["_law_script", "_law_town", "_law_many"] (defScope (topS 46)) := ⟨rfl, rfl, rfl, by decide +kernel, rfl, by decide +kernel, by decide +kernel⟩
theorem ok__law_draw (C : Cn K h mg) : OkF P w K mg base (jj K) "_law_draw" 1 ["_law_script", "_law_town", "_law_many"] sd_law_draw (topS 46) := by
  obtain ⟨fd, F⟩ := C.fn 30 (x := "_law_draw") (st := topS 46) rfl
  have z_len : mg "len" = none := C.fr 55 rfl
  refine ⟨fd, draw_ok (F.ok sc__law_draw (fun vs H Q E h => ?_) fun cdv A outer s H vs Q E hr h => ?_) rfl, C.gl 30 rfl, F.kp, F.bindsN fun _ _ _ _ _ _ us hl => match us, hl with | [_, _, _], _ => rfl, F⟩
  · obtain ⟨_, _, _, _, _, _, _, rfl, _⟩ := h; rfl
  have hu := units65 hr
  have hu1 : (A.deeper (envOfC "_law_draw" (defScope (topS 46)) s.heap.objs.size (He.ga K "_law_draw") cdv)).units + 1 < cLine := by omega
  refine ⟨_, PSs.nox (pss_cons (ps_dput hu1 (pv 1) pe_str (pe_op op_add (pe_dget hu1 (pv 1) pe_str (fun _ _ => rfl)) pe_int) rfl)
    (pss_cons (ps_set (i := 3) sc__law_draw.nd rfl (Or.inl rfl) (pe_ifExp (pt_truth (pv 0) (fun _ => rfl)) (pe_op op_mod (pe_dget hu1 (pv 1) pe_str (fun _ _ => rfl)) (pe_callB call_len_seq (by rfl) z_len PySem.boot_len (pa_cons (pv 0) pa_nil))) pe_int))
    (pss_cons (ps_set (i := 4) sc__law_draw.nd rfl (Or.inl rfl) (pe_dget2 hu1 (pe_dget hu1 (pv 1) pe_str (fun _ _ => rfl)) (pv 3) (pe_ifExp (pt_truth (pv 0) (fun _ => rfl)) (pe_ix ix_list (pv 0) (pv 3) (fun _ _ => rfl)) pe_int) ⟨rfl, rfl, rfl, rfl⟩))
    (pss_cons (ps_if (pt_cmpR op_ge (pv 4) (pe_op op_pow pe_int pe_int) (nomark _)) (pss_cons (ps_dput hu1 (pe_dget hu1 (pv 1) pe_str (fun _ _ => rfl)) (pv 3) (pe_op op_fdiv (pv 4) (pv 2)) rfl) (pss_one (ps_ret (pe_op op_mod (pv 4) (pv 2))))) pss_nil)
    (pss_cons (ps_set (i := 5) sc__law_draw.nd rfl (Or.inl rfl) (pe_op op_mod (pe_op op_add (pv 4) (pe_op op_mul pe_int (pe_dget hu1 (pv 1) pe_str (fun _ _ => rfl)))) pe_int))
    (pss_cons (ps_set (i := 5) sc__law_draw.nd rfl (Or.inl rfl) (pe_op op_mod (pe_op op_pow (pv 5) pe_int) pe_int))
    (pss_one (ps_ret (pe_op op_mod (pe_op op_fdiv (pe_op op_mod (pe_op op_add (pe_op op_mul (pe_op op_fdiv (pv 5) pe_int) pe_int) (pv 5)) pe_int) pe_int) (pv 2)))))))))), ?_⟩
  obtain ⟨sa, t, r, ns, c, kvs, n, rfl, hn, sq, hns, ne, ht, hr', hk, fin⟩ := h
  have e0 := known_self ht hr' (c := c)
  rw [e0] at sq ⊢
  have gc : ∀ (c : Int) kvs, DGet (knownH H t r c kvs) t (.str "count") (some (.int c)) := fun c kvs => by rw [← townKv_count r c]; exact DGet.k (k := .inr "count") (known_t ne)
  have gr : ∀ (c : Int) kvs, DGet (knownH H t r c kvs) t (.str "rests") (some (.ref r)) := fun c kvs => by rw [← townKv_rests r c]; exact DGet.k (k := .inr "rests") (known_t ne)
  have sqn : ∀ c' kvs', SqL K (knownH H t r c' kvs') sa (ns.map V.int) := fun c' kvs' => sq_known ne sq
  -- count = count + 1
  refine ⟨.ref t, rfl, t, _, rfl, gc c kvs, c, 1, rfl, rfl, .ref t, rfl, t, _, rfl, .inl ⟨_, .inr "count", known_t ne, rfl, by show 2 < sizeLine; decide, rfl⟩, ?_⟩
  rw [townKv_put, known_putT ne]
  -- at
  have hat : ∀ (Q : V → Hp → Prop), (∀ i : Nat, i < 64 → (ns ≠ [] → i < ns.length) → Q (.int (i : Int)) (knownH H t r (c + 1) kvs)) → ∀ σ : St, σ[0]? = some (some (.ref sa)) → σ[1]? = some (some (.ref t)) → tAt K σ (knownH H t r (c + 1) kvs) Q := fun Q f σ h0 h1 => by
    refine ⟨.ref sa, h0, _, .inl ⟨_, sqn _ _, rfl⟩, ?_⟩
    cases hz : ns with
    | nil => exact f 0 (by omega) (fun z => absurd hz z)
    | cons x xs =>
      refine ⟨.ref t, h1, t, _, rfl, gc _ _, .ref sa, h0, sa, _, rfl, .inl (sqn _ _), c + 1, ((ns.map V.int).length : Int), rfl, rfl, ?_, ?_⟩
      · rw [hz, List.length_map, List.length_cons]; omega
      · have hl : 0 < ns.length := by rw [hz]; exact Nat.succ_pos _
        rw [List.length_map]
        have h1 := Int.emod_nonneg (c + 1) (b := (ns.length : Int)) (by omega)
        have h2 := Int.emod_lt_of_pos (c + 1) (b := (ns.length : Int)) (by omega)
        obtain ⟨i, hi⟩ := Int.eq_ofNat_of_zero_le h1
        show Q (.int ((c + 1) % (ns.length : Int))) _
        rw [hi]
        exact f i (by omega) (fun _ => by omega)
  refine hat _ (fun i hi hin => ?_) _ rfl rfl
  -- rest
  have hde : ∀ (Q : V → Hp → Prop), (∀ j : Int, Q (.int j) (knownH H t r (c + 1) kvs)) → ∀ σ : St, σ[0]? = some (some (.ref sa)) → σ[3]? = some (some (.int (i : Int))) → tDe K σ (knownH H t r (c + 1) kvs) Q := fun Q f σ h0 h3 => by
    refine ⟨.ref sa, h0, _, .inl ⟨_, sqn _ _, rfl⟩, ?_⟩
    cases hz : ns with
    | nil => exact f 0
    | cons x xs =>
      have hl := hin (by rw [hz]; exact List.cons_ne_nil _ _)
      refine ⟨.ref sa, h0, .int (i : Int), h3, sa, ns.map V.int, (i : Int), .int (ns[i]'hl), rfl, rfl, sqn _ _, ?_, f _⟩
      exact atI_nat (by rw [List.getElem?_map, List.getElem?_eq_getElem hl]; rfl)
  refine ⟨.ref t, rfl, t, _, rfl, gr _ _, r, rfl, isd known_r, .int (i : Int), rfl, hde _ (fun j => ?_) _ rfl rfl⟩
  refine ⟨_, DGet.k (k := .inl (i : Int)) known_r, ?_⟩
  obtain ⟨m, hm⟩ : ∃ m : Int, (valV kvs (.inl (i : Int))).getD (V.int j) = .int m := by
    cases z : valV kvs (.inl (i : Int)) with
    | none => exact ⟨j, rfl⟩
    | some v =>
      obtain ⟨m, rfl⟩ := hk.val z
      exact ⟨m, rfl⟩
  rw [hm]
  -- if rest >= 10 ** 18
  refine ⟨.int m, rfl, 10, 18, rfl, rfl, ⟨by decide, by decide, by decide⟩, m, 10 ^ 18, rfl, rfl, _, rfl, ?_⟩
  refine ite2 (fun _ => ?_) fun _ => ?_
  · refine ⟨.int m, rfl, .int n, rfl, m, n, rfl, rfl, ⟨hn.1, by omega⟩, .ref t, rfl, t, _, rfl, gr _ _, .int (i : Int), rfl, r, _, rfl, .inl ⟨kvs, .inl (i : Int), known_r, rfl, Nat.lt_of_le_of_lt hk.len (by rw [sizeLine_eq]; decide), rfl⟩, ?_⟩
    rw [known_putR]
    refine ⟨.int m, rfl, .int n, rfl, m, n, rfl, rfl, hn.1, ?_⟩
    have := fin (m % n) (c + 1) (putK kvs (.inl (i : Int)) (.int (m / n))) (Int.emod_nonneg m (by omega)) (Int.emod_lt_of_pos m hn.1) (hk.put hi _)
    exact this
  -- the number
  refine ⟨.int m, rfl, .ref t, rfl, t, _, rfl, gc _ _, 104729, c + 1, rfl, rfl, .inl ⟨by decide, by decide⟩, m, 104729 * (c + 1), rfl, rfl, _, 4294967291, rfl, rfl, by show (0 : Int) < 4294967291; decide, ?_⟩
  have q1 := Int.emod_nonneg (m + 104729 * (c + 1)) (b := 4294967291) (by decide)
  have q2 := Int.emod_lt_of_pos (m + 104729 * (c + 1)) (b := 4294967291) (by decide)
  dsimp only
  generalize (m + 104729 * (c + 1)) % 4294967291 = u at q1 q2 ⊢
  refine ⟨.int u, rfl, u, 5, rfl, rfl, ⟨by decide, by decide, by omega⟩, u ^ (5 : Int).toNat, 4294967279, rfl, rfl, by show (0 : Int) < 4294967279; decide, ?_⟩
  have q3 := Int.emod_nonneg (u ^ (5 : Int).toNat) (b := 4294967279) (by decide)
  have q4 := Int.emod_lt_of_pos (u ^ (5 : Int).toNat) (b := 4294967279) (by decide)
  dsimp only
  generalize u ^ (5 : Int).toNat % 4294967279 = x at q3 q4 ⊢
  refine ⟨.int x, rfl, x, 64, rfl, rfl, ⟨by decide, by decide⟩, x / 64, 69621, rfl, rfl, .inr ⟨by decide, by decide⟩, .int x, rfl, x / 64 * 69621, x, rfl, rfl, x / 64 * 69621 + x, 4294967231, rfl, rfl, by show (0 : Int) < 4294967231; decide, _, 8, rfl, rfl, ⟨by decide, by decide⟩, .int n, rfl, _, n, rfl, rfl, hn.1, ?_⟩
  exact fin _ (c + 1) kvs (Int.emod_nonneg _ (by omega)) (Int.emod_lt_of_pos _ hn.1) hk

theorem sc__law_line : FnScope ["_law_script", "_law_town", "_law_many", "_law_most", "_law_k"] ["_law_script", "_law_town", "_law_many", "_law_most"] (defScope (topS 55)) := ⟨rfl, rfl, rfl, by decide +kernel, rfl, by decide +kernel, by decide +kernel⟩
theorem ok__law_line (C : Cn K h mg) : OkF P w K mg base (jj K) "_law_line" 2 ["_law_script", "_law_town", "_law_many", "_law_most"] sd_law_line (topS 55) := by
  obtain ⟨fd, F⟩ := C.fn 39 (x := "_law_line") (st := topS 55) rfl
  have o__law_draw : Ok P w K mg base (jj K) "_law_draw" 1 ["_law_script", "_law_town", "_law_many"] sd_law_draw := (ok__law_draw C).ok
  have z_range : mg "range" = none := C.fr 57 rfl
  have z_tuple : mg "tuple" = none := C.fr 60 rfl
  refine ⟨fd, dl_fn (N := ["_law_script", "_law_town", "_law_many", "_law_most", "_law_k"]) (t := t_law_line) F sc__law_line len_law_line (fun cdv A outer s H E hr => ?_) vc_law_line, C.gl 39 rfl, F.kp, F.bindsN fun _ _ _ _ _ _ us hl => match us, hl with | [_, _, _, _], _ => rfl, F⟩
  exact (dss_one (ds_ret (DE.bb (de_tuple (by rfl) z_tuple (DE.bb (DF.ee (df_lcV rfl sc__law_line.nd (di_range (by rfl) z_range (de_callO o__law_draw (hr.mono (by decide)) (by rfl) px_def (da_cons (de_v 0 (pv 0)) (da_cons (de_v 1 (pv 1)) (da_cons (de_op op_addA so_add (DE.bb (de_v 3 (pv 3))) (DE.bb de_int)) da_nil))))) (blkOk_by (own := [("_law_k", 4)]) (N := ["_law_script", "_law_town", "_law_many", "_law_most", "_law_k"]) (sc := defScope (topS 55)) (by decide +kernel)) (fun _ _ _ _ _ => (dg_n (pgn 4 sc__law_line.nd))) (fun _ _ _ _ _ => dqs_nil) (fun _ _ _ _ _ => (de_callO o__law_draw (hr.mono (by decide)) (by rfl) passL (da_cons (de_v 0 (pv 0)) (da_cons (de_v 1 (pv 1)) (da_cons (de_v 2 (pv 2)) da_nil))))))))))))

theorem sc__law_written : FnScope ["_law_one", "_law_last"] ["_law_one"] (defScope (topS 49)) := ⟨rfl, rfl, rfl, by decide +kernel, rfl, by decide +kernel, by decide +kernel⟩
theorem ok__law_written (C : Cn K h mg) : OkF P w K mg base (jj K) "_law_written" 1 ["_law_one"] sd_law_written (topS 49) := by
  obtain ⟨fd, F⟩ := C.fn 33 (x := "_law_written") (st := topS 49) rfl
  have z_str : mg "str" = none := C.fr 59 rfl
  refine ⟨fd, dl_fn (N := ["_law_one", "_law_last"]) (t := t_law_written) F sc__law_written len_law_written (fun cdv A outer s H E hr => ?_) vc_law_written, C.gl 33 rfl, F.kp, F.bindsN fun _ _ _ _ _ _ us hl => match us, hl with | [_], _ => rfl, F⟩
  exact (dss_cons (ds_asg de_str (dg_n (pgn 1 sc__law_written.nd)))
    (dss_cons (ds_if (dq_cmp op_notN so_notN (DE.bb (de_ix (DE.bb (de_v 0 (pv 0))) (DE.bb de_int))) (DE.bb de_non) (nomark _))
      (dss_one (ds_asg (de_ifE (dq_cmp (op_eqD hr.units) so_eq (DE.bb (de_ix (DE.bb (de_v 0 (pv 0))) (DE.bb de_int))) (DE.bb de_str) (nomark _)) (de_op op_addA so_add (DE.bb de_str) (DE.bb (de_ix (DE.bb (de_v 0 (pv 0))) (DE.bb de_int)))) (de_op op_addA so_add (DE.bb (de_op op_addA so_add (DE.bb de_str) (DE.bb (de_ix (DE.bb (de_ix (DE.bb (de_v 0 (pv 0))) (DE.bb de_int))) (DE.bb de_int))))) (DE.bb (de_ix (DE.bb (de_ix (DE.bb (de_v 0 (pv 0))) (DE.bb de_int))) (DE.bb de_int))))) (dg_n (pgn 1 sc__law_written.nd))))
      dss_nil)
    (dss_one (ds_ret (DE.bb (de_op op_addA so_add (DE.bb (de_op op_addA so_add (DE.bb (de_op op_addA so_add (DE.bb (de_op op_addA so_add (DE.bb (de_ix (DE.bb (de_v 0 (pv 0))) (DE.bb de_int))) (DE.bb (de_ix (DE.bb (de_v 0 (pv 0))) (DE.bb de_int))))) (DE.bb (de_ix (DE.bb (de_v 0 (pv 0))) (DE.bb de_int))))) (DE.bb (de_strI (by rfl) z_str (DE.bb (de_ix (DE.bb (de_v 0 (pv 0))) (DE.bb de_int))))))) (DE.bb (de_v 1 (pv 1)))))))))

theorem sc_do_go_together : FnScope ["shape", "move", "second"] ["shape", "move", "second"] (defScope (topS 18)) := ⟨rfl, rfl, rfl, by decide +kernel, rfl, by decide +kernel, by decide +kernel⟩
theorem ok_do_go_together (C : Cn K h mg) : OkF P w K mg base (jj K) "do_go_together" 1 ["shape", "move", "second"] sd_do_go_together (topS 18) := by
  obtain ⟨fd, F⟩ := C.fn 4 (x := "do_go_together") (st := topS 18) rfl
  obtain ⟨k_SIMPLE, g_SIMPLE⟩ := C.st 63 (x := "SIMPLE") (z := "ab") rfl
  refine ⟨fd, dl_fn (N := ["shape", "move", "second"]) (t := t_do_go_together) F sc_do_go_together len_do_go_together (fun cdv A outer s H E hr => ?_) vc_do_go_together, C.gl 4 rfl, F.kp, F.bindsN fun _ _ _ _ _ _ us hl => match us, hl with | [_, _, _], _ => rfl, F⟩
  exact (dss_cons (ds_if (dq_cmp op_isN so_isN (DE.bb (de_v 2 (pv 2))) (DE.bb de_non) (nomark _))
      (dss_one (ds_ret (DE.bb de_bl)))
      dss_nil)
    (dss_cons (ds_if (dq_cmp (op_eqD hr.units) so_eq (DE.bb (de_v 2 (pv 2))) (DE.bb de_str) (nomark _))
      (dss_one (ds_ret (DE.bb (de_cmp (op_neD hr.units) so_ne (DE.bb (de_v 1 (pv 1))) (DE.bb de_str) (nomark _)))))
      dss_nil)
    (dss_one (ds_ret (DE.bb (de_or (de_cmp (op_inA (units65 hr)) so_in (DE.bb (de_ix (DE.bb (de_v 2 (pv 2))) (DE.bb de_int))) (DE.bb (de_globS (by rfl) g_SIMPLE)) (by rfl)) (de_one (de_cmp (op_eqD hr.units) so_eq (DE.bb (de_ix (DE.bb (de_v 2 (pv 2))) (DE.bb de_int))) (DE.bb (de_v 0 (pv 0))) (nomark _)))))))))

theorem sc_is_between : FnScope ["value", "low", "high"] ["value", "low", "high"] (defScope (topS 14)) := ⟨rfl, rfl, rfl, by decide +kernel, rfl, by decide +kernel, by decide +kernel⟩
theorem ok_is_between (C : Cn K h mg) : OkF P w K mg base (jj K) "is_between" 1 ["value", "low", "high"] sd_is_between (topS 14) := by
  obtain ⟨fd, F⟩ := C.fn 0 (x := "is_between") (st := topS 14) rfl
  have z_bool : mg "bool" = none := C.fr 50 rfl
  have z_int : mg "int" = none := C.fr 53 rfl
  have z_isinstance : mg "isinstance" = none := C.fr 54 rfl
  refine ⟨fd, dl_fn (N := ["value", "low", "high"]) (t := t_is_between) F sc_is_between len_is_between (fun cdv A outer s H E hr => ?_) vc_is_between, C.gl 0 rfl, F.kp, F.bindsN fun _ _ _ _ _ _ us hl => match us, hl with | [_, _, _], _ => rfl, F⟩
  exact (dss_one (ds_ret (DE.bb (de_and (de_isT kitf_int (by rfl) z_isinstance (by rfl) z_int boot_int' (DE.bb (de_v 0 (pv 0)))) (de_and (de_not (de_isT kitf_bool (by rfl) z_isinstance (by rfl) z_bool boot_bool' (DE.bb (de_v 0 (pv 0))))) (de_one (de_chain op_le op_le so_intB so_intB (DE.bb (de_v 1 (pv 1))) (DE.bb (de_v 0 (pv 0))) (DE.bb (de_v 2 (pv 2))))))))))

theorem sc_is_letter : FnScope ["value", "letters"] ["value", "letters"] (defScope (topS 15)) := ⟨rfl, rfl, rfl, by decide +kernel, rfl, by decide +kernel, by decide +kernel⟩
theorem ok_is_letter (C : Cn K h mg) : OkF P w K mg base (jj K) "is_letter" 1 ["value", "letters"] sd_is_letter (topS 15) := by
  obtain ⟨fd, F⟩ := C.fn 1 (x := "is_letter") (st := topS 15) rfl
  have z_isinstance : mg "isinstance" = none := C.fr 54 rfl
  have z_len : mg "len" = none := C.fr 55 rfl
  have z_str : mg "str" = none := C.fr 59 rfl
  refine ⟨fd, dl_fn (N := ["value", "letters"]) (t := t_is_letter) F sc_is_letter len_is_letter (fun cdv A outer s H E hr => ?_) vc_is_letter, C.gl 1 rfl, F.kp, F.bindsN fun _ _ _ _ _ _ us hl => match us, hl with | [_, _], _ => rfl, F⟩
  exact (dss_one (ds_ret (DE.bb (de_and (de_isT kitf_str (by rfl) z_isinstance (by rfl) z_str boot_str' (DE.bb (de_v 0 (pv 0)))) (de_and (de_cmp (op_eqD hr.units) so_eq (DE.bb (de_len (by rfl) z_len (DE.bb (de_v 0 (pv 0))))) (DE.bb de_int) (nomark _)) (de_one (de_cmp (op_inA (units65 hr)) so_in (DE.bb (de_v 0 (pv 0))) (DE.bb (de_v 1 (pv 1))) (by rfl))))))))

theorem sc_is_hand : FnScope ["value"] ["value"] (defScope (topS 16)) := ⟨rfl, rfl, rfl, by decide +kernel, rfl, by decide +kernel, by decide +kernel⟩
theorem ok_is_hand (C : Cn K h mg) : OkF P w K mg base (jj K) "is_hand" 2 ["value"] sd_is_hand (topS 16) := by
  obtain ⟨fd, F⟩ := C.fn 2 (x := "is_hand") (st := topS 16) rfl
  have o_is_letter : Ok P w K mg base (jj K) "is_letter" 1 ["value", "letters"] sd_is_letter := (ok_is_letter C).ok
  have z_isinstance : mg "isinstance" = none := C.fr 54 rfl
  have z_len : mg "len" = none := C.fr 55 rfl
  have z_tuple : mg "tuple" = none := C.fr 60 rfl
  obtain ⟨k_SHAPES, g_SHAPES⟩ := C.st 62 (x := "SHAPES") (z := "abcd") rfl
  obtain ⟨k_TURNS, g_TURNS⟩ := C.st 64 (x := "TURNS") (z := "iolr") rfl
  refine ⟨fd, dl_fn (N := ["value"]) (t := t_is_hand) F sc_is_hand len_is_hand (fun cdv A outer s H E hr => ?_) vc_is_hand, C.gl 2 rfl, F.kp, F.bindsN fun _ _ _ _ _ _ us hl => match us, hl with | [_], _ => rfl, F⟩
  exact (dss_cons (ds_if (DW.dq (dw_or (dq_not (dq_val (de_isT kitf_tup (by rfl) z_isinstance (by rfl) z_tuple boot_tuple' (DE.bb (de_v 0 (pv 0)))))) (dw_or1 (dq_cmp (op_neD hr.units) so_ne (DE.bb (de_len (by rfl) z_len (DE.bb (de_v 0 (pv 0))))) (DE.bb de_int) (nomark _)))))
      (dss_one (ds_ret (DE.bb de_bl)))
      dss_nil)
    (dss_one (ds_ret (DE.bb (de_and (de_callO o_is_letter (hr.mono (by decide)) (by rfl) px_def (da_cons (de_ix (DE.bb (de_v 0 (pv 0))) (DE.bb de_int)) (da_cons (de_globS (by rfl) g_SHAPES) da_nil))) (de_one (de_callO o_is_letter (hr.mono (by decide)) (by rfl) px_def (da_cons (de_ix (DE.bb (de_v 0 (pv 0))) (DE.bb de_int)) (da_cons (de_globS (by rfl) g_TURNS) da_nil)))))))))

theorem sc_is_entry : FnScope ["thing", "value"] ["thing", "value"] (defScope (topS 17)) := ⟨rfl, rfl, rfl, by decide +kernel, rfl, by decide +kernel, by decide +kernel⟩
theorem ok_is_entry (C : Cn K h mg) : OkF P w K mg base (jj K) "is_entry" 3 ["thing", "value"] sd_is_entry (topS 17) := by
  obtain ⟨fd, F⟩ := C.fn 3 (x := "is_entry") (st := topS 17) rfl
  have o_is_between : Ok P w K mg base (jj K) "is_between" 1 ["value", "low", "high"] sd_is_between := (ok_is_between C).ok
  have o_is_hand : Ok P w K mg base (jj K) "is_hand" 2 ["value"] sd_is_hand := (ok_is_hand C).ok
  have o_is_letter : Ok P w K mg base (jj K) "is_letter" 1 ["value", "letters"] sd_is_letter := (ok_is_letter C).ok
  obtain ⟨k_PLACES, g_PLACES⟩ := C.it 66 (x := "PLACES") (n := 3) rfl
  obtain ⟨k_SHAPES, g_SHAPES⟩ := C.st 62 (x := "SHAPES") (z := "abcd") rfl
  obtain ⟨k_TURNS, g_TURNS⟩ := C.st 64 (x := "TURNS") (z := "iolr") rfl
  obtain ⟨k_MOVES, g_MOVES⟩ := C.st 65 (x := "MOVES") (z := "nuwlr") rfl
  refine ⟨fd, dl_fn (N := ["thing", "value"]) (t := t_is_entry) F sc_is_entry len_is_entry (fun cdv A outer s H E hr => ?_) vc_is_entry, C.gl 3 rfl, F.kp, F.bindsN fun _ _ _ _ _ _ us hl => match us, hl with | [_, _], _ => rfl, F⟩
  exact (dss_cons (ds_if (dq_cmp (op_eqD hr.units) so_eq (DE.bb (de_v 0 (pv 0))) (DE.bb de_int) (nomark _))
      (dss_one (ds_ret (DE.bb (de_callO o_is_between (hr.mono (by decide)) (by rfl) px_def (da_cons (de_v 1 (pv 1)) (da_cons de_int (da_cons (de_op op_sub so_int (DE.bb (de_globI (by rfl) g_PLACES)) (DE.bb de_int)) da_nil)))))))
      dss_nil)
    (dss_cons (ds_if (dq_cmp (op_eqD hr.units) so_eq (DE.bb (de_v 0 (pv 0))) (DE.bb de_int) (nomark _))
      (dss_one (ds_ret (DE.bb (de_or (de_cmp op_isN so_isN (DE.bb (de_v 1 (pv 1))) (DE.bb de_non) (nomark _)) (de_or (de_callO o_is_letter (hr.mono (by decide)) (by rfl) px_def (da_cons (de_v 1 (pv 1)) (da_cons de_str da_nil))) (de_one (de_callO o_is_hand (hr.mono (by decide)) (by rfl) px_def (da_cons (de_v 1 (pv 1)) da_nil))))))))
      dss_nil)
    (dss_one (ds_ret (DE.bb (de_callO o_is_letter (hr.mono (by decide)) (by rfl) px_def (da_cons (de_v 1 (pv 1)) (da_cons (de_ix (DE.bb (de_tup (da_cons (de_globS (by rfl) g_SHAPES) (da_cons (de_globS (by rfl) g_TURNS) (da_cons (de_globS (by rfl) g_MOVES) da_nil))))) (DE.bb (de_v 0 (pv 0)))) da_nil))))))))

theorem sc_is_sign : FnScope ["value", "thing", "one"] ["value"] (defScope (topS 19)) := ⟨rfl, rfl, rfl, by decide +kernel, rfl, by decide +kernel, by decide +kernel⟩
theorem ok_is_sign (C : Cn K h mg) : OkF P w K mg base (jj K) "is_sign" 4 ["value"] sd_is_sign (topS 19) := by
  obtain ⟨fd, F⟩ := C.fn 5 (x := "is_sign") (st := topS 19) rfl
  have o_do_go_together : Ok P w K mg base (jj K) "do_go_together" 1 ["shape", "move", "second"] sd_do_go_together := (ok_do_go_together C).ok
  have o_is_entry : Ok P w K mg base (jj K) "is_entry" 3 ["thing", "value"] sd_is_entry := (ok_is_entry C).ok
  have z_all : mg "all" = none := C.fr 49 rfl
  have z_enumerate : mg "enumerate" = none := C.fr 52 rfl
  have z_isinstance : mg "isinstance" = none := C.fr 54 rfl
  have z_len : mg "len" = none := C.fr 55 rfl
  have z_tuple : mg "tuple" = none := C.fr 60 rfl
  refine ⟨fd, dl_fn (N := ["value", "thing", "one"]) (t := t_is_sign) F sc_is_sign len_is_sign (fun cdv A outer s H E hr => ?_) vc_is_sign, C.gl 5 rfl, F.kp, F.bindsN fun _ _ _ _ _ _ us hl => match us, hl with | [_], _ => rfl, F⟩
  exact (dss_cons (ds_if (DW.dq (dw_or (dq_not (dq_val (de_isT kitf_tup (by rfl) z_isinstance (by rfl) z_tuple boot_tuple' (DE.bb (de_v 0 (pv 0)))))) (dw_or1 (dq_cmp (op_neD hr.units) so_ne (DE.bb (de_len (by rfl) z_len (DE.bb (de_v 0 (pv 0))))) (DE.bb de_int) (nomark _)))))
      (dss_one (ds_ret (DE.bb de_bl)))
      dss_nil)
    (dss_cons (ds_if (dq_not (dq_val (de_all rfl (by rfl) z_all (DE.bb (DF.ee (df_lcV rfl sc_is_sign.nd (di_enum (by rfl) z_enumerate (de_v 0 (pv 0))) (blkOk_by (own := [("thing", 1), ("one", 2)]) (N := ["value", "thing", "one"]) (sc := defScope (topS 19)) (by decide +kernel)) (fun _ _ _ _ _ => (dg_t rfl (dgs_cons (dg_n (pgn 1 sc_is_sign.nd)) (dgs_cons (dg_n (pgn 2 sc_is_sign.nd)) dgs_nil)))) (fun _ _ _ _ _ => dqs_nil) (fun _ _ _ _ _ => (de_callO o_is_entry (hr.mono (by decide)) (by rfl) passL (da_cons (de_v 1 (pv 1)) (da_cons (de_v 2 (pv 2)) da_nil))))))))))
      (dss_one (ds_ret (DE.bb de_bl)))
      dss_nil)
    (dss_one (ds_ret (DE.bb (de_callO o_do_go_together (hr.mono (by decide)) (by rfl) px_def (da_cons (de_ix (DE.bb (de_v 0 (pv 0))) (DE.bb de_int)) (da_cons (de_ix (DE.bb (de_v 0 (pv 0))) (DE.bb de_int)) (da_cons (de_ix (DE.bb (de_v 0 (pv 0))) (DE.bb de_int)) da_nil)))))))))

theorem sc_check_sign : FnScope ["sign"] ["sign"] (defScope (topS 20)) := ⟨rfl, rfl, rfl, by decide +kernel, rfl, by decide +kernel, by decide +kernel⟩
theorem ok_check_sign (C : Cn K h mg) : OkF P w K mg base (jj K) "check_sign" 5 ["sign"] sd_check_sign (topS 20) := by
  obtain ⟨fd, F⟩ := C.fn 6 (x := "check_sign") (st := topS 20) rfl
  have o_is_sign : Ok P w K mg base (jj K) "is_sign" 4 ["value"] sd_is_sign := (ok_is_sign C).ok
  have x_InvalidSign : Exn K mg ((jj K).ca "InvalidSign") "InvalidSign" := C.ex 43 67 rfl rfl
  refine ⟨fd, dl_fn (N := ["sign"]) (t := t_check_sign) F sc_check_sign len_check_sign (fun cdv A outer s H E hr => ?_) vc_check_sign, C.gl 6 rfl, F.kp, F.bindsN fun _ _ _ _ _ _ us hl => match us, hl with | [_], _ => rfl, F⟩
  exact (dss_one (ds_if (dq_not (dq_val (de_callO o_is_sign (hr.mono (by decide)) (by rfl) px_def (da_cons (de_v 0 (pv 0)) da_nil))))
      (dss_one (ds_raise rfl tk_def x_InvalidSign (by rfl)))
      dss_nil))

theorem sc_swapped : FnScope ["letter"] ["letter"] (defScope (topS 27)) := ⟨rfl, rfl, rfl, by decide +kernel, rfl, by decide +kernel, by decide +kernel⟩
theorem ok_swapped (C : Cn K h mg) : OkF P w K mg base (jj K) "swapped" 1 ["letter"] sd_swapped (topS 27) := by
  obtain ⟨fd, F⟩ := C.fn 13 (x := "swapped") (st := topS 27) rfl
  refine ⟨fd, dl_fn (N := ["letter"]) (t := t_swapped) F sc_swapped len_swapped (fun cdv A outer s H E hr => ?_) vc_swapped, C.gl 13 rfl, F.kp, F.bindsN fun _ _ _ _ _ _ us hl => match us, hl with | [_], _ => rfl, F⟩
  exact (dss_one (ds_ret (DE.bb (de_get2 (units65 hr) (by decide +kernel) (de_v 0 (pv 0)) (de_v 0 (pv 0)) ⟨rfl, rfl, rfl, rfl⟩))))

theorem sc_turned_over : FnScope ["sign", "shape", "turn", "move", "place", "second"] ["sign"] (defScope (topS 28)) := ⟨rfl, rfl, rfl, by decide +kernel, rfl, by decide +kernel, by decide +kernel⟩
theorem ok_turned_over (C : Cn K h mg) : OkF P w K mg base (jj K) "turned_over" 2 ["sign"] sd_turned_over (topS 28) := by
  obtain ⟨fd, F⟩ := C.fn 14 (x := "turned_over") (st := topS 28) rfl
  have o_swapped : Ok P w K mg base (jj K) "swapped" 1 ["letter"] sd_swapped := (ok_swapped C).ok
  have z_isinstance : mg "isinstance" = none := C.fr 54 rfl
  have z_tuple : mg "tuple" = none := C.fr 60 rfl
  refine ⟨fd, dl_fn (N := ["sign", "shape", "turn", "move", "place", "second"]) (t := t_turned_over) F sc_turned_over len_turned_over (fun cdv A outer s H E hr => ?_) vc_turned_over, C.gl 14 rfl, F.kp, F.bindsN fun _ _ _ _ _ _ us hl => match us, hl with | [_], _ => rfl, F⟩
  exact (dss_cons (ds_asg (de_v 0 (pv 0)) (dg_t rfl (dgs_cons (dg_n (pgn 1 sc_turned_over.nd)) (dgs_cons (dg_n (pgn 2 sc_turned_over.nd)) (dgs_cons (dg_n (pgn 3 sc_turned_over.nd)) (dgs_cons (dg_n (pgn 4 sc_turned_over.nd)) (dgs_cons (dg_n (pgn 5 sc_turned_over.nd)) dgs_nil)))))))
    (dss_cons (ds_if (dq_val (de_isT kitf_tup (by rfl) z_isinstance (by rfl) z_tuple boot_tuple' (DE.bb (de_v 5 (pv 5)))))
      (dss_one (ds_asg (de_tup (da_cons (de_ix (DE.bb (de_v 5 (pv 5))) (DE.bb de_int)) (da_cons (de_callO o_swapped (hr.mono (by decide)) (by rfl) px_def (da_cons (de_ix (DE.bb (de_v 5 (pv 5))) (DE.bb de_int)) da_nil)) da_nil))) (dg_n (pgn 5 sc_turned_over.nd))))
      dss_nil)
    (dss_one (ds_ret (DE.bb (de_tup (da_cons (de_v 1 (pv 1)) (da_cons (de_callO o_swapped (hr.mono (by decide)) (by rfl) px_def (da_cons (de_v 2 (pv 2)) da_nil)) (da_cons (de_callO o_swapped (hr.mono (by decide)) (by rfl) px_def (da_cons (de_v 3 (pv 3)) da_nil)) (da_cons (de_v 4 (pv 4)) (da_cons (de_v 5 (pv 5)) da_nil)))))))))))

theorem sc_mirrored : FnScope ["sign"] ["sign"] (defScope (topS 29)) := ⟨rfl, rfl, rfl, by decide +kernel, rfl, by decide +kernel, by decide +kernel⟩
theorem ok_mirrored (C : Cn K h mg) : OkF P w K mg base (jj K) "mirrored" 6 ["sign"] sd_mirrored (topS 29) := by
  obtain ⟨fd, F⟩ := C.fn 15 (x := "mirrored") (st := topS 29) rfl
  have o_check_sign : Ok P w K mg base (jj K) "check_sign" 5 ["sign"] sd_check_sign := (ok_check_sign C).ok
  have o_turned_over : Ok P w K mg base (jj K) "turned_over" 2 ["sign"] sd_turned_over := (ok_turned_over C).ok
  refine ⟨fd, dl_fn (N := ["sign"]) (t := t_mirrored) F sc_mirrored len_mirrored (fun cdv A outer s H E hr => ?_) vc_mirrored, C.gl 15 rfl, F.kp, F.bindsN fun _ _ _ _ _ _ us hl => match us, hl with | [_], _ => rfl, F⟩
  exact (dss_cons (ds_drop (de_callO o_check_sign (hr.mono (by decide)) (by rfl) px_def (da_cons (de_v 0 (pv 0)) da_nil)))
    (dss_one (ds_ret (DE.bb (de_callO o_turned_over (hr.mono (by decide)) (by rfl) px_def (da_cons (de_v 0 (pv 0)) da_nil))))))

theorem sc_is_row : FnScope ["signs", "value", "number"] ["signs", "value"] (defScope (topS 34)) := ⟨rfl, rfl, rfl, by decide +kernel, rfl, by decide +kernel, by decide +kernel⟩
theorem ok_is_row (C : Cn K h mg) : OkF P w K mg base (jj K) "is_row" 2 ["signs", "value"] sd_is_row (topS 34) := by
  obtain ⟨fd, F⟩ := C.fn 19 (x := "is_row") (st := topS 34) rfl
  have o_is_between : Ok P w K mg base (jj K) "is_between" 1 ["value", "low", "high"] sd_is_between := (ok_is_between C).ok
  have z_all : mg "all" = none := C.fr 49 rfl
  have z_isinstance : mg "isinstance" = none := C.fr 54 rfl
  have z_len : mg "len" = none := C.fr 55 rfl
  have z_tuple : mg "tuple" = none := C.fr 60 rfl
  refine ⟨fd, dl_fn (N := ["signs", "value", "number"]) (t := t_is_row) F sc_is_row len_is_row (fun cdv A outer s H E hr => ?_) vc_is_row, C.gl 19 rfl, F.kp, F.bindsN fun _ _ _ _ _ _ us hl => match us, hl with | [_, _], _ => rfl, F⟩
  exact (dss_cons (ds_if (DW.dq (dw_or (dq_not (dq_val (de_isT kitf_tup (by rfl) z_isinstance (by rfl) z_tuple boot_tuple' (DE.bb (de_v 1 (pv 1)))))) (dw_or1 (dq_cmp op_gt so_intB (DE.bb (de_len (by rfl) z_len (DE.bb (de_v 1 (pv 1))))) (DE.bb de_int) (nomark _)))))
      (dss_one (ds_ret (DE.bb de_bl)))
      dss_nil)
    (dss_one (ds_ret (DE.bb (de_all rfl (by rfl) z_all (DE.bb (DF.ee (df_lcV rfl sc_is_row.nd (di_any (de_v 1 (pv 1))) (blkOk_by (own := [("number", 2)]) (N := ["signs", "value", "number"]) (sc := defScope (topS 34)) (by decide +kernel)) (fun _ _ _ _ _ => (dg_n (pgn 2 sc_is_row.nd))) (fun _ _ _ _ _ => dqs_nil) (fun _ _ _ _ _ => (de_callO o_is_between (hr.mono (by decide)) (by rfl) passL (da_cons (de_v 2 (pv 2)) (da_cons de_int (da_cons (de_op op_sub so_int (DE.bb (de_len (by rfl) z_len (DE.bb (de_v 0 (pv 0))))) (DE.bb de_int)) da_nil)))))))))))))

theorem sc_check_row : FnScope ["signs", "row"] ["signs", "row"] (defScope (topS 35)) := ⟨rfl, rfl, rfl, by decide +kernel, rfl, by decide +kernel, by decide +kernel⟩
theorem ok_check_row (C : Cn K h mg) : OkF P w K mg base (jj K) "check_row" 3 ["signs", "row"] sd_check_row (topS 35) := by
  obtain ⟨fd, F⟩ := C.fn 20 (x := "check_row") (st := topS 35) rfl
  have o_is_row : Ok P w K mg base (jj K) "is_row" 2 ["signs", "value"] sd_is_row := (ok_is_row C).ok
  have x_InvalidRow : Exn K mg ((jj K).ca "InvalidRow") "InvalidRow" := C.ex 46 70 rfl rfl
  refine ⟨fd, dl_fn (N := ["signs", "row"]) (t := t_check_row) F sc_check_row len_check_row (fun cdv A outer s H E hr => ?_) vc_check_row, C.gl 20 rfl, F.kp, F.bindsN fun _ _ _ _ _ _ us hl => match us, hl with | [_, _], _ => rfl, F⟩
  exact (dss_one (ds_if (dq_not (dq_val (de_callO o_is_row (hr.mono (by decide)) (by rfl) px_def (da_cons (de_v 0 (pv 0)) (da_cons (de_v 1 (pv 1)) da_nil)))))
      (dss_one (ds_raise rfl tk_def x_InvalidRow (by rfl)))
      dss_nil))

theorem sc_sign_text : FnScope ["sign", "shape", "turn", "move", "place", "second", "rest"] ["sign"] (defScope (topS 30)) := ⟨rfl, rfl, rfl, by decide +kernel, rfl, by decide +kernel, by decide +kernel⟩
theorem ok_sign_text (C : Cn K h mg) : OkF P w K mg base (jj K) "sign_text" 1 ["sign"] sd_sign_text (topS 30) := by
  obtain ⟨fd, F⟩ := C.fn 16 (x := "sign_text") (st := topS 30) rfl
  refine ⟨fd, dl_fn (N := ["sign", "shape", "turn", "move", "place", "second", "rest"]) (t := t_sign_text) F sc_sign_text len_sign_text (fun cdv A outer s H E hr => ?_) vc_sign_text, C.gl 16 rfl, F.kp, F.bindsN fun _ _ _ _ _ _ us hl => match us, hl with | [_], _ => rfl, F⟩
  exact (dss_cons (ds_asg (de_v 0 (pv 0)) (dg_t rfl (dgs_cons (dg_n (pgn 1 sc_sign_text.nd)) (dgs_cons (dg_n (pgn 2 sc_sign_text.nd)) (dgs_cons (dg_n (pgn 3 sc_sign_text.nd)) (dgs_cons (dg_n (pgn 4 sc_sign_text.nd)) (dgs_cons (dg_n (pgn 5 sc_sign_text.nd)) dgs_nil)))))))
    (dss_cons (ds_asg (de_ifE (dq_cmp op_isN so_isN (DE.bb (de_v 5 (pv 5))) (DE.bb de_non) (nomark _)) de_str (de_op op_addA so_add (DE.bb de_str) (DE.bb (de_join rfl de_str (DE.bb (de_v 5 (pv 5))))))) (dg_n (pgn 6 sc_sign_text.nd)))
    (dss_one (ds_ret (DE.bb (de_op op_addA so_add (DE.bb (de_joined (dj_cons (de_fmt (de_v 1 (pv 1))) (dj_cons (de_fmt (de_v 2 (pv 2))) (dj_cons (de_fmt (de_v 3 (pv 3))) (dj_cons (de_fmt (de_v 4 (pv 4))) dj_nil)))))) (DE.bb (de_v 6 (pv 6)))))))))

theorem sc_are_signs : FnScope ["value", "one", "other"] ["value"] (defScope (topS 32)) := ⟨rfl, rfl, rfl, by decide +kernel, rfl, by decide +kernel, by decide +kernel⟩
theorem ok_are_signs (C : Cn K h mg) : OkF P w K mg base (jj K) "are_signs" 5 ["value"] sd_are_signs (topS 32) := by
  obtain ⟨fd, F⟩ := C.fn 17 (x := "are_signs") (st := topS 32) rfl
  have o_is_sign : Ok P w K mg base (jj K) "is_sign" 4 ["value"] sd_is_sign := (ok_is_sign C).ok
  have o_sign_text : Ok P w K mg base (jj K) "sign_text" 1 ["sign"] sd_sign_text := (ok_sign_text C).ok
  have z_all : mg "all" = none := C.fr 49 rfl
  have z_isinstance : mg "isinstance" = none := C.fr 54 rfl
  have z_len : mg "len" = none := C.fr 55 rfl
  have z_tuple : mg "tuple" = none := C.fr 60 rfl
  have z_zip : mg "zip" = none := C.fr 61 rfl
  refine ⟨fd, dl_fn (N := ["value", "one", "other"]) (t := t_are_signs) F sc_are_signs len_are_signs (fun cdv A outer s H E hr => ?_) vc_are_signs, C.gl 17 rfl, F.kp, F.bindsN fun _ _ _ _ _ _ us hl => match us, hl with | [_], _ => rfl, F⟩
  exact (dss_cons (ds_if (DW.dq (dw_or (dq_not (dq_val (de_isT kitf_tup (by rfl) z_isinstance (by rfl) z_tuple boot_tuple' (DE.bb (de_v 0 (pv 0)))))) (dw_or (dq_not (dq_chain op_le op_le so_intB so_intB (DE.bb de_int) (DE.bb (de_len (by rfl) z_len (DE.bb (de_v 0 (pv 0))))) (DE.bb de_int))) (dw_or1 (dq_not (dq_val (de_all rfl (by rfl) z_all (DE.bb (DF.ee (df_lcV rfl sc_are_signs.nd (di_any (de_v 0 (pv 0))) (blkOk_by (own := [("one", 1)]) (N := ["value", "one", "other"]) (sc := defScope (topS 32)) (by decide +kernel)) (fun _ _ _ _ _ => (dg_n (pgn 1 sc_are_signs.nd))) (fun _ _ _ _ _ => dqs_nil) (fun _ _ _ _ _ => (de_callO o_is_sign (hr.mono (by decide)) (by rfl) passL (da_cons (de_v 1 (pv 1)) da_nil)))))))))))))
      (dss_one (ds_ret (DE.bb de_bl)))
      dss_nil)
    (dss_one (ds_ret (DE.bb (de_all rfl (by rfl) z_all (DE.bb (DF.ee (df_lcV rfl sc_are_signs.nd (di_zip (by rfl) z_zip (de_v 0 (pv 0)) (de_sl (DE.bb (de_v 0 (pv 0))) (do_some (DE.bb de_int)) do_none)) (blkOk_by (own := [("one", 1), ("other", 2)]) (N := ["value", "one", "other"]) (sc := defScope (topS 32)) (by decide +kernel)) (fun _ _ _ _ _ => (dg_t rfl (dgs_cons (dg_n (pgn 1 sc_are_signs.nd)) (dgs_cons (dg_n (pgn 2 sc_are_signs.nd)) dgs_nil)))) (fun _ _ _ _ _ => dqs_nil) (fun _ _ _ _ _ => (de_cmp op_ltA so_lt (DE.bb (de_callO o_sign_text (hr.mono (by decide)) (by rfl) passL (da_cons (de_v 1 (pv 1)) da_nil))) (DE.bb (de_callO o_sign_text (hr.mono (by decide)) (by rfl) passL (da_cons (de_v 2 (pv 2)) da_nil))) (nomark _)))))))))))

theorem sc_check_signs : FnScope ["signs"] ["signs"] (defScope (topS 33)) := ⟨rfl, rfl, rfl, by decide +kernel, rfl, by decide +kernel, by decide +kernel⟩
theorem ok_check_signs (C : Cn K h mg) : OkF P w K mg base (jj K) "check_signs" 6 ["signs"] sd_check_signs (topS 33) := by
  obtain ⟨fd, F⟩ := C.fn 18 (x := "check_signs") (st := topS 33) rfl
  have o_are_signs : Ok P w K mg base (jj K) "are_signs" 5 ["value"] sd_are_signs := (ok_are_signs C).ok
  have x_InvalidSigns : Exn K mg ((jj K).ca "InvalidSigns") "InvalidSigns" := C.ex 45 69 rfl rfl
  refine ⟨fd, dl_fn (N := ["signs"]) (t := t_check_signs) F sc_check_signs len_check_signs (fun cdv A outer s H E hr => ?_) vc_check_signs, C.gl 18 rfl, F.kp, F.bindsN fun _ _ _ _ _ _ us hl => match us, hl with | [_], _ => rfl, F⟩
  exact (dss_one (ds_if (dq_not (dq_val (de_callO o_are_signs (hr.mono (by decide)) (by rfl) px_def (da_cons (de_v 0 (pv 0)) da_nil))))
      (dss_one (ds_raise rfl tk_def x_InvalidSigns (by rfl)))
      dss_nil))

theorem sc_check_style : FnScope ["style", "one"] ["style"] (defScope (topS 36)) := ⟨rfl, rfl, rfl, by decide +kernel, rfl, by decide +kernel, by decide +kernel⟩
theorem ok_check_style (C : Cn K h mg) : OkF P w K mg base (jj K) "check_style" 1 ["style"] sd_check_style (topS 36) := by
  obtain ⟨fd, F⟩ := C.fn 21 (x := "check_style") (st := topS 36) rfl
  have z_all : mg "all" = none := C.fr 49 rfl
  have z_bool : mg "bool" = none := C.fr 50 rfl
  have z_isinstance : mg "isinstance" = none := C.fr 54 rfl
  have z_len : mg "len" = none := C.fr 55 rfl
  have z_tuple : mg "tuple" = none := C.fr 60 rfl
  have x_InvalidStyle : Exn K mg ((jj K).ca "InvalidStyle") "InvalidStyle" := C.ex 47 71 rfl rfl
  refine ⟨fd, dl_fn (N := ["style", "one"]) (t := t_check_style) F sc_check_style len_check_style (fun cdv A outer s H E hr => ?_) vc_check_style, C.gl 21 rfl, F.kp, F.bindsN fun _ _ _ _ _ _ us hl => match us, hl with | [_], _ => rfl, F⟩
  exact (dss_one (ds_if (DW.dq (dw_or (dq_not (dq_val (de_isT kitf_tup (by rfl) z_isinstance (by rfl) z_tuple boot_tuple' (DE.bb (de_v 0 (pv 0)))))) (dw_or (dq_cmp (op_neD hr.units) so_ne (DE.bb (de_len (by rfl) z_len (DE.bb (de_v 0 (pv 0))))) (DE.bb de_int) (nomark _)) (dw_or1 (dq_not (dq_val (de_all rfl (by rfl) z_all (DE.bb (DF.ee (df_lcV rfl sc_check_style.nd (di_any (de_v 0 (pv 0))) (blkOk_by (own := [("one", 1)]) (N := ["style", "one"]) (sc := defScope (topS 36)) (by decide +kernel)) (fun _ _ _ _ _ => (dg_n (pgn 1 sc_check_style.nd))) (fun _ _ _ _ _ => dqs_nil) (fun _ _ _ _ _ => (de_isT kitf_bool (by rfl) z_isinstance (by rfl) z_bool boot_bool' (DE.bb (de_v 1 (pv 1)))))))))))))))
      (dss_one (ds_raise rfl tk_def x_InvalidStyle (by rfl)))
      dss_nil))

theorem sc_can_hold : FnScope ["sign", "hand"] ["sign", "hand"] (defScope (topS 22)) := ⟨rfl, rfl, rfl, by decide +kernel, rfl, by decide +kernel, by decide +kernel⟩
theorem ok_can_hold (C : Cn K h mg) : OkF P w K mg base (jj K) "can_hold" 2 ["sign", "hand"] sd_can_hold (topS 22) := by
  obtain ⟨fd, F⟩ := C.fn 8 (x := "can_hold") (st := topS 22) rfl
  have o_do_go_together : Ok P w K mg base (jj K) "do_go_together" 1 ["shape", "move", "second"] sd_do_go_together := (ok_do_go_together C).ok
  refine ⟨fd, dl_fn (N := ["sign", "hand"]) (t := t_can_hold) F sc_can_hold len_can_hold (fun cdv A outer s H E hr => ?_) vc_can_hold, C.gl 8 rfl, F.kp, F.bindsN fun _ _ _ _ _ _ us hl => match us, hl with | [_, _], _ => rfl, F⟩
  exact (dss_one (ds_ret (DE.bb (de_callO o_do_go_together (hr.mono (by decide)) (by rfl) px_def (da_cons (de_ix (DE.bb (de_v 0 (pv 0))) (DE.bb de_int)) (da_cons (de_ix (DE.bb (de_v 0 (pv 0))) (DE.bb de_int)) (da_cons (de_v 1 (pv 1)) da_nil)))))))

theorem sc_with_hand : FnScope ["sign", "hand"] ["sign", "hand"] (defScope (topS 21)) := ⟨rfl, rfl, rfl, by decide +kernel, rfl, by decide +kernel, by decide +kernel⟩
theorem ok_with_hand (C : Cn K h mg) : OkF P w K mg base (jj K) "with_hand" 1 ["sign", "hand"] sd_with_hand (topS 21) := by
  obtain ⟨fd, F⟩ := C.fn 7 (x := "with_hand") (st := topS 21) rfl
  refine ⟨fd, dl_fn (N := ["sign", "hand"]) (t := t_with_hand) F sc_with_hand len_with_hand (fun cdv A outer s H E hr => ?_) vc_with_hand, C.gl 7 rfl, F.kp, F.bindsN fun _ _ _ _ _ _ us hl => match us, hl with | [_, _], _ => rfl, F⟩
  exact (dss_one (ds_ret (DE.bb (de_op op_addA so_add (DE.bb (de_sl (DE.bb (de_v 0 (pv 0))) do_none (do_some (DE.bb de_int)))) (DE.bb (de_tup (da_cons (de_v 1 (pv 1)) da_nil)))))))

theorem sc_seen_between : FnScope ["before", "sign", "after", "style", "is_so", "other"] ["before", "sign", "after", "style"] (defScope (topS 38)) := ⟨rfl, rfl, rfl, by decide +kernel, rfl, by decide +kernel, by decide +kernel⟩
theorem ok_seen_between (C : Cn K h mg) : OkF P w K mg base (jj K) "seen_between" 3 ["before", "sign", "after", "style"] sd_seen_between (topS 38) := by
  obtain ⟨fd, F⟩ := C.fn 23 (x := "seen_between") (st := topS 38) rfl
  have o_can_hold : Ok P w K mg base (jj K) "can_hold" 2 ["sign", "hand"] sd_can_hold := (ok_can_hold C).ok
  have o_with_hand : Ok P w K mg base (jj K) "with_hand" 1 ["sign", "hand"] sd_with_hand := (ok_with_hand C).ok
  have z_isinstance : mg "isinstance" = none := C.fr 54 rfl
  have z_tuple : mg "tuple" = none := C.fr 60 rfl
  refine ⟨fd, dl_fn (N := ["before", "sign", "after", "style", "is_so", "other"]) (t := t_seen_between) F sc_seen_between len_seen_between (fun cdv A outer s H E hr => ?_) vc_seen_between, C.gl 23 rfl, F.kp, F.bindsN fun _ _ _ _ _ _ us hl => match us, hl with | [_, _, _, _], _ => rfl, F⟩
  exact (dss_cons (ds_if (dq_cmp op_notN so_notN (DE.bb (de_ix (DE.bb (de_v 1 (pv 1))) (DE.bb de_int))) (DE.bb de_non) (nomark _))
      (dss_one (ds_ret (DE.bb (de_v 1 (pv 1)))))
      dss_nil)
    (dss_cons (ds_for po_def rfl (di_any (de_tup (da_cons (de_tup (da_cons (de_ix (DE.bb (de_v 3 (pv 3))) (DE.bb de_int)) (da_cons (de_v 0 (pv 0)) da_nil))) (da_cons (de_tup (da_cons (de_ix (DE.bb (de_v 3 (pv 3))) (DE.bb de_int)) (da_cons (de_v 2 (pv 2)) da_nil))) da_nil)))) (dg_t rfl (dgs_cons (dg_n (pgn 4 sc_seen_between.nd)) (dgs_cons (dg_n (pgn 5 sc_seen_between.nd)) dgs_nil)))
      (dss_one (ds_if (DW.dq (dw_and (dq_val (de_v 4 (pv 4))) (dw_and (dq_cmp op_notN so_notN (DE.bb (de_v 5 (pv 5))) (DE.bb de_non) (nomark _)) (dw_and (dq_val (de_isT kitf_tup (by rfl) z_isinstance (by rfl) z_tuple boot_tuple' (DE.bb (de_ix (DE.bb (de_v 5 (pv 5))) (DE.bb de_int))))) (dw_and1 (dq_val (de_callO o_can_hold (hr.mono (by decide)) (by rfl) px_def (da_cons (de_v 1 (pv 1)) (da_cons (de_ix (DE.bb (de_v 5 (pv 5))) (DE.bb de_int)) da_nil)))))))))
        (dss_one (ds_ret (DE.bb (de_callO o_with_hand (hr.mono (by decide)) (by rfl) px_def (da_cons (de_v 1 (pv 1)) (da_cons (de_ix (DE.bb (de_v 5 (pv 5))) (DE.bb de_int)) da_nil))))))
        dss_nil)))
    (dss_one (ds_ret (DE.bb (de_v 1 (pv 1)))))))

theorem sc_seen_row : FnScope ["some", "style", "wide", "at"] ["some", "style"] (defScope (topS 39)) := ⟨rfl, rfl, rfl, by decide +kernel, rfl, by decide +kernel, by decide +kernel⟩
theorem ok_seen_row (C : Cn K h mg) : OkF P w K mg base (jj K) "seen_row" 4 ["some", "style"] sd_seen_row (topS 39) := by
  obtain ⟨fd, F⟩ := C.fn 24 (x := "seen_row") (st := topS 39) rfl
  have o_seen_between : Ok P w K mg base (jj K) "seen_between" 3 ["before", "sign", "after", "style"] sd_seen_between := (ok_seen_between C).ok
  have z_len : mg "len" = none := C.fr 55 rfl
  have z_list : mg "list" = none := C.fr 56 rfl
  have z_range : mg "range" = none := C.fr 57 rfl
  refine ⟨fd, dl_fn (N := ["some", "style", "wide", "at"]) (t := t_seen_row) F sc_seen_row len_seen_row (fun cdv A outer s H E hr => ?_) vc_seen_row, C.gl 24 rfl, F.kp, F.bindsN fun _ _ _ _ _ _ us hl => match us, hl with | [_, _], _ => rfl, F⟩
  exact (dss_cons (ds_asg (DF.ee (df_cat (DE.bb (DF.ee (df_cat (DE.bb (DF.ee (df_lst (da_cons de_non da_nil)))) (DE.bb (DF.ee (df_listA rfl (by rfl) z_list (DE.bb (de_v 0 (pv 0))))))))) (DE.bb (DF.ee (df_lst (da_cons de_non da_nil)))))) (dg_n (pgn 2 sc_seen_row.nd)))
    (dss_one (ds_ret (DE.bb (DF.ee (df_lcV rfl sc_seen_row.nd (di_range (by rfl) z_range (de_len (by rfl) z_len (DE.bb (de_v 0 (pv 0))))) (blkOk_by (own := [("at", 3)]) (N := ["some", "style", "wide", "at"]) (sc := defScope (topS 39)) (by decide +kernel)) (fun _ _ _ _ _ => (dg_n (pgn 3 sc_seen_row.nd))) (fun _ _ _ _ _ => dqs_nil) (fun _ _ _ _ _ => (de_callO o_seen_between (hr.mono (by decide)) (by rfl) passL (da_cons (de_ix (DE.bb (de_v 2 (pv 2))) (DE.bb (de_v 3 (pv 3)))) (da_cons (de_ix (DE.bb (de_v 2 (pv 2))) (DE.bb (de_op op_addA so_add (DE.bb (de_v 3 (pv 3))) (DE.bb de_int)))) (da_cons (de_ix (DE.bb (de_v 2 (pv 2))) (DE.bb (de_op op_addA so_add (DE.bb (de_v 3 (pv 3))) (DE.bb de_int)))) (da_cons (de_v 1 (pv 1)) da_nil))))))))))))

theorem sc_shown_row : FnScope ["signs", "row", "style", "number"] ["signs", "row", "style"] (defScope (topS 40)) := ⟨rfl, rfl, rfl, by decide +kernel, rfl, by decide +kernel, by decide +kernel⟩
theorem ok_shown_row (C : Cn K h mg) : OkF P w K mg base (jj K) "shown_row" 5 ["signs", "row", "style"] sd_shown_row (topS 40) := by
  obtain ⟨fd, F⟩ := C.fn 25 (x := "shown_row") (st := topS 40) rfl
  have o_seen_row : Ok P w K mg base (jj K) "seen_row" 4 ["some", "style"] sd_seen_row := (ok_seen_row C).ok
  refine ⟨fd, dl_fn (N := ["signs", "row", "style", "number"]) (t := t_shown_row) F sc_shown_row len_shown_row (fun cdv A outer s H E hr => ?_) vc_shown_row, C.gl 25 rfl, F.kp, F.bindsN fun _ _ _ _ _ _ us hl => match us, hl with | [_, _, _], _ => rfl, F⟩
  exact (dss_one (ds_ret (DE.bb (de_callO o_seen_row (hr.mono (by decide)) (by rfl) px_def (da_cons (DF.ee (df_lcV rfl sc_shown_row.nd (di_any (de_v 1 (pv 1))) (blkOk_by (own := [("number", 3)]) (N := ["signs", "row", "style", "number"]) (sc := defScope (topS 40)) (by decide +kernel)) (fun _ _ _ _ _ => (dg_n (pgn 3 sc_shown_row.nd))) (fun _ _ _ _ _ => dqs_nil) (fun _ _ _ _ _ => (de_ix (DE.bb (de_v 0 (pv 0))) (DE.bb (de_v 3 (pv 3))))))) (da_cons (de_v 2 (pv 2)) da_nil))))))

theorem sc_shown : FnScope ["signs", "row", "style"] ["signs", "row", "style"] (defScope (topS 41)) := ⟨rfl, rfl, rfl, by decide +kernel, rfl, by decide +kernel, by decide +kernel⟩
theorem ok_shown (C : Cn K h mg) : OkF P w K mg base (jj K) "shown" 7 ["signs", "row", "style"] sd_shown (topS 41) := by
  obtain ⟨fd, F⟩ := C.fn 26 (x := "shown") (st := topS 41) rfl
  have o_check_row : Ok P w K mg base (jj K) "check_row" 3 ["signs", "row"] sd_check_row := (ok_check_row C).ok
  have o_check_signs : Ok P w K mg base (jj K) "check_signs" 6 ["signs"] sd_check_signs := (ok_check_signs C).ok
  have o_check_style : Ok P w K mg base (jj K) "check_style" 1 ["style"] sd_check_style := (ok_check_style C).ok
  have o_shown_row : Ok P w K mg base (jj K) "shown_row" 5 ["signs", "row", "style"] sd_shown_row := (ok_shown_row C).ok
  have z_tuple : mg "tuple" = none := C.fr 60 rfl
  refine ⟨fd, dl_fn (N := ["signs", "row", "style"]) (t := t_shown) F sc_shown len_shown (fun cdv A outer s H E hr => ?_) vc_shown, C.gl 26 rfl, F.kp, F.bindsN fun _ _ _ _ _ _ us hl => match us, hl with | [_, _, _], _ => rfl, F⟩
  exact (dss_cons (ds_drop (de_callO o_check_signs (hr.mono (by decide)) (by rfl) px_def (da_cons (de_v 0 (pv 0)) da_nil)))
    (dss_cons (ds_drop (de_callO o_check_row (hr.mono (by decide)) (by rfl) px_def (da_cons (de_v 0 (pv 0)) (da_cons (de_v 1 (pv 1)) da_nil))))
    (dss_cons (ds_drop (de_callO o_check_style (hr.mono (by decide)) (by rfl) px_def (da_cons (de_v 2 (pv 2)) da_nil)))
    (dss_one (ds_ret (DE.bb (de_tuple (by rfl) z_tuple (DE.bb (de_callO o_shown_row (hr.mono (by decide)) (by rfl) px_def (da_cons (de_v 0 (pv 0)) (da_cons (de_v 1 (pv 1)) (da_cons (de_v 2 (pv 2)) da_nil))))))))))))

theorem sc__law_mirror : FnScope ["_law_signs_here", "_law_row", "_law_style_here", "_law_known", "_law_one", "_law_there", "_law_text", "_law_turned", "_law_number"] ["_law_signs_here", "_law_row", "_law_style_here"] (defScope (topS 56)) := ⟨rfl, rfl, rfl, by decide +kernel, rfl, by decide +kernel, by decide +kernel⟩
theorem ok__law_mirror (C : Cn K h mg) : OkF P w K mg base (jj K) "_law_mirror" 8 ["_law_signs_here", "_law_row", "_law_style_here"] sd_law_mirror (topS 56) := by
  obtain ⟨fd, F⟩ := C.fn 40 (x := "_law_mirror") (st := topS 56) rfl
  have o__law_written : Ok P w K mg base (jj K) "_law_written" 1 ["_law_one"] sd_law_written := (ok__law_written C).ok
  have o_mirrored : Ok P w K mg base (jj K) "mirrored" 6 ["sign"] sd_mirrored := (ok_mirrored C).ok
  have o_shown : Ok P w K mg base (jj K) "shown" 7 ["signs", "row", "style"] sd_shown := (ok_shown C).ok
  have z_dict : mg "dict" = none := C.fr 51 rfl
  have z_sorted : mg "sorted" = none := C.fr 58 rfl
  have z_tuple : mg "tuple" = none := C.fr 60 rfl
  refine ⟨fd, dl_fn (N := ["_law_signs_here", "_law_row", "_law_style_here", "_law_known", "_law_one", "_law_there", "_law_text", "_law_turned", "_law_number"]) (t := t_law_mirror) F sc__law_mirror len_law_mirror (fun cdv A outer s H E hr => ?_) vc_law_mirror, C.gl 40 rfl, F.kp, F.bindsN fun _ _ _ _ _ _ us hl => match us, hl with | [_, _, _], _ => rfl, F⟩
  exact (dss_cons (ds_asg (de_dctP rfl (by rfl) z_dict (DE.bb (DF.ee (df_lcV rfl sc__law_mirror.nd (di_any (de_v 0 (pv 0))) (blkOk_by (own := [("_law_one", 4)]) (N := ["_law_signs_here", "_law_row", "_law_style_here", "_law_known", "_law_one", "_law_there", "_law_text", "_law_turned", "_law_number"]) (sc := defScope (topS 56)) (by decide +kernel)) (fun _ _ _ _ _ => (dg_n (pgn 4 sc__law_mirror.nd))) (fun _ _ _ _ _ => dqs_nil) (fun _ _ _ _ _ => (de_tup (da_cons (de_callO o__law_written (hr.mono (by decide)) (by rfl) passL (da_cons (de_callO o_mirrored (hr.mono (by decide)) (by rfl) passL (da_cons (de_v 4 (pv 4)) da_nil)) da_nil)) (da_cons (de_callO o_mirrored (hr.mono (by decide)) (by rfl) passL (da_cons (de_v 4 (pv 4)) da_nil)) da_nil)))))))) (dg_n (pgn 3 sc__law_mirror.nd)))
    (dss_cons (ds_asg (de_tupleF (by rfl) z_tuple (DE.bb (DF.ee (df_lcV rfl sc__law_mirror.nd (di_any (DF.ee (df_srtD rfl (by rfl) z_sorted (DE.bb (de_v 3 (pv 3)))))) (blkOk_by (own := [("_law_text", 6)]) (N := ["_law_signs_here", "_law_row", "_law_style_here", "_law_known", "_law_one", "_law_there", "_law_text", "_law_turned", "_law_number"]) (sc := defScope (topS 56)) (by decide +kernel)) (fun _ _ _ _ _ => (dg_n (pgn 6 sc__law_mirror.nd))) (fun _ _ _ _ _ => dqs_nil) (fun _ _ _ _ _ => (de_dget (units65 hr) (DE.bb (de_v 3 (pv 3))) (DE.bb (de_v 6 (pv 6))))))))) (dg_n (pgn 5 sc__law_mirror.nd)))
    (dss_cons (ds_asg (de_tuple (by rfl) z_tuple (DE.bb (DF.ee (df_lcV rfl sc__law_mirror.nd (di_any (de_v 1 (pv 1))) (blkOk_by (own := [("_law_number", 8)]) (N := ["_law_signs_here", "_law_row", "_law_style_here", "_law_known", "_law_one", "_law_there", "_law_text", "_law_turned", "_law_number"]) (sc := defScope (topS 56)) (by decide +kernel)) (fun _ _ _ _ _ => (dg_n (pgn 8 sc__law_mirror.nd))) (fun _ _ _ _ _ => dqs_nil) (fun _ _ _ _ _ => (de_index (units65 hr) (de_v 5 (pv 5)) (de_callO o_mirrored (hr.mono (by decide)) (by rfl) passL (da_cons (de_ix (DE.bb (de_v 0 (pv 0))) (DE.bb (de_v 8 (pv 8)))) da_nil)))))))) (dg_n (pgn 7 sc__law_mirror.nd)))
    (dss_one (ds_ret (DE.bb (de_cmp (op_eqD hr.units) so_eq (DE.bb (de_callO o_shown (hr.mono (by decide)) (by rfl) px_def (da_cons (de_thaw (de_v 5 (pv 5))) (da_cons (de_v 7 (pv 7)) (da_cons (de_v 2 (pv 2)) da_nil))))) (DE.bb (de_tuple (by rfl) z_tuple (DE.bb (DF.ee (df_lcV rfl sc__law_mirror.nd (di_any (de_callO o_shown (hr.mono (by decide)) (by rfl) px_def (da_cons (de_v 0 (pv 0)) (da_cons (de_v 1 (pv 1)) (da_cons (de_v 2 (pv 2)) da_nil))))) (blkOk_by (own := [("_law_one", 4)]) (N := ["_law_signs_here", "_law_row", "_law_style_here", "_law_known", "_law_one", "_law_there", "_law_text", "_law_turned", "_law_number"]) (sc := defScope (topS 56)) (by decide +kernel)) (fun _ _ _ _ _ => (dg_n (pgn 4 sc__law_mirror.nd))) (fun _ _ _ _ _ => dqs_nil) (fun _ _ _ _ _ => (de_callO o_mirrored (hr.mono (by decide)) (by rfl) passL (da_cons (de_v 4 (pv 4)) da_nil)))))))) (nomark _))))))))

theorem sc__law_good : FnScope ["_law_one"] ["_law_one"] (defScope (topS 50)) := ⟨rfl, rfl, rfl, by decide +kernel, rfl, by decide +kernel, by decide +kernel⟩
theorem ok__law_good (C : Cn K h mg) : OkF P w K mg base (jj K) "_law_good" 1 ["_law_one"] sd_law_good (topS 50) := by
  obtain ⟨fd, F⟩ := C.fn 34 (x := "_law_good") (st := topS 50) rfl
  refine ⟨fd, dl_fn (N := ["_law_one"]) (t := t_law_good) F sc__law_good len_law_good (fun cdv A outer s H E hr => ?_) vc_law_good, C.gl 34 rfl, F.kp, F.bindsN fun _ _ _ _ _ _ us hl => match us, hl with | [_], _ => rfl, F⟩
  exact (dss_cons (ds_if (dq_cmp op_isN so_isN (DE.bb (de_ix (DE.bb (de_v 0 (pv 0))) (DE.bb de_int))) (DE.bb de_non) (nomark _))
      (dss_one (ds_ret (DE.bb de_bl)))
      dss_nil)
    (dss_cons (ds_if (dq_cmp (op_eqD hr.units) so_eq (DE.bb (de_ix (DE.bb (de_v 0 (pv 0))) (DE.bb de_int))) (DE.bb de_str) (nomark _))
      (dss_one (ds_ret (DE.bb (de_cmp (op_neD hr.units) so_ne (DE.bb (de_ix (DE.bb (de_v 0 (pv 0))) (DE.bb de_int))) (DE.bb de_str) (nomark _)))))
      dss_nil)
    (dss_one (ds_ret (DE.bb (de_or (de_cmp (op_inA (units65 hr)) so_in (DE.bb (de_ix (DE.bb (de_ix (DE.bb (de_v 0 (pv 0))) (DE.bb de_int))) (DE.bb de_int))) (DE.bb (de_tup (da_cons de_str (da_cons de_str da_nil)))) (by rfl)) (de_one (de_cmp (op_eqD hr.units) so_eq (DE.bb (de_ix (DE.bb (de_ix (DE.bb (de_v 0 (pv 0))) (DE.bb de_int))) (DE.bb de_int))) (DE.bb (de_ix (DE.bb (de_v 0 (pv 0))) (DE.bb de_int))) (nomark _)))))))))

theorem sc__law_sign : FnScope ["_law_script", "_law_town", "_law_shape", "_law_turn", "_law_move", "_law_spot", "_law_way", "_law_rest"] ["_law_script", "_law_town"] (defScope (topS 48)) := ⟨rfl, rfl, rfl, by decide +kernel, rfl, by decide +kernel, by decide +kernel⟩
theorem ok__law_sign (C : Cn K h mg) : OkF P w K mg base (jj K) "_law_sign" 2 ["_law_script", "_law_town"] sd_law_sign (topS 48) := by
  obtain ⟨fd, F⟩ := C.fn 32 (x := "_law_sign") (st := topS 48) rfl
  have o__law_draw : Ok P w K mg base (jj K) "_law_draw" 1 ["_law_script", "_law_town", "_law_many"] sd_law_draw := (ok__law_draw C).ok
  refine ⟨fd, dl_fn (N := ["_law_script", "_law_town", "_law_shape", "_law_turn", "_law_move", "_law_spot", "_law_way", "_law_rest"]) (t := t_law_sign) F sc__law_sign len_law_sign (fun cdv A outer s H E hr => ?_) vc_law_sign, C.gl 32 rfl, F.kp, F.bindsN fun _ _ _ _ _ _ us hl => match us, hl with | [_, _], _ => rfl, F⟩
  exact (dss_cons (ds_asg (de_ix (DE.bb de_str) (DE.bb (de_callO o__law_draw (hr.mono (by decide)) (by rfl) px_def (da_cons (de_v 0 (pv 0)) (da_cons (de_v 1 (pv 1)) (da_cons de_int da_nil)))))) (dg_n (pgn 2 sc__law_sign.nd)))
    (dss_cons (ds_asg (de_ix (DE.bb de_str) (DE.bb (de_callO o__law_draw (hr.mono (by decide)) (by rfl) px_def (da_cons (de_v 0 (pv 0)) (da_cons (de_v 1 (pv 1)) (da_cons de_int da_nil)))))) (dg_n (pgn 3 sc__law_sign.nd)))
    (dss_cons (ds_asg (de_ix (DE.bb de_str) (DE.bb (de_callO o__law_draw (hr.mono (by decide)) (by rfl) px_def (da_cons (de_v 0 (pv 0)) (da_cons (de_v 1 (pv 1)) (da_cons de_int da_nil)))))) (dg_n (pgn 4 sc__law_sign.nd)))
    (dss_cons (ds_asg (de_callO o__law_draw (hr.mono (by decide)) (by rfl) px_def (da_cons (de_v 0 (pv 0)) (da_cons (de_v 1 (pv 1)) (da_cons de_int da_nil)))) (dg_n (pgn 5 sc__law_sign.nd)))
    (dss_cons (ds_asg (de_callO o__law_draw (hr.mono (by decide)) (by rfl) px_def (da_cons (de_v 0 (pv 0)) (da_cons (de_v 1 (pv 1)) (da_cons de_int da_nil)))) (dg_n (pgn 6 sc__law_sign.nd)))
    (dss_cons (ds_if (DW.dq (dw_and (dq_cmp (op_eqD hr.units) so_eq (DE.bb (de_v 6 (pv 6))) (DE.bb de_int) (nomark _)) (dw_and1 (dq_cmp (op_neD hr.units) so_ne (DE.bb (de_v 4 (pv 4))) (DE.bb de_str) (nomark _)))))
      (dss_one (ds_ret (DE.bb (de_tup (da_cons (de_v 2 (pv 2)) (da_cons (de_v 3 (pv 3)) (da_cons (de_v 4 (pv 4)) (da_cons (de_v 5 (pv 5)) (da_cons de_str da_nil)))))))))
      dss_nil)
    (dss_cons (ds_if (dq_cmp op_ltA so_lt (DE.bb (de_v 6 (pv 6))) (DE.bb de_int) (nomark _))
      (dss_one (ds_ret (DE.bb (de_tup (da_cons (de_v 2 (pv 2)) (da_cons (de_v 3 (pv 3)) (da_cons (de_v 4 (pv 4)) (da_cons (de_v 5 (pv 5)) (da_cons de_non da_nil)))))))))
      dss_nil)
    (dss_cons (ds_asg (de_ix (DE.bb (de_tup (da_cons de_str (da_cons de_str (da_cons (de_v 2 (pv 2)) da_nil))))) (DE.bb (de_callO o__law_draw (hr.mono (by decide)) (by rfl) px_def (da_cons (de_v 0 (pv 0)) (da_cons (de_v 1 (pv 1)) (da_cons de_int da_nil)))))) (dg_n (pgn 7 sc__law_sign.nd)))
    (dss_one (ds_ret (DE.bb (de_tup (da_cons (de_v 2 (pv 2)) (da_cons (de_v 3 (pv 3)) (da_cons (de_v 4 (pv 4)) (da_cons (de_v 5 (pv 5)) (da_cons (de_tup (da_cons (de_v 7 (pv 7)) (da_cons (de_ix (DE.bb de_str) (DE.bb (de_callO o__law_draw (hr.mono (by decide)) (by rfl) px_def (da_cons (de_v 0 (pv 0)) (da_cons (de_v 1 (pv 1)) (da_cons de_int da_nil)))))) da_nil))) da_nil)))))))))))))))))

theorem sc__law_near : FnScope ["_law_script", "_law_town", "_law_one", "_law_thing", "_law_other", "_law_there"] ["_law_script", "_law_town", "_law_one"] (defScope (topS 51)) := ⟨rfl, rfl, rfl, by decide +kernel, rfl, by decide +kernel, by decide +kernel⟩
theorem ok__law_near (C : Cn K h mg) : OkF P w K mg base (jj K) "_law_near" 3 ["_law_script", "_law_town", "_law_one"] sd_law_near (topS 51) := by
  obtain ⟨fd, F⟩ := C.fn 35 (x := "_law_near") (st := topS 51) rfl
  have o__law_draw : Ok P w K mg base (jj K) "_law_draw" 1 ["_law_script", "_law_town", "_law_many"] sd_law_draw := (ok__law_draw C).ok
  have o__law_good : Ok P w K mg base (jj K) "_law_good" 1 ["_law_one"] sd_law_good := (ok__law_good C).ok
  have o__law_sign : Ok P w K mg base (jj K) "_law_sign" 2 ["_law_script", "_law_town"] sd_law_sign := (ok__law_sign C).ok
  refine ⟨fd, dl_fn (N := ["_law_script", "_law_town", "_law_one", "_law_thing", "_law_other", "_law_there"]) (t := t_law_near) F sc__law_near len_law_near (fun cdv A outer s H E hr => ?_) vc_law_near, C.gl 35 rfl, F.kp, F.bindsN fun _ _ _ _ _ _ us hl => match us, hl with | [_, _, _], _ => rfl, F⟩
  exact (dss_cons (ds_par (i := 3) (j := 4) rfl sc__law_near.nd rfl rfl (by decide) rfl rfl (da_cons (de_callO o__law_draw (hr.mono (by decide)) (by rfl) px_def (da_cons (de_v 0 (pv 0)) (da_cons (de_v 1 (pv 1)) (da_cons de_int da_nil)))) (da_cons (de_callO o__law_sign (hr.mono (by decide)) (by rfl) px_def (da_cons (de_v 0 (pv 0)) (da_cons (de_v 1 (pv 1)) da_nil))) da_nil)) (by rfl))
    (dss_cons (ds_if (dq_cmp (op_eqD hr.units) so_eq (DE.bb (de_v 3 (pv 3))) (DE.bb de_int) (nomark _))
      (dss_one (ds_asg (de_op op_addA so_add (DE.bb (de_sl (DE.bb (de_v 2 (pv 2))) do_none (do_some (DE.bb de_int)))) (DE.bb (de_tup (da_cons de_non da_nil)))) (dg_n (pgn 5 sc__law_near.nd))))
      (dss_one (ds_asg (de_op op_addA so_add (DE.bb (de_op op_addA so_add (DE.bb (de_sl (DE.bb (de_v 2 (pv 2))) do_none (do_some (DE.bb (de_v 3 (pv 3)))))) (DE.bb (de_tup (da_cons (de_ix (DE.bb (de_v 4 (pv 4))) (DE.bb (de_v 3 (pv 3)))) da_nil))))) (DE.bb (de_sl (DE.bb (de_v 2 (pv 2))) (do_some (DE.bb (de_op op_addA so_add (DE.bb (de_v 3 (pv 3))) (DE.bb de_int)))) do_none))) (dg_n (pgn 5 sc__law_near.nd)))))
    (dss_one (ds_ret (DE.bb (de_ifE (dq_val (de_callO o__law_good (hr.mono (by decide)) (by rfl) px_def (da_cons (de_v 5 (pv 5)) da_nil))) (de_v 5 (pv 5)) (de_v 4 (pv 4))))))))

theorem sc__law_signs : FnScope ["_law_script", "_law_town", "_law_most", "_law_found", "_law_k", "_law_known", "_law_one", "_law_text"] ["_law_script", "_law_town", "_law_most"] (defScope (topS 52)) := ⟨rfl, rfl, rfl, by decide +kernel, rfl, by decide +kernel, by decide +kernel⟩
theorem ok__law_signs (C : Cn K h mg) : OkF P w K mg base (jj K) "_law_signs" 4 ["_law_script", "_law_town", "_law_most"] sd_law_signs (topS 52) := by
  obtain ⟨fd, F⟩ := C.fn 36 (x := "_law_signs") (st := topS 52) rfl
  have o__law_draw : Ok P w K mg base (jj K) "_law_draw" 1 ["_law_script", "_law_town", "_law_many"] sd_law_draw := (ok__law_draw C).ok
  have o__law_near : Ok P w K mg base (jj K) "_law_near" 3 ["_law_script", "_law_town", "_law_one"] sd_law_near := (ok__law_near C).ok
  have o__law_sign : Ok P w K mg base (jj K) "_law_sign" 2 ["_law_script", "_law_town"] sd_law_sign := (ok__law_sign C).ok
  have o__law_written : Ok P w K mg base (jj K) "_law_written" 1 ["_law_one"] sd_law_written := (ok__law_written C).ok
  have z_dict : mg "dict" = none := C.fr 51 rfl
  have z_len : mg "len" = none := C.fr 55 rfl
  have z_range : mg "range" = none := C.fr 57 rfl
  have z_sorted : mg "sorted" = none := C.fr 58 rfl
  have z_tuple : mg "tuple" = none := C.fr 60 rfl
  refine ⟨fd, dl_fn (N := ["_law_script", "_law_town", "_law_most", "_law_found", "_law_k", "_law_known", "_law_one", "_law_text"]) (t := t_law_signs) F sc__law_signs len_law_signs (fun cdv A outer s H E hr => ?_) vc_law_signs, C.gl 36 rfl, F.kp, F.bindsN fun _ _ _ _ _ _ us hl => match us, hl with | [_, _, _], _ => rfl, F⟩
  exact (dss_cons (ds_new (df_lst (da_cons (de_callO o__law_sign (hr.mono (by decide)) (by rfl) px_def (da_cons (de_v 0 (pv 0)) (da_cons (de_v 1 (pv 1)) da_nil))) da_nil)) (pgn 3 sc__law_signs.nd))
    (dss_cons (ds_for po_def rfl (di_range (by rfl) z_range (de_callO o__law_draw (hr.mono (by decide)) (by rfl) px_def (da_cons (de_v 0 (pv 0)) (da_cons (de_v 1 (pv 1)) (da_cons (de_v 2 (pv 2)) da_nil))))) (dg_n (pgn 4 sc__law_signs.nd))
      (dss_one (ds_if (dq_cmp op_gt so_intB (DE.bb (de_callO o__law_draw (hr.mono (by decide)) (by rfl) px_def (da_cons (de_v 0 (pv 0)) (da_cons (de_v 1 (pv 1)) (da_cons de_int da_nil))))) (DE.bb de_int) (nomark _))
        (dss_one (ds_app (i := 3) (pv 3) (de_callO o__law_near (hr.mono (by decide)) (by rfl) px_def (da_cons (de_v 0 (pv 0)) (da_cons (de_v 1 (pv 1)) (da_cons (de_ix (db_v 3 (pv 3)) (DE.bb (de_callO o__law_draw (hr.mono (by decide)) (by rfl) px_def (da_cons (de_v 0 (pv 0)) (da_cons (de_v 1 (pv 1)) (da_cons (de_len (by rfl) z_len (db_v 3 (pv 3))) da_nil)))))) da_nil))))))
        (dss_one (ds_app (i := 3) (pv 3) (de_callO o__law_sign (hr.mono (by decide)) (by rfl) px_def (da_cons (de_v 0 (pv 0)) (da_cons (de_v 1 (pv 1)) da_nil))))))))
    (dss_give (i := 3) (dss_cons (ds_asg (de_dctP rfl (by rfl) z_dict (DE.bb (DF.ee (df_lcV rfl sc__law_signs.nd (di_any (de_v 3 (pv 3))) (blkOk_by (own := [("_law_one", 6)]) (N := ["_law_script", "_law_town", "_law_most", "_law_found", "_law_k", "_law_known", "_law_one", "_law_text"]) (sc := defScope (topS 52)) (by decide +kernel)) (fun _ _ _ _ _ => (dg_n (pgn 6 sc__law_signs.nd))) (fun _ _ _ _ _ => dqs_nil) (fun _ _ _ _ _ => (de_tup (da_cons (de_callO o__law_written (hr.mono (by decide)) (by rfl) passL (da_cons (de_v 6 (pv 6)) da_nil)) (da_cons (de_v 6 (pv 6)) da_nil)))))))) (dg_n (pgn 5 sc__law_signs.nd)))
    (dss_one (ds_ret (DE.bb (de_tuple (by rfl) z_tuple (DE.bb (DF.ee (df_lcV rfl sc__law_signs.nd (di_any (DF.ee (df_srtD rfl (by rfl) z_sorted (DE.bb (de_v 5 (pv 5)))))) (blkOk_by (own := [("_law_text", 7)]) (N := ["_law_script", "_law_town", "_law_most", "_law_found", "_law_k", "_law_known", "_law_one", "_law_text"]) (sc := defScope (topS 52)) (by decide +kernel)) (fun _ _ _ _ _ => (dg_n (pgn 7 sc__law_signs.nd))) (fun _ _ _ _ _ => dqs_nil) (fun _ _ _ _ _ => (de_dget (units65 hr) (DE.bb (de_v 5 (pv 5))) (DE.bb (de_v 7 (pv 7))))))))))))))))

theorem sc__law_style : FnScope ["_law_script", "_law_town"] ["_law_script", "_law_town"] (defScope (topS 54)) := ⟨rfl, rfl, rfl, by decide +kernel, rfl, by decide +kernel, by decide +kernel⟩
theorem ok__law_style (C : Cn K h mg) : OkF P w K mg base (jj K) "_law_style" 2 ["_law_script", "_law_town"] sd_law_style (topS 54) := by
  obtain ⟨fd, F⟩ := C.fn 38 (x := "_law_style") (st := topS 54) rfl
  have o__law_draw : Ok P w K mg base (jj K) "_law_draw" 1 ["_law_script", "_law_town", "_law_many"] sd_law_draw := (ok__law_draw C).ok
  refine ⟨fd, dl_fn (N := ["_law_script", "_law_town"]) (t := t_law_style) F sc__law_style len_law_style (fun cdv A outer s H E hr => ?_) vc_law_style, C.gl 38 rfl, F.kp, F.bindsN fun _ _ _ _ _ _ us hl => match us, hl with | [_, _], _ => rfl, F⟩
  exact (dss_one (ds_ret (DE.bb (de_tup (da_cons (de_cmp (op_eqD hr.units) so_eq (DE.bb (de_callO o__law_draw (hr.mono (by decide)) (by rfl) px_def (da_cons (de_v 0 (pv 0)) (da_cons (de_v 1 (pv 1)) (da_cons de_int da_nil))))) (DE.bb de_int) (nomark _)) (da_cons (de_cmp (op_eqD hr.units) so_eq (DE.bb (de_callO o__law_draw (hr.mono (by decide)) (by rfl) px_def (da_cons (de_v 0 (pv 0)) (da_cons (de_v 1 (pv 1)) (da_cons de_int da_nil))))) (DE.bb de_int) (nomark _)) da_nil))))))

theorem sc__law_view : FnScope ["_law_script", "_law_town", "_law_thing"] ["_law_script", "_law_town"] (defScope (topS 53)) := ⟨rfl, rfl, rfl, by decide +kernel, rfl, by decide +kernel, by decide +kernel⟩
theorem ok__law_view (C : Cn K h mg) : OkF P w K mg base (jj K) "_law_view" 2 ["_law_script", "_law_town"] sd_law_view (topS 53) := by
  obtain ⟨fd, F⟩ := C.fn 37 (x := "_law_view") (st := topS 53) rfl
  have o__law_draw : Ok P w K mg base (jj K) "_law_draw" 1 ["_law_script", "_law_town", "_law_many"] sd_law_draw := (ok__law_draw C).ok
  have z_range : mg "range" = none := C.fr 57 rfl
  have z_tuple : mg "tuple" = none := C.fr 60 rfl
  refine ⟨fd, dl_fn (N := ["_law_script", "_law_town", "_law_thing"]) (t := t_law_view) F sc__law_view len_law_view (fun cdv A outer s H E hr => ?_) vc_law_view, C.gl 37 rfl, F.kp, F.bindsN fun _ _ _ _ _ _ us hl => match us, hl with | [_, _], _ => rfl, F⟩
  exact (dss_one (ds_ret (DE.bb (de_tuple (by rfl) z_tuple (DE.bb (DF.ee (df_lcV rfl sc__law_view.nd (di_range (by rfl) z_range de_int) (blkOk_by (own := [("_law_thing", 2)]) (N := ["_law_script", "_law_town", "_law_thing"]) (sc := defScope (topS 53)) (by decide +kernel)) (fun _ _ _ _ _ => (dg_n (pgn 2 sc__law_view.nd))) (fun _ _ _ _ _ => (dqs_one (dq_cmp op_gt so_intB (DE.bb (de_callO o__law_draw (hr.mono (by decide)) (by rfl) passL (da_cons (de_v 0 (pv 0)) (da_cons (de_v 1 (pv 1)) (da_cons de_int da_nil))))) (DE.bb de_int) (nomark _)))) (fun _ _ _ _ _ => (de_v 2 (pv 2))))))))))

theorem sc_can_rest : FnScope ["sign", "hand"] ["sign", "hand"] (defScope (topS 23)) := ⟨rfl, rfl, rfl, by decide +kernel, rfl, by decide +kernel, by decide +kernel⟩
theorem ok_can_rest (C : Cn K h mg) : OkF P w K mg base (jj K) "can_rest" 6 ["sign", "hand"] sd_can_rest (topS 23) := by
  obtain ⟨fd, F⟩ := C.fn 9 (x := "can_rest") (st := topS 23) rfl
  have o_can_hold : Ok P w K mg base (jj K) "can_hold" 2 ["sign", "hand"] sd_can_hold := (ok_can_hold C).ok
  have o_check_sign : Ok P w K mg base (jj K) "check_sign" 5 ["sign"] sd_check_sign := (ok_check_sign C).ok
  have o_is_hand : Ok P w K mg base (jj K) "is_hand" 2 ["value"] sd_is_hand := (ok_is_hand C).ok
  have x_InvalidHand : Exn K mg ((jj K).ca "InvalidHand") "InvalidHand" := C.ex 44 68 rfl rfl
  refine ⟨fd, dl_fn (N := ["sign", "hand"]) (t := t_can_rest) F sc_can_rest len_can_rest (fun cdv A outer s H E hr => ?_) vc_can_rest, C.gl 9 rfl, F.kp, F.bindsN fun _ _ _ _ _ _ us hl => match us, hl with | [_, _], _ => rfl, F⟩
  exact (dss_cons (ds_drop (de_callO o_check_sign (hr.mono (by decide)) (by rfl) px_def (da_cons (de_v 0 (pv 0)) da_nil)))
    (dss_cons (ds_if (dq_not (dq_val (de_callO o_is_hand (hr.mono (by decide)) (by rfl) px_def (da_cons (de_v 1 (pv 1)) da_nil))))
      (dss_one (ds_raise rfl tk_def x_InvalidHand (by rfl)))
      dss_nil)
    (dss_one (ds_ret (DE.bb (de_callO o_can_hold (hr.mono (by decide)) (by rfl) px_def (da_cons (de_v 0 (pv 0)) (da_cons (de_v 1 (pv 1)) da_nil))))))))

theorem sc_check_two : FnScope ["one", "other"] ["one", "other"] (defScope (topS 24)) := ⟨rfl, rfl, rfl, by decide +kernel, rfl, by decide +kernel, by decide +kernel⟩
theorem ok_check_two (C : Cn K h mg) : OkF P w K mg base (jj K) "check_two" 6 ["one", "other"] sd_check_two (topS 24) := by
  obtain ⟨fd, F⟩ := C.fn 10 (x := "check_two") (st := topS 24) rfl
  have o_check_sign : Ok P w K mg base (jj K) "check_sign" 5 ["sign"] sd_check_sign := (ok_check_sign C).ok
  refine ⟨fd, dl_fn (N := ["one", "other"]) (t := t_check_two) F sc_check_two len_check_two (fun cdv A outer s H E hr => ?_) vc_check_two, C.gl 10 rfl, F.kp, F.bindsN fun _ _ _ _ _ _ us hl => match us, hl with | [_, _], _ => rfl, F⟩
  exact (dss_cons (ds_drop (de_callO o_check_sign (hr.mono (by decide)) (by rfl) px_def (da_cons (de_v 0 (pv 0)) da_nil)))
    (dss_one (ds_drop (de_callO o_check_sign (hr.mono (by decide)) (by rfl) px_def (da_cons (de_v 1 (pv 1)) da_nil)))))

theorem sc_unlike_in : FnScope ["one", "other", "thing"] ["one", "other"] (defScope (topS 25)) := ⟨rfl, rfl, rfl, by decide +kernel, rfl, by decide +kernel, by decide +kernel⟩
theorem ok_unlike_in (C : Cn K h mg) : OkF P w K mg base (jj K) "unlike_in" 1 ["one", "other"] sd_unlike_in (topS 25) := by
  obtain ⟨fd, F⟩ := C.fn 11 (x := "unlike_in") (st := topS 25) rfl
  have z_range : mg "range" = none := C.fr 57 rfl
  refine ⟨fd, dl_fn (N := ["one", "other", "thing"]) (t := t_unlike_in) F sc_unlike_in len_unlike_in (fun cdv A outer s H E hr => ?_) vc_unlike_in, C.gl 11 rfl, F.kp, F.bindsN fun _ _ _ _ _ _ us hl => match us, hl with | [_, _], _ => rfl, F⟩
  exact (dss_one (ds_ret (DE.bb (DF.ee (df_lcV rfl sc_unlike_in.nd (di_range (by rfl) z_range de_int) (blkOk_by (own := [("thing", 2)]) (N := ["one", "other", "thing"]) (sc := defScope (topS 25)) (by decide +kernel)) (fun _ _ _ _ _ => (dg_n (pgn 2 sc_unlike_in.nd))) (fun _ _ _ _ _ => (dqs_one (dq_cmp (op_neD hr.units) so_ne (DE.bb (de_ix (DE.bb (de_v 0 (pv 0))) (DE.bb (de_v 2 (pv 2))))) (DE.bb (de_ix (DE.bb (de_v 1 (pv 1))) (DE.bb (de_v 2 (pv 2))))) (nomark _)))) (fun _ _ _ _ _ => (de_v 2 (pv 2))))))))

theorem sc_differences : FnScope ["one", "other"] ["one", "other"] (defScope (topS 26)) := ⟨rfl, rfl, rfl, by decide +kernel, rfl, by decide +kernel, by decide +kernel⟩
theorem ok_differences (C : Cn K h mg) : OkF P w K mg base (jj K) "differences" 7 ["one", "other"] sd_differences (topS 26) := by
  obtain ⟨fd, F⟩ := C.fn 12 (x := "differences") (st := topS 26) rfl
  have o_check_two : Ok P w K mg base (jj K) "check_two" 6 ["one", "other"] sd_check_two := (ok_check_two C).ok
  have o_unlike_in : Ok P w K mg base (jj K) "unlike_in" 1 ["one", "other"] sd_unlike_in := (ok_unlike_in C).ok
  have z_tuple : mg "tuple" = none := C.fr 60 rfl
  refine ⟨fd, dl_fn (N := ["one", "other"]) (t := t_differences) F sc_differences len_differences (fun cdv A outer s H E hr => ?_) vc_differences, C.gl 12 rfl, F.kp, F.bindsN fun _ _ _ _ _ _ us hl => match us, hl with | [_, _], _ => rfl, F⟩
  exact (dss_cons (ds_drop (de_callO o_check_two (hr.mono (by decide)) (by rfl) px_def (da_cons (de_v 0 (pv 0)) (da_cons (de_v 1 (pv 1)) da_nil))))
    (dss_one (ds_ret (DE.bb (de_tuple (by rfl) z_tuple (DE.bb (de_callO o_unlike_in (hr.mono (by decide)) (by rfl) px_def (da_cons (de_v 0 (pv 0)) (da_cons (de_v 1 (pv 1)) da_nil)))))))))

theorem sc_check_view : FnScope ["view", "thing", "one", "other"] ["view"] (defScope (topS 37)) := ⟨rfl, rfl, rfl, by decide +kernel, rfl, by decide +kernel, by decide +kernel⟩
theorem ok_check_view (C : Cn K h mg) : OkF P w K mg base (jj K) "check_view" 2 ["view"] sd_check_view (topS 37) := by
  obtain ⟨fd, F⟩ := C.fn 22 (x := "check_view") (st := topS 37) rfl
  have o_is_between : Ok P w K mg base (jj K) "is_between" 1 ["value", "low", "high"] sd_is_between := (ok_is_between C).ok
  have z_all : mg "all" = none := C.fr 49 rfl
  have z_isinstance : mg "isinstance" = none := C.fr 54 rfl
  have z_tuple : mg "tuple" = none := C.fr 60 rfl
  have z_zip : mg "zip" = none := C.fr 61 rfl
  have x_InvalidView : Exn K mg ((jj K).ca "InvalidView") "InvalidView" := C.ex 48 72 rfl rfl
  refine ⟨fd, dl_fn (N := ["view", "thing", "one", "other"]) (t := t_check_view) F sc_check_view len_check_view (fun cdv A outer s H E hr => ?_) vc_check_view, C.gl 22 rfl, F.kp, F.bindsN fun _ _ _ _ _ _ us hl => match us, hl with | [_], _ => rfl, F⟩
  exact (dss_cons (ds_if (DW.dq (dw_or (dq_not (dq_val (de_isT kitf_tup (by rfl) z_isinstance (by rfl) z_tuple boot_tuple' (DE.bb (de_v 0 (pv 0)))))) (dw_or1 (dq_not (dq_val (de_all rfl (by rfl) z_all (DE.bb (DF.ee (df_lcV rfl sc_check_view.nd (di_any (de_v 0 (pv 0))) (blkOk_by (own := [("thing", 1)]) (N := ["view", "thing", "one", "other"]) (sc := defScope (topS 37)) (by decide +kernel)) (fun _ _ _ _ _ => (dg_n (pgn 1 sc_check_view.nd))) (fun _ _ _ _ _ => dqs_nil) (fun _ _ _ _ _ => (de_callO o_is_between (hr.mono (by decide)) (by rfl) passL (da_cons (de_v 1 (pv 1)) (da_cons de_int (da_cons de_int da_nil))))))))))))))
      (dss_one (ds_raise rfl tk_def x_InvalidView (by rfl)))
      dss_nil)
    (dss_one (ds_if (dq_not (dq_val (de_all rfl (by rfl) z_all (DE.bb (DF.ee (df_lcV rfl sc_check_view.nd (di_zip (by rfl) z_zip (de_v 0 (pv 0)) (de_sl (DE.bb (de_v 0 (pv 0))) (do_some (DE.bb de_int)) do_none)) (blkOk_by (own := [("one", 2), ("other", 3)]) (N := ["view", "thing", "one", "other"]) (sc := defScope (topS 37)) (by decide +kernel)) (fun _ _ _ _ _ => (dg_t rfl (dgs_cons (dg_n (pgn 2 sc_check_view.nd)) (dgs_cons (dg_n (pgn 3 sc_check_view.nd)) dgs_nil)))) (fun _ _ _ _ _ => dqs_nil) (fun _ _ _ _ _ => (de_cmp op_ltA so_lt (DE.bb (de_v 2 (pv 2))) (DE.bb (de_v 3 (pv 3))) (nomark _)))))))))
      (dss_one (ds_raise rfl tk_def x_InvalidView (by rfl)))
      dss_nil)))

theorem sc_glance : FnScope ["sign", "view", "thing"] ["sign", "view"] (defScope (topS 42)) := ⟨rfl, rfl, rfl, by decide +kernel, rfl, by decide +kernel, by decide +kernel⟩
theorem ok_glance (C : Cn K h mg) : OkF P w K mg base (jj K) "glance" 1 ["sign", "view"] sd_glance (topS 42) := by
  obtain ⟨fd, F⟩ := C.fn 27 (x := "glance") (st := topS 42) rfl
  have z_tuple : mg "tuple" = none := C.fr 60 rfl
  refine ⟨fd, dl_fn (N := ["sign", "view", "thing"]) (t := t_glance) F sc_glance len_glance (fun cdv A outer s H E hr => ?_) vc_glance, C.gl 27 rfl, F.kp, F.bindsN fun _ _ _ _ _ _ us hl => match us, hl with | [_, _], _ => rfl, F⟩
  exact (dss_one (ds_ret (DE.bb (de_tuple (by rfl) z_tuple (DE.bb (DF.ee (df_lcV rfl sc_glance.nd (di_any (de_v 1 (pv 1))) (blkOk_by (own := [("thing", 2)]) (N := ["sign", "view", "thing"]) (sc := defScope (topS 42)) (by decide +kernel)) (fun _ _ _ _ _ => (dg_n (pgn 2 sc_glance.nd))) (fun _ _ _ _ _ => dqs_nil) (fun _ _ _ _ _ => (de_ix (DE.bb (de_v 0 (pv 0))) (DE.bb (de_v 2 (pv 2))))))))))))

theorem sc_glances_of : FnScope ["signs", "row", "style", "view", "sign"] ["signs", "row", "style", "view"] (defScope (topS 43)) := ⟨rfl, rfl, rfl, by decide +kernel, rfl, by decide +kernel, by decide +kernel⟩
theorem ok_glances_of (C : Cn K h mg) : OkF P w K mg base (jj K) "glances_of" 6 ["signs", "row", "style", "view"] sd_glances_of (topS 43) := by
  obtain ⟨fd, F⟩ := C.fn 28 (x := "glances_of") (st := topS 43) rfl
  have o_glance : Ok P w K mg base (jj K) "glance" 1 ["sign", "view"] sd_glance := (ok_glance C).ok
  have o_shown_row : Ok P w K mg base (jj K) "shown_row" 5 ["signs", "row", "style"] sd_shown_row := (ok_shown_row C).ok
  have z_tuple : mg "tuple" = none := C.fr 60 rfl
  refine ⟨fd, dl_fn (N := ["signs", "row", "style", "view", "sign"]) (t := t_glances_of) F sc_glances_of len_glances_of (fun cdv A outer s H E hr => ?_) vc_glances_of, C.gl 28 rfl, F.kp, F.bindsN fun _ _ _ _ _ _ us hl => match us, hl with | [_, _, _, _], _ => rfl, F⟩
  exact (dss_one (ds_ret (DE.bb (de_tuple (by rfl) z_tuple (DE.bb (DF.ee (df_lcV rfl sc_glances_of.nd (di_any (de_callO o_shown_row (hr.mono (by decide)) (by rfl) px_def (da_cons (de_v 0 (pv 0)) (da_cons (de_v 1 (pv 1)) (da_cons (de_v 2 (pv 2)) da_nil))))) (blkOk_by (own := [("sign", 4)]) (N := ["signs", "row", "style", "view", "sign"]) (sc := defScope (topS 43)) (by decide +kernel)) (fun _ _ _ _ _ => (dg_n (pgn 4 sc_glances_of.nd))) (fun _ _ _ _ _ => dqs_nil) (fun _ _ _ _ _ => (de_callO o_glance (hr.mono (by decide)) (by rfl) passL (da_cons (de_v 4 (pv 4)) (da_cons (de_v 3 (pv 3)) da_nil)))))))))))

theorem sc_glances : FnScope ["signs", "row", "style", "view"] ["signs", "row", "style", "view"] (defScope (topS 44)) := ⟨rfl, rfl, rfl, by decide +kernel, rfl, by decide +kernel, by decide +kernel⟩
theorem ok_glances (C : Cn K h mg) : OkF P w K mg base (jj K) "glances" 7 ["signs", "row", "style", "view"] sd_glances (topS 44) := by
  obtain ⟨fd, F⟩ := C.fn 29 (x := "glances") (st := topS 44) rfl
  have o_check_row : Ok P w K mg base (jj K) "check_row" 3 ["signs", "row"] sd_check_row := (ok_check_row C).ok
  have o_check_signs : Ok P w K mg base (jj K) "check_signs" 6 ["signs"] sd_check_signs := (ok_check_signs C).ok
  have o_check_style : Ok P w K mg base (jj K) "check_style" 1 ["style"] sd_check_style := (ok_check_style C).ok
  have o_check_view : Ok P w K mg base (jj K) "check_view" 2 ["view"] sd_check_view := (ok_check_view C).ok
  have o_glances_of : Ok P w K mg base (jj K) "glances_of" 6 ["signs", "row", "style", "view"] sd_glances_of := (ok_glances_of C).ok
  refine ⟨fd, dl_fn (N := ["signs", "row", "style", "view"]) (t := t_glances) F sc_glances len_glances (fun cdv A outer s H E hr => ?_) vc_glances, C.gl 29 rfl, F.kp, F.bindsN fun _ _ _ _ _ _ us hl => match us, hl with | [_, _, _, _], _ => rfl, F⟩
  exact (dss_cons (ds_drop (de_callO o_check_signs (hr.mono (by decide)) (by rfl) px_def (da_cons (de_v 0 (pv 0)) da_nil)))
    (dss_cons (ds_drop (de_callO o_check_row (hr.mono (by decide)) (by rfl) px_def (da_cons (de_v 0 (pv 0)) (da_cons (de_v 1 (pv 1)) da_nil))))
    (dss_cons (ds_drop (de_callO o_check_style (hr.mono (by decide)) (by rfl) px_def (da_cons (de_v 2 (pv 2)) da_nil)))
    (dss_cons (ds_drop (de_callO o_check_view (hr.mono (by decide)) (by rfl) px_def (da_cons (de_v 3 (pv 3)) da_nil)))
    (dss_one (ds_ret (DE.bb (de_callO o_glances_of (hr.mono (by decide)) (by rfl) px_def (da_cons (de_v 0 (pv 0)) (da_cons (de_v 1 (pv 1)) (da_cons (de_v 2 (pv 2)) (da_cons (de_v 3 (pv 3)) da_nil))))))))))))

theorem sc_law : FnScope ["_law_script", "_law_town", "_law_k", "_law_signs_here", "_law_style_here", "_law_view_here", "_law_row", "_law_seen", "_law_at", "_law_number", "_law_one", "_law_here", "_law_around", "_law_place", "_law_first", "_law_second", "_law_thing", "_law_hidden"] ["_law_script"] (defScope (topS 57)) := ⟨rfl, rfl, rfl, by decide +kernel, rfl, by decide +kernel, by decide +kernel⟩
theorem ok_law (C : Cn K h mg) {fd : FuncData} (F : FunD K "law" "law" (defArgs (topS 57)) (defBody (topS 57)) (defScope (topS 57)) [] [] (He.ga K "law") fd) : FnOk P w K mg base (L2.CX P w) 9 (He.ga K "law") fd ["_law_script"] (Lift ⟨P, w, K⟩ (jj K) sd_law) := by
  have o__law_begun : Ok P w K mg base (jj K) "_law_begun" 1 [] sd_law_begun := (ok__law_begun C).ok
  have o__law_line : Ok P w K mg base (jj K) "_law_line" 2 ["_law_script", "_law_town", "_law_many", "_law_most"] sd_law_line := (ok__law_line C).ok
  have o__law_mirror : Ok P w K mg base (jj K) "_law_mirror" 8 ["_law_signs_here", "_law_row", "_law_style_here"] sd_law_mirror := (ok__law_mirror C).ok
  have o__law_signs : Ok P w K mg base (jj K) "_law_signs" 4 ["_law_script", "_law_town", "_law_most"] sd_law_signs := (ok__law_signs C).ok
  have o__law_style : Ok P w K mg base (jj K) "_law_style" 2 ["_law_script", "_law_town"] sd_law_style := (ok__law_style C).ok
  have o__law_view : Ok P w K mg base (jj K) "_law_view" 2 ["_law_script", "_law_town"] sd_law_view := (ok__law_view C).ok
  have o_can_rest : Ok P w K mg base (jj K) "can_rest" 6 ["sign", "hand"] sd_can_rest := (ok_can_rest C).ok
  have o_differences : Ok P w K mg base (jj K) "differences" 7 ["one", "other"] sd_differences := (ok_differences C).ok
  have o_glances : Ok P w K mg base (jj K) "glances" 7 ["signs", "row", "style", "view"] sd_glances := (ok_glances C).ok
  have o_is_sign : Ok P w K mg base (jj K) "is_sign" 4 ["value"] sd_is_sign := (ok_is_sign C).ok
  have o_shown : Ok P w K mg base (jj K) "shown" 7 ["signs", "row", "style"] sd_shown := (ok_shown C).ok
  have z_enumerate : mg "enumerate" = none := C.fr 52 rfl
  have z_len : mg "len" = none := C.fr 55 rfl
  have z_range : mg "range" = none := C.fr 57 rfl
  have z_tuple : mg "tuple" = none := C.fr 60 rfl
  have z_zip : mg "zip" = none := C.fr 61 rfl
  refine dl_fn (N := ["_law_script", "_law_town", "_law_k", "_law_signs_here", "_law_style_here", "_law_view_here", "_law_row", "_law_seen", "_law_at", "_law_number", "_law_one", "_law_here", "_law_around", "_law_place", "_law_first", "_law_second", "_law_thing", "_law_hidden"]) (t := t_law) F sc_law len_law (fun cdv A outer s H E hr => ?_) vc_law
  exact (dss_cons (ds_asg (de_callO0 o__law_begun (hr.mono (by decide)) (by rfl) px_def) (dg_n (pgn 1 sc_law.nd)))
    (dss_cons (ds_for po_def rfl (di_range (by rfl) z_range de_int) (dg_n (pgn 2 sc_law.nd))
      (dss_cons (ds_asg (de_tup (da_cons (de_callO o__law_signs (hr.mono (by decide)) (by rfl) px_def (da_cons (de_v 0 (pv 0)) (da_cons (de_v 1 (pv 1)) (da_cons de_int da_nil)))) (da_cons (de_callO o__law_style (hr.mono (by decide)) (by rfl) px_def (da_cons (de_v 0 (pv 0)) (da_cons (de_v 1 (pv 1)) da_nil))) (da_cons (de_callO o__law_view (hr.mono (by decide)) (by rfl) px_def (da_cons (de_v 0 (pv 0)) (da_cons (de_v 1 (pv 1)) da_nil))) da_nil)))) (dg_t rfl (dgs_cons (dg_n (pgn 3 sc_law.nd)) (dgs_cons (dg_n (pgn 4 sc_law.nd)) (dgs_cons (dg_n (pgn 5 sc_law.nd)) dgs_nil)))))
      (dss_cons (ds_asg (de_callO o__law_line (hr.mono (by decide)) (by rfl) px_def (da_cons (de_v 0 (pv 0)) (da_cons (de_v 1 (pv 1)) (da_cons (de_len (by rfl) z_len (DE.bb (de_v 3 (pv 3)))) (da_cons de_int da_nil))))) (dg_n (pgn 6 sc_law.nd)))
      (dss_cons (ds_asg (de_callO o_shown (hr.mono (by decide)) (by rfl) px_def (da_cons (de_v 3 (pv 3)) (da_cons (de_v 6 (pv 6)) (da_cons (de_v 4 (pv 4)) da_nil)))) (dg_n (pgn 7 sc_law.nd)))
      (dss_cons (ds_if (DW.dq (dw_or (dq_cmp (op_neD hr.units) so_ne (DE.bb (de_len (by rfl) z_len (DE.bb (de_v 7 (pv 7))))) (DE.bb (de_len (by rfl) z_len (DE.bb (de_v 6 (pv 6))))) (nomark _)) (dw_or1 (dq_not (dq_val (de_callO o__law_mirror (hr.mono (by decide)) (by rfl) px_def (da_cons (de_v 3 (pv 3)) (da_cons (de_v 6 (pv 6)) (da_cons (de_v 4 (pv 4)) da_nil)))))))))
        (dss_one (ds_ret (DE.bb de_bl)))
        dss_nil)
      (dss_cons (ds_for po_def rfl (di_enumZ (by rfl) z_enumerate (by rfl) z_zip (de_v 6 (pv 6)) (de_v 7 (pv 7))) (dg_t rfl (dgs_cons (dg_n (pgn 8 sc_law.nd)) (dgs_cons (dg_t rfl (dgs_cons (dg_n (pgn 9 sc_law.nd)) (dgs_cons (dg_n (pgn 10 sc_law.nd)) dgs_nil))) dgs_nil)))
        (dss_cons (ds_asg (de_ix (DE.bb (de_v 3 (pv 3))) (DE.bb (de_v 9 (pv 9)))) (dg_n (pgn 11 sc_law.nd)))
        (dss_cons (ds_if (dq_not (dq_val (de_callO o_is_sign (hr.mono (by decide)) (by rfl) px_def (da_cons (de_v 10 (pv 10)) da_nil))))
          (dss_one (ds_ret (DE.bb de_bl)))
          dss_nil)
        (dss_cons (ds_if (dq_cmp (op_notInA (units65 hr)) so_in (DE.bb (de_callO o_differences (hr.mono (by decide)) (by rfl) px_def (da_cons (de_v 10 (pv 10)) (da_cons (de_v 11 (pv 11)) da_nil)))) (DE.bb (de_tup (da_cons (de_tup da_nil) (da_cons (de_tup (da_cons de_int da_nil)) da_nil)))) (by rfl))
          (dss_one (ds_ret (DE.bb de_bl)))
          dss_nil)
        (dss_cons (ds_if (DW.dq (dw_and (dq_cmp (op_neD hr.units) so_ne (DE.bb (de_v 10 (pv 10))) (DE.bb (de_v 11 (pv 11))) (nomark _)) (dw_and1 (dq_cmp op_notN so_notN (DE.bb (de_ix (DE.bb (de_v 11 (pv 11))) (DE.bb de_int))) (DE.bb de_non) (nomark _)))))
          (dss_one (ds_ret (DE.bb de_bl)))
          dss_nil)
        (dss_cons (ds_lcV (i := 12) rfl sc_law.nd rfl rfl (sw_true rfl rfl rfl (by decide +kernel)) (di_any (de_tup (da_cons (de_op op_sub so_int (DE.bb (de_v 8 (pv 8))) (DE.bb de_int)) (da_cons (de_op op_addA so_add (DE.bb (de_v 8 (pv 8))) (DE.bb de_int)) da_nil)))) (blkOk_by (own := [("_law_place", 13)]) (N := ["_law_script", "_law_town", "_law_k", "_law_signs_here", "_law_style_here", "_law_view_here", "_law_row", "_law_seen", "_law_at", "_law_number", "_law_one", "_law_here", "_law_around", "_law_place", "_law_first", "_law_second", "_law_thing", "_law_hidden"]) (sc := defScope (topS 57)) (by decide +kernel)) (fun _ _ _ _ _ => (dg_n (pgn 13 sc_law.nd))) (fun _ _ _ _ _ => (dqs_one (dq_chain op_le op_ltA so_intB so_lt (DE.bb de_int) (DE.bb (de_v 13 (pv 13))) (DE.bb (de_len (by rfl) z_len (DE.bb (de_v 6 (pv 6)))))))) (fun _ _ _ _ _ => (de_ix (DE.bb (de_ix (DE.bb (de_v 3 (pv 3))) (DE.bb (de_ix (DE.bb (de_v 6 (pv 6))) (DE.bb (de_v 13 (pv 13))))))) (DE.bb de_int))))
        (dss_cons (ds_if (DW.dq (dw_and (dq_cmp (op_neD hr.units) so_ne (DE.bb (de_v 10 (pv 10))) (DE.bb (de_v 11 (pv 11))) (nomark _)) (dw_and1 (DW.dq (dw_or (dq_cmp (op_notInA (units65 hr)) so_in (DE.bb (de_ix (DE.bb (de_v 10 (pv 10))) (DE.bb de_int))) (DE.bb (de_v 12 (pv 12))) (by rfl)) (dw_or1 (dq_not (dq_val (de_callO o_can_rest (hr.mono (by decide)) (by rfl) px_def (da_cons (de_v 11 (pv 11)) (da_cons (de_ix (DE.bb (de_v 10 (pv 10))) (DE.bb de_int)) da_nil)))))))))))
          (dss_one (ds_ret (DE.bb de_bl)))
          dss_nil)
        (dss_one (ds_if (dq_cmp op_notN so_notN (DE.bb (de_ix (DE.bb (de_v 11 (pv 11))) (DE.bb de_int))) (DE.bb de_non) (nomark _))
          (dss_cons (ds_par (i := 14) (j := 15) rfl sc_law.nd rfl rfl (by decide) rfl rfl (da_cons (de_callO o_shown (hr.mono (by decide)) (by rfl) px_def (da_cons (de_v 3 (pv 3)) (da_cons (de_sl (DE.bb (de_v 6 (pv 6))) do_none (do_some (DE.bb (de_op op_addA so_add (DE.bb (de_v 8 (pv 8))) (DE.bb de_int))))) (da_cons (de_v 4 (pv 4)) da_nil)))) (da_cons (de_callO o_shown (hr.mono (by decide)) (by rfl) px_def (da_cons (de_v 3 (pv 3)) (da_cons (de_sl (DE.bb (de_v 6 (pv 6))) (do_some (DE.bb (de_v 8 (pv 8)))) do_none) (da_cons (de_v 4 (pv 4)) da_nil)))) da_nil)) (by rfl))
          (dss_one (ds_if (dq_cmp (op_neD hr.units) so_ne (DE.bb (de_op op_addA so_add (DE.bb (de_v 14 (pv 14))) (DE.bb (de_sl (DE.bb (de_v 15 (pv 15))) (do_some (DE.bb de_int)) do_none)))) (DE.bb (de_v 7 (pv 7))) (nomark _))
            (dss_one (ds_ret (DE.bb de_bl)))
            dss_nil)))
          dss_nil)))))))))
      (dss_cons (ds_if (dq_cmp (op_neD hr.units) so_ne (DE.bb (de_callO o_shown (hr.mono (by decide)) (by rfl) px_def (da_cons (de_v 3 (pv 3)) (da_cons (de_v 6 (pv 6)) (da_cons (de_tup (da_cons de_bl (da_cons de_bl da_nil))) da_nil))))) (DE.bb (de_tuple (by rfl) z_tuple (DE.bb (DF.ee (df_lcV rfl sc_law.nd (di_any (de_v 6 (pv 6))) (blkOk_by (own := [("_law_number", 9)]) (N := ["_law_script", "_law_town", "_law_k", "_law_signs_here", "_law_style_here", "_law_view_here", "_law_row", "_law_seen", "_law_at", "_law_number", "_law_one", "_law_here", "_law_around", "_law_place", "_law_first", "_law_second", "_law_thing", "_law_hidden"]) (sc := defScope (topS 57)) (by decide +kernel)) (fun _ _ _ _ _ => (dg_n (pgn 9 sc_law.nd))) (fun _ _ _ _ _ => dqs_nil) (fun _ _ _ _ _ => (de_ix (DE.bb (de_v 3 (pv 3))) (DE.bb (de_v 9 (pv 9)))))))))) (nomark _))
        (dss_one (ds_ret (DE.bb de_bl)))
        dss_nil)
      (dss_cons (ds_if (dq_cmp (op_neD hr.units) so_ne (DE.bb (de_callO o_glances (hr.mono (by decide)) (by rfl) px_def (da_cons (de_v 3 (pv 3)) (da_cons (de_v 6 (pv 6)) (da_cons (de_v 4 (pv 4)) (da_cons (de_tup (da_cons de_int (da_cons de_int (da_cons de_int (da_cons de_int (da_cons de_int da_nil)))))) da_nil)))))) (DE.bb (de_v 7 (pv 7))) (nomark _))
        (dss_one (ds_ret (DE.bb de_bl)))
        dss_nil)
      (dss_cons (ds_if (dq_cmp (op_neD hr.units) so_ne (DE.bb (de_callO o_glances (hr.mono (by decide)) (by rfl) px_def (da_cons (de_v 3 (pv 3)) (da_cons (de_v 6 (pv 6)) (da_cons (de_v 4 (pv 4)) (da_cons (de_v 5 (pv 5)) da_nil)))))) (DE.bb (de_tuple (by rfl) z_tuple (DE.bb (DF.ee (df_lcV rfl sc_law.nd (di_any (de_v 7 (pv 7))) (blkOk_by (own := [("_law_one", 10)]) (N := ["_law_script", "_law_town", "_law_k", "_law_signs_here", "_law_style_here", "_law_view_here", "_law_row", "_law_seen", "_law_at", "_law_number", "_law_one", "_law_here", "_law_around", "_law_place", "_law_first", "_law_second", "_law_thing", "_law_hidden"]) (sc := defScope (topS 57)) (by decide +kernel)) (fun _ _ _ _ _ => (dg_n (pgn 10 sc_law.nd))) (fun _ _ _ _ _ => dqs_nil) (fun _ _ _ _ _ => (de_tuple (by rfl) z_tuple (DE.bb (DF.ee (df_lcV rfl sc_law.nd (di_any (de_v 5 (pv 5))) (blkOk_in (own := [("_law_thing", 16)]) (N := ["_law_script", "_law_town", "_law_k", "_law_signs_here", "_law_style_here", "_law_view_here", "_law_row", "_law_seen", "_law_at", "_law_number", "_law_one", "_law_here", "_law_around", "_law_place", "_law_first", "_law_second", "_law_thing", "_law_hidden"]) (sc1 := defScope (topS 57)) rfl (by decide +kernel)) (fun _ _ _ _ _ => (dg_n (pgn 16 sc_law.nd))) (fun _ _ _ _ _ => dqs_nil) (fun _ _ _ _ _ => (de_ix (DE.bb (de_v 10 (pv 10))) (DE.bb (de_v 16 (pv 16))))))))))))))) (nomark _))
        (dss_one (ds_ret (DE.bb de_bl)))
        dss_nil)
      (dss_cons (ds_asg (de_tuple (by rfl) z_tuple (DE.bb (DF.ee (df_lcV rfl sc_law.nd (di_any (de_v 5 (pv 5))) (blkOk_by (own := [("_law_thing", 16)]) (N := ["_law_script", "_law_town", "_law_k", "_law_signs_here", "_law_style_here", "_law_view_here", "_law_row", "_law_seen", "_law_at", "_law_number", "_law_one", "_law_here", "_law_around", "_law_place", "_law_first", "_law_second", "_law_thing", "_law_hidden"]) (sc := defScope (topS 57)) (by decide +kernel)) (fun _ _ _ _ _ => (dg_n (pgn 16 sc_law.nd))) (fun _ _ _ _ _ => (dqs_one (dq_cmp (op_neD hr.units) so_ne (DE.bb (de_v 16 (pv 16))) (DE.bb de_int) (nomark _)))) (fun _ _ _ _ _ => (de_v 16 (pv 16))))))) (dg_n (pgn 17 sc_law.nd)))
      (dss_one (ds_if (dq_cmp (op_neD hr.units) so_ne (DE.bb (de_callO o_glances (hr.mono (by decide)) (by rfl) px_def (da_cons (de_v 3 (pv 3)) (da_cons (de_v 6 (pv 6)) (da_cons (de_v 4 (pv 4)) (da_cons (de_v 17 (pv 17)) da_nil)))))) (DE.bb (de_callO o_glances (hr.mono (by decide)) (by rfl) px_def (da_cons (de_v 3 (pv 3)) (da_cons (de_v 6 (pv 6)) (da_cons (de_tup (da_cons de_bl (da_cons de_bl da_nil))) (da_cons (de_v 17 (pv 17)) da_nil)))))) (nomark _))
        (dss_one (ds_ret (DE.bb de_bl)))
        dss_nil))))))))))))
    (dss_one (ds_ret (DE.bb de_bl)))))

end
end DL

namespace DL
open PySem PySem.Spec PyProof.Rows L2
abbrev Rw : PySem.W.OpenRow := PySem.W.OpenLaw.row PySem.Challenge.rw_signscribes_k09_whole_rows
abbrev hk : PySem.W.Hook := He.hookD 4 fa fn
def ob (s : PySem.W.SharedT) : He.AlD := He.obsDG 4 fa fn (HandSHeadRun.getT s)
theorem ob_eq (s : PySem.W.SharedT) : ob s = hk.obs s.abs := He.obsDG_eq (HandSHeadRun.getT_eq s)
def loose : List Str := (["HandError", "InvalidSign", "InvalidHand", "InvalidSigns", "InvalidRow", "InvalidStyle", "InvalidView", "SHAPES", "SIMPLE", "TURNS", "MOVES", "PLACES", "is_between", "is_letter", "is_hand", "is_entry", "do_go_together", "is_sign", "check_sign", "with_hand"] : List Str) ++ (["can_hold", "can_rest", "check_two", "unlike_in", "differences", "swapped", "turned_over", "mirrored", "sign_text", "are_signs", "check_signs", "is_row", "check_row", "check_style", "check_view", "seen_between", "seen_row", "shown_row", "shown", "glance"] : List Str) ++ (["glances_of", "glances", "_law_draw", "_law_begun", "_law_sign", "_law_written", "_law_good", "_law_near", "_law_signs", "_law_view", "_law_style", "_law_line", "_law_mirror"] : List Str)
theorem run (w : World) : HandSHeadRun.RunEq Rw (PySem.W.view Rw.prog [57]) hk ob 8000 loose w := by
  intro os
  kernel_rfl
theorem facts {P : Program} {w : World} {K : PySem.W.Frag} {h : Heap} {mg : Str → Option Value} {f : Addr} (X : K.In h) (G : h.Ns mainGlobals mg) (hfa : mg ("law" : Str) = some (.ref f)) (c : He.SaysD fa fn K) :
    ∃ fd : FuncData, (∀ (s : Shared) (v : Value), BindsTo s fd ⟨[v], []⟩ [("_law_script", v)]) ∧ ∀ base : Heap, K.In base → base.Ns mainGlobals mg → FnOk P w K mg base L2.CX0 9 f fd ["_law_script"] (spLaw K []) := by
  have C : Cn K h mg := ⟨X, G, c⟩
  obtain ⟨fd, F⟩ := C.fn 41 (x := "law") (st := topS 57) rfl
  have e := hfa.symm.trans (C.gl 41 (x := "law") rfl)
  cases e
  have b := FunD.bindsA (ps := ["_law_script"]) F fun _ _ _ _ _ _ us hl => match us, hl with | [_], _ => rfl
  refine ⟨fd, fun s v => b s [v] rfl, fun base _ _ => ?_⟩
  exact law_ok (ok_law C F)
end DL
open PySem PySem.W PySem.Calls PyProof.Rows
theorem PySem.Challenge.cw_signscribes_k09_whole_rows_holds : PySem.Challenge.rw_signscribes_k09_whole_rows.Holds := by
  w_on; o_law
  refine HandSHeadRun.head_any (r := OpenLaw.row PySem.Challenge.rw_signscribes_k09_whole_rows) (q := view (OpenLaw.row PySem.Challenge.rw_signscribes_k09_whole_rows).prog [57]) (H := DL.hk) (ob := DL.ob) (M := 8000) (loose := DL.loose) (d := HandSHeadRun.topDef (OpenLaw.row PySem.Challenge.rw_signscribes_k09_whole_rows).prog 57) (kwd := []) DL.ob_eq
    (by kernel_rfl) (fun s => by kernel_rfl) DL.run (by kernel_rfl) (by kernel_rfl) (by kernel_rfl) (by rfl) (by first | assumption | decide +kernel) (by decide +kernel) ⟨rfl, rfl, rfl, rfl, rfl, by decide +kernel⟩ ?hw ?hc
  case hw => w_witness2
  case hc =>
    refine L2.walk_ofE (l := PySem.Challenge.rw_signscribes_k09_whole_rows) (n := 63) (k := 9) (x := "_law_script") (CX := L2.CX0) rfl (by decide) (by kernel_rfl) ⟨rfl, by decide, by decide⟩ ?F (fun _ _ _ _ z => z)
    intro w mg fa h Y G hmg0
    obtain ⟨K, KX, c⟩ := Y
    have hmg : mg ("law" : PySem.Str) = some (.ref fa) := by
      have e : (HandSHeadRun.topDef (OpenLaw.row PySem.Challenge.rw_signscribes_k09_whole_rows).prog 57).name = ("law" : PySem.Str) := by kernel_rfl
      rw [← e]
      exact hmg0
    obtain ⟨fd, hb, hF⟩ := DL.facts (P := (PySem.Challenge.rw_signscribes_k09_whole_rows).prog) (w := w) KX G hmg c
    exact ⟨K, fd, DL.spLaw K [], KX, hb, fun H a ns hl _ hS => ⟨a, ns, rfl, hS, hl, fun _ z => (by cases z), fun _ => rfl⟩, hF⟩

