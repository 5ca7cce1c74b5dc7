import PyProof.Rows.All
import Wide.All
import OpenK.AllK
import Wide.FinOn
import HandS.ForMost
import HandS.Deep
import HandS.TupAny
import HandS.Star
import HandS.IsInst
import HandS.Defaults
import HandS.WordsExc
import HandS.Exc
import HandS.ExcSuper
import HandS.ExcField
import HandS.Zip
import HandS.Dict
import HandS.DictComp
import HandS.DictTup
import HandS.OwnEq
import HandS.TupSets
import HandS.Lambda
import HandS.Nested
import HandS.SortOrd
import HandS.Conv
import HandS.SetBool
import HandS.SetFor
import KE.SortData
import KE.KExcSuper
import HandS.ExcInit
import HandS.ExcIs
import KE.KExcIs
import HandS.EndBits
import KE.KNestM
import PySem.Challenge.RW_roomstair_k56_whole_webs_are_teams
set_option Elab.async false
set_option linter.all false
set_option maxRecDepth 100000
set_option maxHeartbeats 3999999
/-! Co: expressions and statements by the data that names hold. -/
namespace My
open PySem PySem.Spec PyProof.Rows L2 StX

/-! ### heaps that agree off B -/
def Ex (B : Addr → Prop) (H H' : Hp) : Prop := ∀ a o, ¬ B a → H a = some o → H' a = some o
theorem Ex.refl {B : Addr → Prop} (H : Hp) : Ex B H H := fun _ _ _ h => h
theorem Ex.trans {B : Addr → Prop} {H H1 H2 : Hp} (a : Ex B H H1) (b : Ex B H1 H2) : Ex B H H2 := fun c o n h => b c o n (a c o n h)
theorem Ex.of {B : Addr → Prop} {H H1 : Hp} (a : Same H H1) : Ex B H H1 := fun c o _ h => a c o h
theorem Ex.mono {B B' : Addr → Prop} {H H1 : Hp} (a : Ex B H H1) (h : ∀ c, B c → B' c) : Ex B' H H1 := fun c o n e => a c o (fun z => n (h c z)) e
theorem same_new {H : Hp} {p : Addr} {o : HO} (h : H p = none) : Same H (upd H p o) := fun b u e => by
  rw [upd_ne (ne_of_none e h)]
  exact e

/-! ### data -/
mutual
inductive Dq (B : Addr → Prop) (H : Hp) : V → PyData → Prop
  | non : Dq B H .non .none
  | bl (b : Bool) : Dq B H (.bl b) (.bool b)
  | int (i : Int) : Dq B H (.int i) (.int i)
  | str (x : Str) : Dq B H (.str x) (.str x)
  | lst {a : Addr} {xs : List V} {ds : List PyData} : ¬ B a → H a = some (.lst xs) → DqAll B H xs ds → Dq B H (.ref a) (.list ds)
  | tup {a : Addr} {xs : List V} {ds : List PyData} : ¬ B a → H a = some (.tup xs) → DqAll B H xs ds → Dq B H (.ref a) (.tuple ds)
inductive DqAll (B : Addr → Prop) (H : Hp) : List V → List PyData → Prop
  | nil : DqAll B H [] []
  | cons {v : V} {vs : List V} {d : PyData} {ds : List PyData} : Dq B H v d → DqAll B H vs ds → DqAll B H (v :: vs) (d :: ds)
end
section
variable {B B' : Addr → Prop} {H H' : Hp}
mutual
theorem Dq.keep (e : Ex B H H') : ∀ (d : PyData) (v : V), Dq B H v d → Dq B H' v d
  | .none, _, h => by cases h; exact .non
  | .bool _, _, h => by cases h; exact .bl _
  | .int _, _, h => by cases h; exact .int _
  | .str _, _, h => by cases h; exact .str _
  | .list ds, _, h => by
    cases h with
    | lst n q a => exact .lst n (e _ _ n q) (DqAll.keep e ds _ a)
  | .tuple ds, _, h => by
    cases h with
    | tup n q a => exact .tup n (e _ _ n q) (DqAll.keep e ds _ a)
  | .dict _, _, h => by cases h
theorem DqAll.keep (e : Ex B H H') : ∀ (ds : List PyData) (vs : List V), DqAll B H vs ds → DqAll B H' vs ds
  | [], _, h => by cases h; exact .nil
  | d :: ds, _, h => by
    cases h with
    | cons a b => exact .cons (Dq.keep e d _ a) (DqAll.keep e ds _ b)
end
mutual
theorem Dq.weak (e : ∀ a, B' a → B a) : ∀ (d : PyData) (v : V), Dq B H v d → Dq B' H v d
  | .none, _, h => by cases h; exact .non
  | .bool _, _, h => by cases h; exact .bl _
  | .int _, _, h => by cases h; exact .int _
  | .str _, _, h => by cases h; exact .str _
  | .list ds, _, h => by
    cases h with
    | lst n q a => exact .lst (fun z => n (e _ z)) q (DqAll.weak e ds _ a)
  | .tuple ds, _, h => by
    cases h with
    | tup n q a => exact .tup (fun z => n (e _ z)) q (DqAll.weak e ds _ a)
  | .dict _, _, h => by cases h
theorem DqAll.weak (e : ∀ a, B' a → B a) : ∀ (ds : List PyData) (vs : List V), DqAll B H vs ds → DqAll B' H vs ds
  | [], _, h => by cases h; exact .nil
  | d :: ds, _, h => by
    cases h with
    | cons a b => exact .cons (Dq.weak e d _ a) (DqAll.weak e ds _ b)
end
mutual
theorem Dq.dp {K : PySem.W.Frag} : ∀ (d : PyData) (v : V), Dq B H v d → Dp K H v d
  | .none, _, h => by cases h; exact .non
  | .bool _, _, h => by cases h; exact .bl _
  | .int _, _, h => by cases h; exact .int _
  | .str _, _, h => by cases h; exact .str _
  | .list ds, _, h => by
    cases h with
    | lst n q a => exact .lst (SqL.of q) (DqAll.dp ds _ a)
  | .tuple ds, _, h => by
    cases h with
    | tup n q a => exact .tup (SqT.of q) (DqAll.dp ds _ a)
  | .dict _, _, h => by cases h
theorem DqAll.dp {K : PySem.W.Frag} : ∀ (ds : List PyData) (vs : List V), DqAll B H vs ds → DpAll K H vs ds
  | [], _, h => by cases h; exact .nil
  | d :: ds, _, h => by
    cases h with
    | cons a b => exact .cons (Dq.dp d _ a) (DqAll.dp ds _ b)
end
theorem DqAll.length : ∀ {vs : List V} {ds : List PyData}, DqAll B H vs ds → vs.length = ds.length
  | _, [], h => by cases h; rfl
  | _, _ :: ds, h => by
    cases h with
    | cons a b => rw [List.length_cons, List.length_cons, DqAll.length b]
theorem DqAll.get : ∀ {vs : List V} {ds : List PyData} {i : Nat} {d : PyData}, DqAll B H vs ds → ds[i]? = some d → ∃ v, vs[i]? = some v ∧ Dq B H v d
  | _, [], _, _, _, e => by simp at e
  | _, _ :: _, 0, _, .cons a _, e => by
    simp at e
    subst e
    exact ⟨_, rfl, a⟩
  | _, _ :: ds, i + 1, d, .cons _ b, e => by
    obtain ⟨v, h1, h2⟩ := DqAll.get (i := i) (d := d) b (by simpa using e)
    exact ⟨v, by simpa using h1, h2⟩
theorem DqAll.getV : ∀ {vs : List V} {ds : List PyData} {i : Nat} {v : V}, DqAll B H vs ds → vs[i]? = some v → ∃ d, ds[i]? = some d ∧ Dq B H v d
  | _, [], _, _, h, e => by cases h; simp at e
  | _, _ :: _, 0, _, .cons a _, e => by
    simp at e
    subst e
    exact ⟨_, rfl, a⟩
  | _, _ :: ds, i + 1, v, .cons _ b, e => by
    obtain ⟨d, h1, h2⟩ := DqAll.getV (i := i) (v := v) b (by simpa using e)
    exact ⟨d, by simpa using h1, h2⟩
theorem DqAll.append : ∀ {vs ws : List V} {ds es : List PyData}, DqAll B H vs ds → DqAll B H ws es → DqAll B H (vs ++ ws) (ds ++ es)
  | _, _, [], _, h, q => by cases h; exact q
  | _, _, _ :: _, _, .cons a b, q => .cons a (DqAll.append b q)
theorem DqAll.of_get : ∀ {vs : List V} {ds : List PyData}, vs.length = ds.length → (∀ (i : Nat) v d, vs[i]? = some v → ds[i]? = some d → Dq B H v d) → DqAll B H vs ds
  | [], [], _, _ => .nil
  | [], _ :: _, h, _ => by simp at h
  | _ :: _, [], h, _ => by simp at h
  | v :: vs, d :: ds, h, q => .cons (q 0 v d rfl rfl) (DqAll.of_get (by simpa using h) fun i v' d' h1 h2 => q (i + 1) v' d' (by simpa using h1) (by simpa using h2))
theorem DqAll.ints : ∀ ns : List Int, DqAll B H (ns.map V.int) (ns.map PyData.int)
  | [] => .nil
  | n :: ns => .cons (.int n) (DqAll.ints ns)
theorem DqAll.bls : ∀ bs : List Bool, DqAll B H (bs.map V.bl) (bs.map PyData.bool)
  | [] => .nil
  | b :: bs => .cons (.bl b) (DqAll.bls bs)
theorem DqAll.ints_eq : ∀ {vs : List V} {ns : List Int}, DqAll B H vs (ns.map PyData.int) → vs = ns.map V.int
  | _, [], h => by
    have h : DqAll B H _ [] := h
    cases h
    rfl
  | _, n :: ns, h => by
    have h : DqAll B H _ (.int n :: ns.map PyData.int) := h
    cases h with
    | cons a b =>
      cases a
      rw [DqAll.ints_eq b]
      rfl
theorem DqAll.bls_eq : ∀ {vs : List V} {bs : List Bool}, DqAll B H vs (bs.map PyData.bool) → vs = bs.map V.bl
  | _, [], h => by
    have h : DqAll B H _ [] := h
    cases h
    rfl
  | _, n :: ns, h => by
    have h : DqAll B H _ (.bool n :: ns.map PyData.bool) := h
    cases h with
    | cons a b =>
      cases a
      rw [DqAll.bls_eq b]
      rfl
end

/-- the addresses of the text's two classes -/
structure Gc where
  CW : Addr
  CT : Addr
/-- what a name holds -/
inductive Da where
  | py (d : PyData)
  | web (n : Int) (ts : List PyData)
  | tms (p : Int) (ts : List PyData)
  | dK (kvs : List (Int × PyData))
  | dT (ks : List (List Key))
  | raw (v : V)
  | own (L : Addr) (vs : List V) (xs : List PyData)
def wF (n : Int) (t : Addr) : List (Str × V) := [(("points" : Str), V.int n), (("ties" : Str), V.ref t)]
def tF (p : Int) (t : Addr) (m : Int) : List (Str × V) := [(("people" : Str), V.int p), (("teams" : Str), V.ref t), (("many" : Str), V.int m)]
def DV (g : Gc) (B : Addr → Prop) (H : Hp) (v : V) : Da → Prop
  | .py d => Dq B H v d
  | .web n ts => ∃ a dx t, v = .ref a ∧ ¬ B a ∧ H a = some (.ins g.CW dx (wF n t)) ∧ Dq B H (.ref t) (.tuple ts)
  | .tms p ts => ∃ a dx t, v = .ref a ∧ ¬ B a ∧ H a = some (.ins g.CT dx (tF p t (ts.length : Nat))) ∧ Dq B H (.ref t) (.tuple ts)
  | .dK kvs => ∃ a ps, v = .ref a ∧ ¬ B a ∧ H a = some (.dK ps) ∧ Paired (fun (p : Key × V) (q : Int × PyData) => p.1 = Sum.inl q.1 ∧ Dq B H p.2 q.2) ps kvs
  | .dT ks => ∃ a ps, v = .ref a ∧ ¬ B a ∧ H a = some (.dT ps) ∧ ps.map (·.1) = ks
  | .raw u => v = u
  | .own L vs xs => v = .ref L ∧ DqAll B H vs xs
theorem DV.keep {g : Gc} {B : Addr → Prop} {H H' : Hp} {v : V} (e : Ex B H H') : ∀ {d : Da}, DV g B H v d → DV g B H' v d
  | .py d, h => Dq.keep e d v h
  | .web n ts, ⟨a, dx, t, h1, h2, h3, h4⟩ => ⟨a, dx, t, h1, h2, e _ _ h2 h3, Dq.keep e _ _ h4⟩
  | .tms n ts, ⟨a, dx, t, h1, h2, h3, h4⟩ => ⟨a, dx, t, h1, h2, e _ _ h2 h3, Dq.keep e _ _ h4⟩
  | .dK kvs, ⟨a, ps, h1, h2, h3, h4⟩ => ⟨a, ps, h1, h2, e _ _ h2 h3, L2.Paired.mapP h4 fun p q z => ⟨z.1, Dq.keep e _ _ z.2⟩⟩
  | .dT ks, ⟨a, ps, h1, h2, h3, h4⟩ => ⟨a, ps, h1, h2, e _ _ h2 h3, h4⟩
  | .raw u, h => h
  | .own L vs xs, h => ⟨h.1, DqAll.keep e _ _ h.2⟩
theorem DV.weak {g : Gc} {B B' : Addr → Prop} {H : Hp} {v : V} (e : ∀ a, B' a → B a) : ∀ {d : Da}, DV g B H v d → DV g B' H v d
  | .py d, h => Dq.weak e d v h
  | .web n ts, ⟨a, dx, t, h1, h2, h3, h4⟩ => ⟨a, dx, t, h1, fun z => h2 (e _ z), h3, Dq.weak e _ _ h4⟩
  | .tms n ts, ⟨a, dx, t, h1, h2, h3, h4⟩ => ⟨a, dx, t, h1, fun z => h2 (e _ z), h3, Dq.weak e _ _ h4⟩
  | .dK kvs, ⟨a, ps, h1, h2, h3, h4⟩ => ⟨a, ps, h1, fun z => h2 (e _ z), h3, L2.Paired.mapP h4 fun p q z => ⟨z.1, Dq.weak e _ _ z.2⟩⟩
  | .dT ks, ⟨a, ps, h1, h2, h3, h4⟩ => ⟨a, ps, h1, fun z => h2 (e _ z), h3, h4⟩
  | .raw u, h => h
  | .own L vs xs, h => ⟨h.1, DqAll.weak e _ _ h.2⟩
theorem paired_app {α β : Type} {F : α → β → Prop} : ∀ {a : List α} {b : List β} {c : List α} {d : List β}, Paired F a b → Paired F c d → Paired F (a ++ c) (b ++ d)
  | _, _, _, _, .nil, h => h
  | _, _, _, _, .cons r t, h => .cons r (paired_app t h)
abbrev DVs (g : Gc) (B : Addr → Prop) (H : Hp) : List V → List Da → Prop := Paired fun v d => DV g B H v d
theorem DVs.keep {g : Gc} {B : Addr → Prop} {H H' : Hp} (e : Ex B H H') {vs : List V} {ds : List Da} (h : DVs g B H vs ds) : DVs g B H' vs ds := L2.Paired.mapP h fun _ _ z => z.keep e
abbrev Ds := List (Option Da)
/-- the slots hold these data -/
def Sl (g : Gc) (B : Addr → Prop) (H : Hp) (σ : L2.St) (ds : Ds) : Prop := σ.length = ds.length ∧ ∀ (i : Nat) d, ds[i]? = some (some d) → ∃ v, σ[i]? = some (some v) ∧ DV g B H v d
section
variable {g : Gc} {B B' : Addr → Prop} {H H' : Hp} {σ : L2.St} {ds : Ds}
theorem Sl.keep (h : Sl g B H σ ds) (e : Ex B H H') : Sl g B H' σ ds := ⟨h.1, fun i d q => let ⟨v, a, b⟩ := h.2 i d q; ⟨v, a, b.keep e⟩⟩
theorem Sl.weak (h : Sl g B H σ ds) (e : ∀ a, B' a → B a) : Sl g B' H σ ds := ⟨h.1, fun i d q => let ⟨v, a, b⟩ := h.2 i d q; ⟨v, a, b.weak e⟩⟩
theorem Sl.set {i : Nat} {v : V} {d : Da} (h : Sl g B H σ ds) (hv : DV g B H v d) : Sl g B H (σ.set i (some v)) (ds.set i (some d)) := by
  refine ⟨by rw [List.length_set, List.length_set, h.1], fun j e q => ?_⟩
  by_cases hj : i = j
  · subst hj
    by_cases hlt : i < ds.length
    · rw [List.getElem?_set_self hlt] at q
      cases q
      exact ⟨v, by rw [List.getElem?_set_self (by rw [h.1]; exact hlt)], hv⟩
    · rw [List.getElem?_eq_none (by simpa using hlt)] at q
      cases q
  · rw [List.getElem?_set_ne hj] at q
    obtain ⟨w, a, b⟩ := h.2 j e q
    exact ⟨w, by rw [List.getElem?_set_ne hj]; exact a, b⟩
theorem Sl.forget {i : Nat} (o : Option V) (h : Sl g B H σ ds) : Sl g B H (σ.set i o) (ds.set i none) := by
  refine ⟨by rw [List.length_set, List.length_set, h.1], fun j e q => ?_⟩
  by_cases hj : i = j
  · subst hj
    by_cases hlt : i < ds.length
    · rw [List.getElem?_set_self hlt] at q
      cases q
    · rw [List.getElem?_eq_none (by simpa using hlt)] at q
      cases q
  · rw [List.getElem?_set_ne hj] at q
    obtain ⟨w, a, b⟩ := h.2 j e q
    exact ⟨w, by rw [List.getElem?_set_ne hj]; exact a, b⟩
/-- fewer facts -/
theorem Sl.less {ds' : Ds} (h : Sl g B H σ ds) (hl : ds'.length = ds.length) (q : ∀ (i : Nat) d, ds'[i]? = some (some d) → ds[i]? = some (some d)) : Sl g B H σ ds' := ⟨h.1.trans hl.symm, fun i d e => h.2 i d (q i d e)⟩
end
def wipeD (ds : Ds) : List Nat → Ds
  | [] => ds
  | v :: vs => (wipeD ds vs).set v none
theorem Sl.wipe {g : Gc} {B : Addr → Prop} {H : Hp} {σ : L2.St} {ds : Ds} (h : Sl g B H σ ds) : ∀ vs : List Nat, Sl g B H (wipe σ vs) (wipeD ds vs)
  | [] => h
  | v :: vs => (Sl.wipe h vs).forget none

/-! ### worlds: what may change, what stays true -/
structure Wd where
  B : Addr → Prop
  M : Hp → Prop
  mono : ∀ {H H'}, Same H H' → M H → M H'
  al : ∀ {H}, M H → ∀ a, B a → H a ≠ none
def Pre (g : Gc) (W : Wd) (ds : Ds) (σ : L2.St) (H : Hp) : Prop := W.M H ∧ Sl g W.B H σ ds
theorem Wd.fresh {W : Wd} {H : Hp} (h : W.M H) {p : Addr} (hp : H p = none) : ¬ W.B p := fun z => W.al h p z hp
theorem Pre.go {g : Gc} {W : Wd} {ds : Ds} {σ : L2.St} {H H' : Hp} (h : Pre g W ds σ H) (m : W.M H') (e : Ex W.B H H') : Pre g W ds σ H' := ⟨m, h.2.keep e⟩
theorem Pre.same {g : Gc} {W : Wd} {ds : Ds} {σ : L2.St} {H H' : Hp} (h : Pre g W ds σ H) (e : Same H H') : Pre g W ds σ H' := ⟨W.mono e h.1, h.2.keep (.of e)⟩
/-- what an expression leaves -/
def tE (g : Gc) (W : Wd) (ds : Ds) (d : Da) : TE := fun σ H Q => Pre g W ds σ H ∧ ∀ v H2, W.M H2 → Ex W.B H H2 → DV g W.B H2 v d → Q v H2
def tT (g : Gc) (W : Wd) (ds : Ds) (b : Bool) : TT := fun σ H Q => Pre g W ds σ H ∧ ∀ H2, W.M H2 → Ex W.B H H2 → Q b H2
def tA (g : Gc) (W : Wd) (ds : Ds) (as : List Da) : TA := fun σ H Q => Pre g W ds σ H ∧ ∀ vs H2, W.M H2 → Ex W.B H H2 → DVs g W.B H2 vs as → Q vs H2
def VE (g : Gc) (X : Cx) (W : Wd) (ds : Ds) (e : Expr) (d : Da) : Prop := PE X e (tE g W ds d)
def VT (g : Gc) (X : Cx) (W : Wd) (ds : Ds) (e : Expr) (b : Bool) : Prop := PT X e (tT g W ds b)
def VA (g : Gc) (X : Cx) (W : Wd) (ds : Ds) (es : List Expr) (as : List Da) : Prop := PA X es (tA g W ds as)
section
variable {X : Cx} {e : Expr} {t t' : TE} {u u' : TT} {ta ta' : TA} {ts ts' : TS} {es : List Expr} {p : Prop}
theorem PE.imp (h : PE X e t) (q : ∀ σ H Q, t' σ H Q → t σ H Q) : PE X e t' := ⟨fun pins s σ H Q I w => h.run pins s σ H Q I (q σ H Q w)⟩
theorem PT.imp (h : PT X e u) (q : ∀ σ H Q, u' σ H Q → u σ H Q) : PT X e u' := ⟨fun pins s σ H Q I w => h.run pins s σ H Q I (q σ H Q w)⟩
theorem PW.imp (h : PW X e u) (q : ∀ σ H Q, u' σ H Q → u σ H Q) : PW X e u' := ⟨fun wh pins s σ H Q I w => h.run wh pins s σ H Q I (q σ H Q w)⟩
theorem PA.imp (h : PA X es ta) (q : ∀ σ H Q, ta' σ H Q → ta σ H Q) : PA X es ta' := ⟨fun pos pins s σ H Q I w => h.run pos pins s σ H Q I (q σ H Q w)⟩
theorem PE.cond (h : p → PE X e t) : PE X e (fun σ H Q => p ∧ t σ H Q) := ⟨fun pins s σ H Q I w => (h w.1).run pins s σ H Q I w.2⟩
theorem PT.cond (h : p → PT X e u) : PT X e (fun σ H Q => p ∧ u σ H Q) := ⟨fun pins s σ H Q I w => (h w.1).run pins s σ H Q I w.2⟩
theorem PW.cond (h : p → PW X e u) : PW X e (fun σ H Q => p ∧ u σ H Q) := ⟨fun wh pins s σ H Q I w => (h w.1).run wh pins s σ H Q I w.2⟩
theorem PE.exs {α : Type} {f : α → TE} (h : ∀ a, PE X e (f a)) : PE X e (fun σ H Q => ∃ a, f a σ H Q) := ⟨fun pins s σ H Q I ⟨a, w⟩ => (h a).run pins s σ H Q I w⟩
theorem PT.exs {α : Type} {f : α → TT} (h : ∀ a, PT X e (f a)) : PT X e (fun σ H Q => ∃ a, f a σ H Q) := ⟨fun pins s σ H Q I ⟨a, w⟩ => (h a).run pins s σ H Q I w⟩
theorem PS.imp {st : Stmt} (h : PS X st ts) (q : ∀ D σ H, ts' D σ H → ts D σ H) : PS X st ts' := ⟨fun pins s σ H D I w => h.run pins s σ H D I (q D σ H w)⟩
theorem PSs.imp {st : List Stmt} (h : PSs X st ts) (q : ∀ D σ H, ts' D σ H → ts D σ H) : PSs X st ts' := ⟨fun pins s σ H D I w => h.run pins s σ H D I (q D σ H w)⟩
theorem PS.cond {st : Stmt} (h : p → PS X st ts) : PS X st (fun D σ H => p ∧ ts D σ H) := ⟨fun pins s σ H D I w => (h w.1).run pins s σ H D I w.2⟩
theorem PSs.cond {st : List Stmt} (h : p → PSs X st ts) : PSs X st (fun D σ H => p ∧ ts D σ H) := ⟨fun pins s σ H D I w => (h w.1).run pins s σ H D I w.2⟩
end

/-! ### expressions -/
section
variable {g : Gc} {X : Cx} {W : Wd} {ds : Ds} {e a b c : Expr} {es rest : List Expr} {d d1 d2 d3 : Da} {pos : Pos}
theorem ve_var (i : Nat) {x : Str} (hd : ds[i]? = some (some d) := by rfl) (hN : X.N[i]? = some x := by rfl) (hv : Vis X.env.scope x := by first | exact Or.inl rfl | exact Or.inr (Or.inl rfl) | exact Or.inr (Or.inr rfl))
    (hg : (x == ("__debug__" : Str)) = false := by decide) (hcd : (x == ("__classdict__" : Str)) = false := by decide) : VE g X W ds (.Name x pos) d :=
  PE.imp (pe_var hN hv hg hcd) fun σ H Q ⟨p, q⟩ => by
    obtain ⟨v, h1, h2⟩ := p.2.2 i d hd
    exact ⟨v, h1, q v H p.1 (.refl H) h2⟩
theorem ve_int {i : Int} {j} : VE g X W ds (.Constant (.int i) j pos) (.py (.int i)) := PE.imp pe_int fun _ H _ ⟨p, q⟩ => q _ H p.1 (.refl H) (.int i)
theorem ve_bl {i : Bool} {j} : VE g X W ds (.Constant (.bool i) j pos) (.py (.bool i)) := PE.imp pe_bl fun _ H _ ⟨p, q⟩ => q _ H p.1 (.refl H) (.bl i)
theorem ve_str {i : Str} {j} : VE g X W ds (.Constant (.str i) j pos) (.py (.str i)) := PE.imp pe_str fun _ H _ ⟨p, q⟩ => q _ H p.1 (.refl H) (.str i)
theorem ve_non {j} : VE g X W ds (.Constant .none j pos) (.py .none) := PE.imp pe_non fun _ H _ ⟨p, q⟩ => q _ H p.1 (.refl H) .non
theorem ve_glob {x : Str} {i : Int} {u : Tok} (hg : Gl X x) (hm : X.mg x = some (.int i u)) (hd : (x == ("__debug__" : Str)) = false := by decide) : VE g X W ds (.Name x pos) (.py (.int i)) :=
  PE.imp (pe_glob hg hm (v := .int i) ⟨u, rfl⟩ hd) fun _ H _ ⟨p, q⟩ => q _ H p.1 (.refl H) (.int i)
theorem ve_is (h : VE g X W ds e d1) (q : d1 = d2) : VE g X W ds e d2 := q ▸ h
theorem vt_is {b1 b2 : Bool} (h : VT g X W ds e b1) (q : b1 = b2) : VT g X W ds e b2 := q ▸ h

/-- a two-place operation on values, by data -/
def OpD (g : Gc) (r : R2) (d1 d2 d3 : Da) : Prop := ∀ (B : Addr → Prop) (H : Hp) (x y : V) (Q : VK), (∀ a, B a → H a ≠ none) → DV g B H x d1 → DV g B H y d2 → (∀ v H2, Same H H2 → DV g B H2 v d3 → Q v H2) → r x y H Q
theorem opd_run {r : R2} (h : OpD g r d1 d2 d3) {σ : L2.St} {H : Hp} {Q : VK} {x y : V} {H1 H2 : Hp} (p : Pre g W ds σ H) (m1 : W.M H1) (e1 : Ex W.B H H1) (v1 : DV g W.B H1 x d1) (m2 : W.M H2) (e2 : Ex W.B H1 H2) (v2 : DV g W.B H2 y d2)
    (q : ∀ v H2, W.M H2 → Ex W.B H H2 → DV g W.B H2 v d3 → Q v H2) : r x y H2 Q :=
  h W.B H2 x y Q (W.al m2) (v1.keep e2) v2 fun v H3 s3 v3 => q v H3 (W.mono s3 m2) ((e1.trans e2).trans (.of s3)) v3
theorem ve_op {op : Operator} {r : R2} (ho : OpR X (binaryOp op) r) (h : OpD g r d1 d2 d3) (ha : VE g X W ds a d1) (hb : VE g X W ds b d2) : VE g X W ds (.BinOp a op b pos) d3 :=
  PE.imp (pe_op ho ha hb) fun _ _ _ ⟨p, q⟩ => ⟨p, fun _ _ m1 e1 v1 => ⟨p.go m1 e1, fun _ _ m2 e2 v2 => opd_run h p m1 e1 v1 m2 e2 v2 q⟩⟩
theorem ve_cmp {op : CmpOp} {r : R2} (ho : OpR X (compareOp op) r) (h : OpD g r d1 d2 d3) (ha : VE g X W ds a d1) (hb : VE g X W ds b d2) (hm : behindInMarks op b = false := by first | exact nomark _ | rfl | with_unfolding_all rfl) : VE g X W ds (.Compare a [op] [b] pos) d3 :=
  PE.imp (pe_cmpR ho ha hb hm) fun _ _ _ ⟨p, q⟩ => ⟨p, fun _ _ m1 e1 v1 => ⟨p.go m1 e1, fun _ _ m2 e2 v2 => opd_run h p m1 e1 v1 m2 e2 v2 q⟩⟩
theorem vt_cmp {op : CmpOp} {r : R2} {k : Bool} (ho : OpR X (compareOp op) r) (h : OpD g r d1 d2 (.py (.bool k))) (ha : VE g X W ds a d1) (hb : VE g X W ds b d2) (hm : behindInMarks op b = false := by first | exact nomark _ | rfl | with_unfolding_all rfl) : VT g X W ds (.Compare a [op] [b] pos) k :=
  PT.imp (pt_cmpR ho ha hb hm) fun _ _ Q ⟨p, q⟩ => ⟨p, fun _ _ m1 e1 v1 => ⟨p.go m1 e1, fun _ _ m2 e2 v2 => opd_run (Q := fun x H' => ∃ k, x = .bl k ∧ Q k H') h p m1 e1 v1 m2 e2 v2 fun v H3 m3 e3 v3 => by
    cases v3
    exact ⟨k, rfl, q H3 m3 e3⟩⟩⟩
/-- an expression whose value is a bool, as a test -/
theorem vt_val {k : Bool} (h : VE g X W ds e (.py (.bool k))) (he : ∀ whole, isTrue e X.env whole = (do let v ← whole; standAt e.pos; holding [v] (truthy v)) := by intro _; rfl) : VT g X W ds e k :=
  PT.imp (pt_val h he) fun _ _ _ ⟨p, q⟩ => ⟨p, fun _ H2 m e v => by
    cases v
    exact ⟨k, rfl, q H2 m e⟩⟩
theorem vt_not {k : Bool} (h : VT g X W ds e k) : VT g X W ds (.UnaryOp .Not e pos) (!k) := PT.imp (pt_not h) fun _ _ _ ⟨p, q⟩ => ⟨p, q⟩
theorem ve_not {k : Bool} (h : VE g X W ds e (.py (.bool k))) : VE g X W ds (.UnaryOp .Not e pos) (.py (.bool (!k))) :=
  PE.imp (pe_not h) fun _ _ _ ⟨p, q⟩ => ⟨p, fun _ H2 m e v => by
    cases v
    exact ⟨k, rfl, q _ H2 m e (.bl _)⟩⟩
/-- and, or as tests -/
def VW (g : Gc) (X : Cx) (W : Wd) (ds : Ds) (e : Expr) (b : Bool) : Prop := PW X e (tT g W ds b)
theorem VW.t {k : Bool} (h : VW g X W ds e k) : VT g X W ds e k := PW.pt h
theorem vw_and1 {k : Bool} (h : VT g X W ds a k) : VW g X W ds (.BoolOp .And [a] pos) k := pw_and1 h
theorem vw_or1 {k : Bool} (h : VT g X W ds a k) : VW g X W ds (.BoolOp .Or [a] pos) k := pw_or1 h
theorem vw_and {k l : Bool} (ha : VT g X W ds a k) (hb : k = true → VW g X W ds (.BoolOp .And (b :: rest) pos) l) : VW g X W ds (.BoolOp .And (a :: b :: rest) pos) (k && l) :=
  PW.imp (pw_and ha (PW.cond (p := k = true) hb)) fun _ _ Q ⟨p, q⟩ => ⟨p, fun H2 m e => by
    cases k with
    | true =>
      refine iteT ⟨rfl, p.go m e, fun H3 m3 e3 => ?_⟩
      exact q H3 m3 (e.trans e3)
    | false => exact iteF (q H2 m e)⟩
theorem vw_or {k l : Bool} (ha : VT g X W ds a k) (hb : k = false → VW g X W ds (.BoolOp .Or (b :: rest) pos) l) : VW g X W ds (.BoolOp .Or (a :: b :: rest) pos) (k || l) :=
  PW.imp (pw_or ha (PW.cond (p := k = false) hb)) fun _ _ Q ⟨p, q⟩ => ⟨p, fun H2 m e => by
    cases k with
    | true => exact iteT (q H2 m e)
    | false =>
      refine iteF ⟨rfl, p.go m e, fun H3 m3 e3 => ?_⟩
      exact q H3 m3 (e.trans e3)⟩
/-- and, or as values -/
theorem ve_one {op} (h : VE g X W ds a d) : VE g X W ds (.BoolOp op [a] pos) d := pe_one h
theorem ve_and {k l : Bool} (ha : VE g X W ds a (.py (.bool k))) (hb : k = true → VE g X W ds (.BoolOp .And (b :: rest) pos) (.py (.bool l))) : VE g X W ds (.BoolOp .And (a :: b :: rest) pos) (.py (.bool (k && l))) :=
  PE.imp (pe_and ha (PE.cond (p := k = true) hb)) fun _ _ Q ⟨p, q⟩ => ⟨p, fun _ H2 m e v => by
    cases v
    refine ⟨k, rfl, ?_⟩
    cases k with
    | true => exact iteT ⟨rfl, p.go m e, fun v3 H3 m3 e3 v3 => q _ H3 m3 (e.trans e3) v3⟩
    | false => exact iteF (q _ H2 m e (.bl _))⟩
theorem ve_or {k l : Bool} (ha : VE g X W ds a (.py (.bool k))) (hb : k = false → VE g X W ds (.BoolOp .Or (b :: rest) pos) (.py (.bool l))) : VE g X W ds (.BoolOp .Or (a :: b :: rest) pos) (.py (.bool (k || l))) :=
  PE.imp (pe_or ha (PE.cond (p := k = false) hb)) fun _ _ Q ⟨p, q⟩ => ⟨p, fun _ H2 m e v => by
    cases v
    refine ⟨k, rfl, ?_⟩
    cases k with
    | true => exact iteT (q _ H2 m e (.bl _))
    | false => exact iteF ⟨rfl, p.go m e, fun v3 H3 m3 e3 v3 => q _ H3 m3 (e.trans e3) v3⟩⟩
theorem ve_if {k : Bool} (hc : VT g X W ds c k) (ha : k = true → VE g X W ds a d) (hb : k = false → VE g X W ds b d) : VE g X W ds (.IfExp c a b pos) d :=
  PE.imp (pe_ifExp hc (PE.cond (p := k = true) ha) (PE.cond (p := k = false) hb)) fun _ _ Q ⟨p, q⟩ => ⟨p, fun H2 m e => by
    cases k with
    | true => exact iteT ⟨rfl, p.go m e, fun v3 H3 m3 e3 v3 => q _ H3 m3 (e.trans e3) v3⟩
    | false => exact iteF ⟨rfl, p.go m e, fun v3 H3 m3 e3 v3 => q _ H3 m3 (e.trans e3) v3⟩⟩
/-- x is None -/
theorem ve_isN {k : Bool} {j p2} (h : VE g X W ds a d) (hk : ∀ B H v, DV g B H v d → decide (v = V.non) = k) : VE g X W ds (.Compare a [.Is] [.Constant .none j p2] pos) (.py (.bool k)) :=
  PE.imp (pe_cmp (pc_isN h) rfl) fun _ _ Q ⟨p, q⟩ => ⟨p, fun v H2 m e dv => by
    show Q (.bl (decide (v = V.non))) H2
    rw [hk _ _ _ dv]
    exact q _ H2 m e (.bl _)⟩
theorem vt_isN {k : Bool} {j p2} (h : VE g X W ds a d) (hk : ∀ B H v, DV g B H v d → decide (v = V.non) = k) : VT g X W ds (.Compare a [.Is] [.Constant .none j p2] pos) k :=
  PT.imp (pt_cmp (pc_isN h) rfl) fun _ _ Q ⟨p, q⟩ => ⟨p, fun v H2 m e dv => by
    show ∃ c, V.bl (decide (v = V.non)) = .bl c ∧ Q c H2
    rw [hk _ _ _ dv]
    exact ⟨k, rfl, q H2 m e⟩⟩

/-! argument lists, displays -/
theorem va_nil : VA g X W ds [] [] := PA.imp pa_nil fun _ H _ ⟨p, q⟩ => q [] H p.1 (.refl H) .nil
theorem va_cons {as : List Da} (ha : VE g X W ds e d) (hr : VA g X W ds es as) (hs : starEach (e :: es) X.env = (false, eval e X.env) :: starEach es X.env := by rfl) : VA g X W ds (e :: es) (d :: as) :=
  PA.imp (pa_cons ha hr hs) fun _ _ _ ⟨p, q⟩ => ⟨p, fun _ H1 m1 e1 v1 => ⟨p.go m1 e1, fun _ H2 m2 e2 v2 => q _ H2 m2 (e1.trans e2) (.cons (v1.keep e2) v2)⟩⟩
theorem dqs_of {B : Addr → Prop} {H : Hp} : ∀ {vs : List V} {xs : List PyData}, DVs g B H vs (xs.map Da.py) → DqAll B H vs xs
  | _, [], h => by
    have h : DVs g B H _ [] := h
    cases h
    exact .nil
  | _, x :: xs, h => by
    have h : DVs g B H _ (Da.py x :: xs.map Da.py) := h
    cases h with
    | cons a b => exact .cons a (dqs_of b)
theorem dvs_of {B : Addr → Prop} {H : Hp} : ∀ {vs : List V} {xs : List PyData}, DqAll B H vs xs → DVs g B H vs (xs.map Da.py)
  | _, [], h => by
    cases h
    exact .nil
  | _, x :: xs, h => by
    cases h with
    | cons a b => exact .cons a (dvs_of b)
theorem va_star {p : Pos} {xs : List PyData} {as : List Da} (he : VE g X W ds e (.py (.tuple xs))) (hr : VA g X W ds es as) (hs : starEach (.Starred e p :: es) X.env = (true, eval e X.env) :: starEach es X.env := by rfl) : VA g X W ds (.Starred e p :: es) (xs.map Da.py ++ as) :=
  PA.imp (pa_star he hr hs) fun _ _ _ ⟨p, q⟩ => ⟨p, fun _ H1 m1 e1 v1 => by
    cases v1 with
    | tup n hx a => exact ⟨_, _, rfl, .inl (SqT.of hx), p.go m1 e1, fun _ H2 m2 e2 v2 => q _ H2 m2 (e1.trans e2) (paired_app (dvs_of (DqAll.keep e2 _ _ a)) v2)⟩⟩
theorem va_starL {p : Pos} {xs : List PyData} {as : List Da} (he : VE g X W ds e (.py (.list xs))) (hr : VA g X W ds es as) (hs : starEach (.Starred e p :: es) X.env = (true, eval e X.env) :: starEach es X.env := by rfl) : VA g X W ds (.Starred e p :: es) (xs.map Da.py ++ as) :=
  PA.imp (pa_star he hr hs) fun _ _ _ ⟨p, q⟩ => ⟨p, fun _ H1 m1 e1 v1 => by
    cases v1 with
    | lst n hx a => exact ⟨_, _, rfl, .inr (SqL.of hx), p.go m1 e1, fun _ H2 m2 e2 v2 => q _ H2 m2 (e1.trans e2) (paired_app (dvs_of (DqAll.keep e2 _ _ a)) v2)⟩⟩
theorem va_is {as bs : List Da} (h : VA g X W ds es as) (q : as = bs) : VA g X W ds es bs := q ▸ h
theorem ve_tup {k} {xs : List PyData} (h : VA g X W ds es (xs.map Da.py)) (hl : xs.length ≤ sizeLine := by first | (show (_ : Nat) ≤ sizeLine; decide) | assumption) : VE g X W ds (.Tuple es k pos) (.py (.tuple xs)) :=
  PE.imp (pe_tup h) fun _ _ _ ⟨p, q⟩ => ⟨p, fun vs H2 m e v => by
    have a := dqs_of v
    refine ⟨by rw [a.length]; exact hl, fun r hr => ?_⟩
    have s := same_new (o := .tup vs) hr
    exact q _ _ (W.mono s m) (e.trans (.of s)) (.tup (Wd.fresh m hr) upd_same (DqAll.keep (.of s) _ _ a))⟩
theorem ve_lst {xs : List PyData} (h : VA g X W ds es (xs.map Da.py)) (hl : xs.length ≤ sizeLine := by first | (show (_ : Nat) ≤ sizeLine; decide) | assumption) : VE g X W ds (.List es pos) (.py (.list xs)) :=
  PE.imp (pe_lst h) fun _ _ _ ⟨p, q⟩ => ⟨p, fun vs H2 m e v => by
    have a := dqs_of v
    refine ⟨by rw [a.length]; exact hl, fun r hr => ?_⟩
    have s := same_new (o := .lst vs) hr
    exact q _ _ (W.mono s m) (e.trans (.of s)) (.lst (Wd.fresh m hr) upd_same (DqAll.keep (.of s) _ _ a))⟩
end
end My
/-! Co2: operators and built-ins by data; what is walked; comprehensions. -/
namespace My
open PySem PySem.Spec PyProof.Rows L2 StX

theorem nn {H : Hp} {a : Addr} {o : HO} (q : H a = some o) (z : H a = none) : False := by
  rw [q] at z
  cases z
theorem nn2 {H : Hp} {a : Addr} {o : HO} (q : H a = some o) : H a ≠ none := fun z => nn q z

/-! ### worlds with own objects; worlds that look at a part of the heap -/
def Wd.own (W : Wd) (L : List Addr) (m : Addr → HO) : Wd where
  B := fun a => W.B a ∨ a ∈ L
  M := fun H => W.M H ∧ ∀ a ∈ L, H a = some (m a)
  mono := fun s h => ⟨W.mono s h.1, fun a z => s a _ (h.2 a z)⟩
  al := fun {H} h a z => z.elim (W.al h.1 a) fun z => nn2 (h.2 a z)
/-- one list of one's own -/
abbrev Wd.o1 (W : Wd) (D : Addr) (o : HO) : Wd := W.own [D] fun _ => o
theorem o1_mk {W : Wd} {D : Addr} {o : HO} {H : Hp} (m : W.M H) (h : H D = some o) : (W.o1 D o).M H := ⟨m, fun a z => by rw [List.mem_singleton.mp z]; exact h⟩
theorem o1_at {W : Wd} {D : Addr} {o : HO} {H : Hp} (m : (W.o1 D o).M H) : H D = some o := m.2 D (List.mem_singleton.mpr rfl)
/-- all that was known at H1 stands, but what may change -/
def Wd.rel (W : Wd) (H1 : Hp) : Wd where
  B := W.B
  M := fun H => W.M H ∧ Ex W.B H1 H
  mono := fun s h => ⟨W.mono s h.1, h.2.trans (.of s)⟩
  al := fun h => W.al h.1
def Wd.Loc (W : Wd) : Prop := ∃ F : Addr → Prop, (∀ H, W.M H → ∀ a, F a → H a ≠ none) ∧ ∀ H H', (∀ a, F a → H' a = H a) → W.M H → W.M H'
/-- the world of a def's entry: all that is tracked stays -/
def Wd.ent (B : Addr → Prop) (H0 : Hp) (h : ∀ a, B a → H0 a ≠ none) : Wd where
  B := B
  M := fun H => Same H0 H
  mono := fun s q => q.trans s
  al := fun {H} q a z => by
    cases e : H0 a with
    | none => exact (h a z e).elim
    | some o => exact nn2 (q a o e)
theorem loc_ent {B : Addr → Prop} {H0 : Hp} {h : ∀ a, B a → H0 a ≠ none} : (Wd.ent B H0 h).Loc :=
  ⟨fun a => H0 a ≠ none, ⟨fun H q a z => by
    cases e : H0 a with
    | none => exact (z e).elim
    | some o => exact nn2 (q a o e), fun H H' k q a o e => by
    rw [k a (nn2 e)]
    exact q a o e⟩⟩
theorem Wd.Loc.own {W : Wd} {D : List Addr} {m : Addr → HO} (h : W.Loc) : (W.own D m).Loc := by
  obtain ⟨F, h1, h2⟩ := h
  refine ⟨fun a => F a ∨ a ∈ D, fun H q a z => z.elim (h1 H q.1 a) fun z => nn2 (q.2 a z), fun H H' k q => ⟨h2 H H' (fun a z => k a (.inl z)) q.1, fun a z => ?_⟩⟩
  rw [k a (.inr z)]
  exact q.2 a z
theorem Wd.Loc.rel {W : Wd} {H1 : Hp} (h : W.Loc) : (W.rel H1).Loc := by
  obtain ⟨F, h1, h2⟩ := h
  refine ⟨fun a => F a ∨ (¬ W.B a ∧ H1 a ≠ none), fun H q a z => z.elim (h1 H q.1 a) fun z => ?_, fun H H' k q => ⟨h2 H H' (fun a z => k a (.inl z)) q.1, fun a o nb e => ?_⟩⟩
  · cases e : H1 a with
    | none => exact (z.2 e).elim
    | some o => exact nn2 (q.2 a o z.1 e)
  · rw [k a (.inr ⟨nb, nn2 e⟩)]
    exact q.2 a o nb e
/-- it may be written -/
def Wd.Off (W : Wd) (D : Addr) : Prop := ∀ H o, W.M H → W.M (upd H D o)
/-- D is new: it may be written -/
theorem Wd.Loc.off {W : Wd} (L : W.Loc) {H1 : Hp} {D : Addr} (m1 : W.M H1) (hD : H1 D = none) : W.Off D := fun H o m => by
  obtain ⟨F, h1, h2⟩ := L
  refine h2 H _ (fun a z => upd_ne fun q => ?_) m
  subst q
  exact h1 H1 m1 a z hD
mutual
theorem Dq.ban {B B' : Addr → Prop} {H : Hp} (e : ∀ a, B' a → B a ∨ H a = none) : ∀ (d : PyData) (v : V), Dq B H v d → Dq B' H v d
  | .none, _, h => by cases h; exact .non
  | .bool _, _, h => by cases h; exact .bl _
  | .int _, _, h => by cases h; exact .int _
  | .str _, _, h => by cases h; exact .str _
  | .list ds, _, h => by
    cases h with
    | lst n q a => exact .lst (fun z => (e _ z).elim n (nn q)) q (DqAll.ban e ds _ a)
  | .tuple ds, _, h => by
    cases h with
    | tup n q a => exact .tup (fun z => (e _ z).elim n (nn q)) q (DqAll.ban e ds _ a)
  | .dict _, _, h => by cases h
theorem DqAll.ban {B B' : Addr → Prop} {H : Hp} (e : ∀ a, B' a → B a ∨ H a = none) : ∀ (ds : List PyData) (vs : List V), DqAll B H vs ds → DqAll B' H vs ds
  | [], _, h => by cases h; exact .nil
  | d :: ds, _, h => by
    cases h with
    | cons a b => exact .cons (Dq.ban e d _ a) (DqAll.ban e ds _ b)
end
theorem DV.ban {g : Gc} {B B' : Addr → Prop} {H : Hp} {v : V} (e : ∀ a, B' a → B a ∨ H a = none) : ∀ {d : Da}, DV g B H v d → DV g B' H v d
  | .py d, h => Dq.ban e d v h
  | .web n ts, ⟨a, dx, t, h1, h2, h3, h4⟩ => ⟨a, dx, t, h1, fun z => (e _ z).elim h2 (nn h3), h3, Dq.ban e _ _ h4⟩
  | .tms n ts, ⟨a, dx, t, h1, h2, h3, h4⟩ => ⟨a, dx, t, h1, fun z => (e _ z).elim h2 (nn h3), h3, Dq.ban e _ _ h4⟩
  | .dK kvs, ⟨a, ps, h1, h2, h3, h4⟩ => ⟨a, ps, h1, fun z => (e _ z).elim h2 (nn h3), h3, L2.Paired.mapP h4 fun p q z => ⟨z.1, Dq.ban e _ _ z.2⟩⟩
  | .dT ks, ⟨a, ps, h1, h2, h3, h4⟩ => ⟨a, ps, h1, fun z => (e _ z).elim h2 (nn h3), h3, h4⟩
  | .raw u, h => h
  | .own L vs xs, h => ⟨h.1, DqAll.ban e _ _ h.2⟩
theorem Sl.ban {g : Gc} {B B' : Addr → Prop} {H : Hp} {σ : L2.St} {ds : Ds} (h : Sl g B H σ ds) (e : ∀ a, B' a → B a ∨ H a = none) : Sl g B' H σ ds := ⟨h.1, fun i d q => let ⟨v, a, b⟩ := h.2 i d q; ⟨v, a, b.ban e⟩⟩

/-! ### several outcomes -/
def tN (g : Gc) (W : Wd) (ds : Ds) (S : Da → Prop) : TE := fun σ H Q => Pre g W ds σ H ∧ ∀ v H2 d, S d → W.M H2 → Ex W.B H H2 → DV g W.B H2 v d → Q v H2
def tTN (g : Gc) (W : Wd) (ds : Ds) (S : Bool → Prop) : TT := fun σ H Q => Pre g W ds σ H ∧ ∀ b H2, S b → W.M H2 → Ex W.B H H2 → Q b H2
def VN (g : Gc) (X : Cx) (W : Wd) (ds : Ds) (e : Expr) (S : Da → Prop) : Prop := PE X e (tN g W ds S)
def VTN (g : Gc) (X : Cx) (W : Wd) (ds : Ds) (e : Expr) (S : Bool → Prop) : Prop := PT X e (tTN g W ds S)
/-- a clause's tests -/
def VTs (g : Gc) (X : Cx) (W : Wd) (ds : Ds) (ifs : List Expr) (S : Bool → Prop) : Prop := PTs X ifs (tTN g W ds S)
section
variable {g : Gc} {X : Cx} {W : Wd} {ds : Ds} {e a b c : Expr} {es rest : List Expr} {d d1 d2 d3 : Da} {pos : Pos} {S S' : Da → Prop}
theorem vn_of (h : VE g X W ds e d) : VN g X W ds e (fun x => x = d) := PE.imp h fun _ _ _ ⟨p, q⟩ => ⟨p, fun v H2 m e dv => q v H2 d rfl m e dv⟩
theorem ve_of (h : VN g X W ds e (fun x => x = d)) : VE g X W ds e d := PE.imp h fun _ _ _ ⟨p, q⟩ => ⟨p, fun v H2 d' z m e dv => by
  subst z
  exact q v H2 m e dv⟩
theorem vn_imp (h : VN g X W ds e S) (i : ∀ d, S d → S' d) : VN g X W ds e S' := PE.imp h fun _ _ _ ⟨p, q⟩ => ⟨p, fun v H2 d z m e dv => q v H2 d (i d z) m e dv⟩
theorem vtn_of {k : Bool} (h : VT g X W ds e k) : VTN g X W ds e (fun x => x = k) := PT.imp h fun _ _ _ ⟨p, q⟩ => ⟨p, fun H2 m e => q k H2 rfl m e⟩
theorem vt_of {k : Bool} (h : VTN g X W ds e (fun x => x = k)) : VT g X W ds e k := PT.imp h fun _ _ _ ⟨p, q⟩ => ⟨p, fun b H2 z m e => by
  subst z
  exact q H2 m e⟩
theorem PTs.imp {ifs : List Expr} {u u' : TT} (h : PTs X ifs u) (q : ∀ σ H Q, u' σ H Q → u σ H Q) : PTs X ifs u' := ⟨fun pins s σ H Q I w => h.run pins s σ H Q I (q σ H Q w)⟩
theorem PTs.exs {ifs : List Expr} {α : Type} {f : α → TT} (h : ∀ a, PTs X ifs (f a)) : PTs X ifs (fun σ H Q => ∃ a, f a σ H Q) := ⟨fun pins s σ H Q I ⟨a, w⟩ => (h a).run pins s σ H Q I w⟩
theorem PTs.cond {ifs : List Expr} {u : TT} {p : Prop} (h : p → PTs X ifs u) : PTs X ifs (fun σ H Q => p ∧ u σ H Q) := ⟨fun pins s σ H Q I w => (h w.1).run pins s σ H Q I w.2⟩
theorem vts_nil : VTs g X W ds [] (fun x => x = true) := PTs.imp pts_nil fun _ H _ ⟨p, q⟩ => q true H rfl p.1 (.refl H)
theorem vts_one {k : Bool} (h : VT g X W ds e k) : VTs g X W ds [e] (fun x => x = k) := PTs.imp (pts_one h) fun _ _ _ ⟨p, q⟩ => ⟨p, fun H2 m e => q k H2 rfl m e⟩
theorem vts_any {S : Bool → Prop} (h : VTN g X W ds e S) : VTs g X W ds [e] S := pts_one h
end

/-! ### what is walked -/
structure SrcOk (g : Gc) (B : Addr → Prop) (gt : TG) (vs : List Nat) (n : Nat) (f : Nat → Ds → Ds) (J : It) (Kp : Hp → Prop) : Prop where
  keep : ∀ H H', Ex B H H' → Kp H → Kp H'
  go : ∀ i H, i < n → Kp H → J.go i H
  stop : ∀ H, Kp H → J.stop n H
  turn : ∀ i H x H', i < n → Kp H → J.yld i H x H' → Same H H' ∧ ∀ σ ds' Q, Sl g B H' σ ds' → (∀ σ2, Sl g B H' σ2 (f i ds') → wipe σ2 vs = wipe σ vs → Q σ2 H') → gt x σ H' Q
def tI (g : Gc) (W : Wd) (ds : Ds) (gt : TG) (vs : List Nat) (n : Nat) (f : Nat → Ds → Ds) : TI := fun σ H R => Pre g W ds σ H ∧ ∀ J H1, W.M H1 → Ex W.B H H1 →
  (∀ B' : Addr → Prop, (∀ a, B' a → W.B a ∨ H1 a = none) → ∃ Kp, SrcOk g B' gt vs n f J Kp ∧ Kp H1) → R J H1
def VI (g : Gc) (X : Cx) (W : Wd) (ds : Ds) (tg iter : Expr) (gt : TG) (vs : List Nat) (n : Nat) (f : Nat → Ds → Ds) : Prop := PI X tg iter (tI g W ds gt vs n f)
section
variable {g : Gc} {X : Cx} {W : Wd} {ds : Ds} {e a b tg iter : Expr} {pos p : Pos}
theorem PI.imp {w w' : TI} (h : PI X tg iter w) (q : ∀ σ H R, w' σ H R → w σ H R) : PI X tg iter w' := ⟨fun pins s σ H R I z => h.run pins s σ H R I (q σ H R z)⟩
theorem wipe1 (σ : L2.St) (j : Nat) (v : V) : wipe (σ.set j (some v)) [j] = wipe σ [j] := by
  show (σ.set j (some v)).set j none = σ.set j none
  rw [List.set_set]
theorem wipe2 (σ : L2.St) {j k : Nat} (h : j ≠ k) (v w : V) : wipe ((σ.set j (some v)).set k (some w)) [j, k] = wipe σ [j, k] := by
  show (((σ.set j (some v)).set k (some w)).set k none).set j none = (σ.set k none).set j none
  rw [List.set_set, List.set_comm _ _ h, List.set_set]
theorem src_list {B : Addr → Prop} {K : PySem.W.Frag} {A : Addr} {j : Nat} {vs : List V} {xs : List PyData} (hn : ¬ B A) :
    SrcOk g B (gName j) [j] xs.length (fun i ds' => ds'.set j (some (.py (xs.getD i .none)))) (Itl K A) (fun H => H A = some (.lst vs) ∧ DqAll B H vs xs) where
  keep := fun H H' e k => ⟨e _ _ hn k.1, DqAll.keep e _ _ k.2⟩
  go := fun i H hi k => ⟨vs, vs[i]'(by rw [k.2.length]; exact hi), SqL.of k.1, List.getElem?_eq_getElem _⟩
  stop := fun H k => ⟨vs, SqL.of k.1, by rw [k.2.length]; exact Nat.le_refl _⟩
  turn := fun i H x H' hi k y => by
    obtain ⟨rfl, y⟩ := y
    refine ⟨fun _ _ e => e, fun σ ds' Q s q => ?_⟩
    have hx := y vs (SqL.of k.1)
    obtain ⟨d, hd, dv⟩ := k.2.getV hx
    refine q _ ?_ (wipe1 σ j x)
    have e : xs.getD i .none = d := by rw [List.getD_eq_getElem?_getD, hd]; rfl
    rw [e]
    exact s.set (d := .py d) dv
theorem src_tup {B : Addr → Prop} {K : PySem.W.Frag} {A : Addr} {j : Nat} {vs : List V} {xs : List PyData} (hn : ¬ B A) :
    SrcOk g B (gName j) [j] xs.length (fun i ds' => ds'.set j (some (.py (xs.getD i .none)))) (Itt K A) (fun H => H A = some (.tup vs) ∧ DqAll B H vs xs) where
  keep := fun H H' e k => ⟨e _ _ hn k.1, DqAll.keep e _ _ k.2⟩
  go := fun i H hi k => ⟨vs, vs[i]'(by rw [k.2.length]; exact hi), SqT.of k.1, List.getElem?_eq_getElem _⟩
  stop := fun H k => ⟨vs, SqT.of k.1, by rw [k.2.length]; exact Nat.le_refl _⟩
  turn := fun i H x H' hi k y => by
    obtain ⟨rfl, y⟩ := y
    refine ⟨fun _ _ e => e, fun σ ds' Q s q => ?_⟩
    have hx := y vs (SqT.of k.1)
    obtain ⟨d, hd, dv⟩ := k.2.getV hx
    refine q _ ?_ (wipe1 σ j x)
    have e : xs.getD i .none = d := by rw [List.getD_eq_getElem?_getD, hd]; rfl
    rw [e]
    exact s.set (d := .py d) dv
theorem src_rng {B : Addr → Prop} {lo : Int} {n j : Nat} : SrcOk g B (gName j) [j] n (fun i ds' => ds'.set j (some (.py (.int (lo + (i : Nat)))))) (Itr lo n) (fun _ => True) where
  keep := fun _ _ _ k => k
  go := fun i H hi _ => hi
  stop := fun H _ => Nat.le_refl n
  turn := fun i H x H' hi k y => by
    obtain ⟨rfl, rfl⟩ := y
    exact ⟨fun _ _ e => e, fun σ ds' Q s q => q _ (s.set (d := .py (.int _)) (.int _)) (wipe1 σ j _)⟩
/-- a list of pairs, to two names -/
def pr2 (p : PyData × PyData) : PyData := .tuple [p.1, p.2]
theorem src_list2 {B : Addr → Prop} {K K' : PySem.W.Frag} {A : Addr} {j k : Nat} {vs : List V} {xs : List (PyData × PyData)} (hjk : j ≠ k) (hn : ¬ B A) :
    SrcOk g B (gTup K' 2 (gCons (gName j) (gCons (gName k) gNil))) [j, k] xs.length (fun i ds' => (ds'.set j (some (.py (xs.getD i (.none, .none)).1))).set k (some (.py (xs.getD i (.none, .none)).2))) (Itl K A) (fun H => H A = some (.lst vs) ∧ DqAll B H vs (xs.map pr2)) where
  keep := fun H H' e k => ⟨e _ _ hn k.1, DqAll.keep e _ _ k.2⟩
  go := fun i H hi k => ⟨vs, vs[i]'(by rw [k.2.length, List.length_map]; exact hi), SqL.of k.1, List.getElem?_eq_getElem _⟩
  stop := fun H k => ⟨vs, SqL.of k.1, by rw [k.2.length, List.length_map]; exact Nat.le_refl _⟩
  turn := fun i H x H' hi kp y => by
    obtain ⟨rfl, y⟩ := y
    refine ⟨fun _ _ e => e, fun σ ds' Q s q => ?_⟩
    have hx := y vs (SqL.of kp.1)
    obtain ⟨d, hd, dv⟩ := kp.2.getV hx
    have hp : xs[i]? = some xs[i] := List.getElem?_eq_getElem hi
    rw [List.getElem?_map, hp] at hd
    have hd : some (pr2 xs[i]) = some d := hd
    cases hd
    have e : xs.getD i (.none, .none) = xs[i] := by rw [List.getD_eq_getElem?_getD, hp]; rfl
    rw [e] at q
    cases dv with
    | tup n h a =>
      cases a with
      | cons a1 a =>
        cases a with
        | cons a2 a =>
          cases a
          refine ⟨_, _, rfl, SqT.of h, rfl, _, _, rfl, _, _, rfl, rfl, ?_⟩
          exact q _ ((s.set (d := .py _) a1).set (d := .py _) a2) (wipe2 σ hjk _ _)
/-- enumerate of a list, to two names -/
theorem src_enum {B : Addr → Prop} {K K' : PySem.W.Frag} {A : Addr} {j k : Nat} {vs : List V} {xs : List PyData} (hjk : j ≠ k) (hn : ¬ B A) :
    SrcOk g B (gTup K' 2 (gCons (gName j) (gCons (gName k) gNil))) [j, k] xs.length (fun i ds' => (ds'.set j (some (.py (.int (i : Nat))))).set k (some (.py (xs.getD i .none)))) (Ite K A) (fun H => H A = some (.lst vs) ∧ DqAll B H vs xs) where
  keep := fun H H' e k => ⟨e _ _ hn k.1, DqAll.keep e _ _ k.2⟩
  go := fun i H hi k => ⟨vs, vs[i]'(by rw [k.2.length]; exact hi), SqL.of k.1, List.getElem?_eq_getElem _⟩
  stop := fun H k => ⟨vs, SqL.of k.1, by rw [k.2.length]; exact Nat.le_refl _⟩
  turn := fun i H x H' hi kp y => by
    obtain ⟨T, v, rfl, hT, rfl, hx⟩ := y
    have sm := same_new (o := .tup [V.int (i : Nat), v]) hT
    refine ⟨sm, fun σ ds' Q s q => ?_⟩
    have hx := hx vs (SqL.of kp.1)
    obtain ⟨d, hd, dv⟩ := kp.2.getV hx
    have e : xs.getD i .none = d := by rw [List.getD_eq_getElem?_getD, hd]; rfl
    rw [e] at q
    refine ⟨_, _, rfl, SqT.of upd_same, rfl, _, _, rfl, _, _, rfl, rfl, ?_⟩
    exact q _ ((s.set (d := .py (.int _)) (.int _)).set (d := .py d) (dv.keep (.of sm) _ _)) (wipe2 σ hjk _ _)
end
end My
/-! Co3: what is walked, comprehensions. -/
namespace My
open PySem PySem.Spec PyProof.Rows L2 StX
section
variable {g : Gc} {X : Cx} {W : Wd} {ds : Ds} {e a b tg iter : Expr} {pos p : Pos}
theorem in_or {B : Addr → Prop} {H : Hp} {A : Addr} {o : HO} {B' : Addr → Prop} (hB : ∀ a, B' a → B a ∨ H a = none) (hn : ¬ B A) (hA : H A = some o) : ¬ B' A := fun z => (hB A z).elim hn (nn hA)
theorem vi_list {j : Nat} {xs : List PyData} (h : VE g X W ds e (.py (.list xs))) : VI g X W ds tg e (gName j) [j] xs.length (fun i ds' => ds'.set j (some (.py (xs.getD i .none)))) :=
  PI.imp (pi_list h) fun _ _ R ⟨p, q⟩ => ⟨p, fun v H1 m e1 dv => by
    cases dv with
    | lst n hA a =>
      refine ⟨_, rfl, ⟨_, SqL.of hA⟩, q _ H1 m e1 fun B' hB => ⟨_, src_list (in_or hB n hA), hA, DqAll.ban hB _ _ a⟩⟩⟩
theorem vi_tup {j : Nat} {xs : List PyData} (h : VE g X W ds e (.py (.tuple xs))) : VI g X W ds tg e (gName j) [j] xs.length (fun i ds' => ds'.set j (some (.py (xs.getD i .none)))) :=
  PI.imp (pi_tup h) fun _ _ R ⟨p, q⟩ => ⟨p, fun v H1 m e1 dv => by
    cases dv with
    | tup n hA a =>
      refine ⟨_, rfl, ⟨_, SqT.of hA⟩, q _ H1 m e1 fun B' hB => ⟨_, src_tup (in_or hB n hA), hA, DqAll.ban hB _ _ a⟩⟩⟩
theorem vi_list2 {j k : Nat} {K' : PySem.W.Frag} {xs : List (PyData × PyData)} (hjk : j ≠ k) (h : VE g X W ds e (.py (.list (xs.map pr2)))) :
    VI g X W ds tg e (gTup K' 2 (gCons (gName j) (gCons (gName k) gNil))) [j, k] xs.length (fun i ds' => (ds'.set j (some (.py (xs.getD i (.none, .none)).1))).set k (some (.py (xs.getD i (.none, .none)).2))) :=
  PI.imp (pi_list h) fun _ _ R ⟨p, q⟩ => ⟨p, fun v H1 m e1 dv => by
    cases dv with
    | lst n hA a =>
      refine ⟨_, rfl, ⟨_, SqL.of hA⟩, q _ H1 m e1 fun B' hB => ⟨_, src_list2 hjk (in_or hB n hA), hA, DqAll.ban hB _ _ a⟩⟩⟩
theorem vi_rng1 {j : Nat} {k : Int} (hg : Gl X "range") (hm : X.mg "range" = none) (h : VE g X W ds a (.py (.int k))) (h1 : -(2 ^ 62) ≤ k ∧ k < 2 ^ 62) (hs : starEach [a] X.env = [(false, eval a X.env)] := by rfl) : VI g X W ds tg (.Call (.Name "range" p) [a] [] pos) (gName j) [j] k.toNat (fun i ds' => ds'.set j (some (.py (.int (i : Nat))))) :=
  PI.imp (pi_range1 hg hm (va_cons h va_nil hs) hs) fun _ _ R ⟨p, q⟩ => ⟨p, fun vs H1 m e1 dv => by
    cases dv with
    | cons a1 a2 =>
      cases a2
      cases a1
      refine ⟨k, rfl, h1.1, h1.2, q _ H1 m e1 fun B' hB => ⟨fun _ => True, ?_, trivial⟩⟩
      have s := src_rng (g := g) (B := B') (lo := 0) (n := k.toNat) (j := j)
      simpa only [Int.zero_add] using s⟩
theorem vi_rng2 {j : Nat} {lo hi : Int} (hg : Gl X "range") (hm : X.mg "range" = none) (ha : VE g X W ds a (.py (.int lo))) (hb : VE g X W ds b (.py (.int hi))) (h1 : -(2 ^ 62) ≤ lo ∧ lo < 2 ^ 62 ∧ -(2 ^ 62) ≤ hi ∧ hi < 2 ^ 62) (hs : starEach [a, b] X.env = [(false, eval a X.env), (false, eval b X.env)] := by rfl) (hs2 : starEach [b] X.env = [(false, eval b X.env)] := by rfl) :
    VI g X W ds tg (.Call (.Name "range" p) [a, b] [] pos) (gName j) [j] (hi - lo).toNat (fun i ds' => ds'.set j (some (.py (.int (lo + (i : Nat)))))) :=
  PI.imp (pi_range2 hg hm (va_cons ha (va_cons hb va_nil hs2) (by rw [hs, hs2])) hs hs2) fun _ _ R ⟨p, q⟩ => ⟨p, fun vs H1 m e1 dv => by
    cases dv with
    | cons a1 a2 =>
      cases a2 with
      | cons a2 a3 =>
        cases a3
        cases a1
        cases a2
        exact ⟨lo, hi, rfl, h1, q _ H1 m e1 fun B' hB => ⟨fun _ => True, src_rng, trivial⟩⟩⟩
theorem vi_enum {j k : Nat} {K' : PySem.W.Frag} {xs : List PyData} {elts : List Expr} {kk : Nat} {tpos : Pos} (hg : Gl X "enumerate") (hm : X.mg "enumerate" = none) (hjk : j ≠ k) (h : VE g X W ds e (.py (.list xs))) (hs : starEach [e] X.env = [(false, eval e X.env)] := by rfl) :
    VI g X W ds (.Tuple elts kk tpos) (.Call (.Name "enumerate" p) [e] [] pos) (gTup K' 2 (gCons (gName j) (gCons (gName k) gNil))) [j, k] xs.length (fun i ds' => (ds'.set j (some (.py (.int (i : Nat))))).set k (some (.py (xs.getD i .none)))) :=
  PI.imp (pi_enum hg hm (va_cons h va_nil hs) hs) fun _ _ R ⟨p, q⟩ => ⟨p, fun vs H1 m e1 dv => by
    cases dv with
    | cons a1 a2 =>
      cases a2
      cases a1 with
      | lst n hA a => exact ⟨_, _, rfl, SqL.of hA, q _ H1 m e1 fun B' hB => ⟨_, src_enum hjk (in_or hB n hA), hA, DqAll.ban hB _ _ a⟩⟩⟩
end

/-! ### list comprehensions -/
def InB (X : Cx) (scope : Scope) (p : Cx → Prop) : Prop := ∀ (s : Shared) (H : Hp) (C : Addr) (cl : List (Str × Addr)) (fp : List Addr), p (X.blk s H scope (compEnvC scope cl C X.env) fp)
theorem wipe_wipe (σ : L2.St) : ∀ vs : List Nat, (∀ v ∈ vs, (wipe σ vs)[v]? = σ[v]? ∨ (wipe σ vs)[v]? = some none) → True := fun _ _ => trivial
theorem wipe_at {σ : L2.St} : ∀ {vs : List Nat} {v : Nat}, v ∈ vs → (wipe σ vs).set v none = wipe σ vs
  | w :: vs, v, h => by
    show ((wipe σ vs).set w none).set v none = (wipe σ vs).set w none
    rcases List.mem_cons.mp h with e | e
    · rw [e, List.set_set]
    · by_cases q : w = v
      · rw [q, List.set_set]
      · rw [List.set_comm _ _ q, wipe_at e]
theorem wipe_sub {σ : L2.St} {vs : List Nat} : ∀ {ws : List Nat}, (∀ v ∈ ws, v ∈ vs) → wipe (wipe σ vs) ws = wipe σ vs
  | [], _ => rfl
  | w :: ws, h => by
    show (wipe (wipe σ vs) ws).set w none = wipe σ vs
    rw [wipe_sub fun v hv => h v (List.mem_cons_of_mem _ hv), wipe_at (h w List.mem_cons_self)]
theorem range_filter_succ (n : Nat) (p : Nat → Bool) : (List.range (n + 1)).filter p = (List.range n).filter p ++ (if p n = true then [n] else []) := by
  rw [List.range_succ, List.filter_append]
  congr 1
  by_cases h : p n = true
  · rw [if_pos h, List.filter_cons_of_pos h]
    rfl
  · rw [if_neg h, List.filter_cons_of_neg h]
    rfl
theorem filter_congr_lt {n : Nat} {p q : Nat → Bool} (h : ∀ i, i < n → p i = q i) : (List.range n).filter p = (List.range n).filter q := List.filter_congr fun i hi => h i (List.mem_range.mp hi)
/-- the comprehension's turn, by heaps: what the loop keeps -/
structure Made (g : Gc) (W : Wd) (D : Addr) (H1 : Hp) (S : Nat → Bool → Prop) (el : Nat → PyData) (i : Nat) (H' : Hp) (acc : List V) (p : Nat → Bool) : Prop where
  at_ : H' D = some (.lst acc)
  m : W.M H'
  ex : Ex W.B H1 H'
  ok : ∀ k, k < i → S k (p k)
  all : DqAll (W.o1 D (.lst acc)).B H' acc (((List.range i).filter p).map el)
section
variable {g : Gc} {X : Cx} {W : Wd} {ds : Ds} {elt tg iter : Expr} {ifs : List Expr} {scope : Scope} {own : List (Str × Nat)} {pos : Pos} {gt : TG} {n : Nat} {f : Nat → Ds → Ds} {S : Nat → Bool → Prop} {el : Nat → PyData}
theorem ownB_or {W : Wd} {D : Addr} {o : HO} {a : Addr} (h : (W.o1 D o).B a) : W.B a ∨ a = D := h.imp id List.mem_singleton.mp
theorem ownB_at {W : Wd} {D : Addr} {o : HO} : (W.o1 D o).B D := .inr (List.mem_singleton.mpr rfl)
/-- the readings of a comprehension's tests and element -/
def tLcT (g : Gc) (W : Wd) (ds : Ds) (vs : List Nat) (n : Nat) (f : Nat → Ds → Ds) (S : Nat → Bool → Prop) : TT := fun σ H Q => ∃ i D acc, i < n ∧ tTN g (W.o1 D (.lst acc)) (f i (wipeD ds vs)) (S i) σ H Q
def tLcE (g : Gc) (W : Wd) (ds : Ds) (vs : List Nat) (n : Nat) (f : Nat → Ds → Ds) (S : Nat → Bool → Prop) (el : Nat → PyData) : TE := fun σ H Q => ∃ i D acc, (i < n ∧ S i true) ∧ tE g (W.o1 D (.lst acc)) (f i (wipeD ds vs)) (.py (el i)) σ H Q
theorem lc_read (L : W.Loc) (hl : n ≤ sizeLine) {σ : L2.St} {H : Hp} {Q : VK} {vs : List Nat} {wi : TI} (hw : ∀ R, tI g W ds gt vs n f σ H R → wi σ H R)
    (p : Pre g W ds σ H) (q : ∀ v H2 d, (∃ p : Nat → Bool, (∀ i, i < n → S i (p i)) ∧ d = Da.py (.list (((List.range n).filter p).map el))) → W.M H2 → Ex W.B H H2 → DV g W.B H2 v d → Q v H2) :
    tLc wi gt (tLcT g W ds vs n f S) (tLcE g W ds vs n f S el) vs σ H Q := by
  refine hw _ ⟨p, fun J H1 m1 e1 src D hD => ?_⟩
  have mk : ∀ o, W.M (upd H1 D o) := fun o => W.mono (same_new hD) m1
  have fr : ∀ a o, H1 a = some o → a ≠ D := fun a o e z => by
    subst z
    exact nn e hD
  have hB' : ∀ a, (W.o1 D (.lst [])).B a → W.B a ∨ H1 a = none := fun a z => (ownB_or z).imp id fun z => by rw [z]; exact hD
  obtain ⟨Kp, so, k1⟩ := src _ hB'
  have exD : ∀ {H' : Hp} {o : HO}, Ex W.B H1 H' → Ex W.B H1 (upd H' D o) := fun {H' o} e a u nb h => by
    rw [upd_ne (fr a u h)]
    exact e a u nb h
  have exK : ∀ {H' : Hp}, Ex W.B H1 H' → Ex (W.o1 D (.lst [])).B H1 H' := fun e => e.mono fun a z => .inl z
  refine ⟨fun i m H' => m = n - i ∧ i ≤ n ∧ ∃ acc p, Made g W D H1 S el i H' acc p, ⟨n, by simp, Nat.zero_le _, [], fun _ => true, upd_same, mk _, exD (.refl _), fun k hk => absurd hk (Nat.not_lt_zero _), .nil⟩, ?_⟩
  rintro i m H' ⟨rfl, hi, acc, pp, M⟩
  have kp := so.keep _ _ (exK M.ex) k1
  by_cases hlt : i < n
  · refine .inr ⟨so.go i H' hlt kp, fun H'' => ∃ acc p, Made g W D H1 S el (i + 1) H'' acc p, fun H'' z => ⟨n - (i + 1), by omega, rfl, hlt, z⟩, fun x H2 y => ?_⟩
    obtain ⟨sm, tu⟩ := so.turn i H' x H2 hlt kp y
    have e2 : Ex W.B H1 H2 := M.ex.trans (.of sm)
    have hD2 : H2 D = some (.lst acc) := sm _ _ M.at_
    have hm2 : W.M H2 := W.mono sm M.m
    have s2 : Sl g (W.o1 D (.lst [])).B H2 (wipe σ vs) (wipeD ds vs) := (((p.2.keep e1).ban hB').keep (exK e2)).wipe vs
    refine tu (wipe σ vs) (wipeD ds vs) _ s2 fun σ2 s3 hw => ⟨by rw [hw, wipe_sub fun v hv => hv], ?_⟩
    have s4 : Sl g (W.o1 D (.lst acc)).B H2 σ2 (f i (wipeD ds vs)) := s3
    have lacc : acc.length ≤ i := by
      rw [M.all.length, List.length_map]
      exact Nat.le_trans (List.length_filter_le _ _) (by rw [List.length_range]; exact Nat.le_refl _)
    refine ⟨i, D, acc, hlt, ⟨o1_mk hm2 hD2, s4⟩, fun b H3 hS m3 e3 => ?_⟩
    have hD3 : H3 D = some (.lst acc) := o1_at m3
    have ex3 : Ex W.B H1 H3 := fun a u nb h => e3 a u (fun z => (ownB_or z).elim nb (fr a u h)) (e2 a u nb h)
    have all3 := DqAll.keep e3 _ _ (DqAll.keep (.of sm) _ _ M.all)
    have ok3 : ∀ k, k < i + 1 → S k (if k = i then b else pp k) := fun k hk => by
      by_cases z : k = i
      · rw [if_pos z, z]
        exact hS
      · rw [if_neg z]
        exact M.ok k (by omega)
    have ff : (List.range (i + 1)).filter (fun k => if k = i then b else pp k) = (List.range i).filter pp ++ (if b = true then [i] else []) := by
      rw [range_filter_succ, filter_congr_lt (q := pp) fun k hk => if_neg (Nat.ne_of_lt hk)]
      simp
    cases b with
    | false =>
      refine iteF ⟨acc, _, hD3, m3.1, ex3, ok3, ?_⟩
      rw [ff, if_neg Bool.false_ne_true, List.append_nil]
      exact all3
    | true =>
      refine iteT ⟨i, D, acc, ⟨hlt, hS⟩, ⟨m3, s4.keep e3⟩, fun v H4 m4 e4 dv => ?_⟩
      have hD4 : H4 D = some (.lst acc) := o1_at m4
      refine ⟨acc, hD4, Nat.lt_of_le_of_lt lacc (Nat.lt_of_lt_of_le hlt hl), acc ++ [v], _, upd_same, L.off m1 hD _ _ m4.1, ?_, ok3, ?_⟩
      · refine exD fun a u nb h => e4 a u (fun z => (ownB_or z).elim nb (fr a u h)) (ex3 a u nb h)
      · rw [ff, if_pos rfl, List.map_append]
        have k4 : Ex (W.o1 D (.lst acc)).B H4 (upd H4 D (.lst (acc ++ [v]))) := fun a u nb h => by
          rw [upd_ne fun z => nb (by rw [z]; exact ownB_at)]
          exact h
        have r := DqAll.append (DqAll.keep k4 _ _ (DqAll.keep e4 _ _ all3)) (DqAll.keep k4 _ _ (.cons dv .nil))
        exact r
  · have e : i = n := by omega
    subst e
    refine .inl ⟨so.stop _ kp, q _ _ _ ⟨pp, M.ok, rfl⟩ M.m (e1.trans M.ex) ?_⟩
    exact .lst (Wd.fresh m1 hD) M.at_ (DqAll.weak (fun a z => .inl z) _ _ M.all)
theorem vn_lc (hc : X.calm = true) (hN : X.N.Nodup) (L : W.Loc) (hl : n ≤ sizeLine) (hi : VI g X W ds tg iter gt (own.map (·.2)) n f) (ok : BlkOk X.N X.env.scope scope own) (hg : InB X scope fun Y => PG Y tg gt)
    (ht : ∀ i, i < n → ∀ D acc, InB X scope fun Y => VTs g Y (W.o1 D (.lst acc)) (f i (wipeD ds (own.map (·.2)))) ifs (S i))
    (he : ∀ i, i < n → S i true → ∀ D acc, InB X scope fun Y => VE g Y (W.o1 D (.lst acc)) (f i (wipeD ds (own.map (·.2)))) elt (.py (el i)))
    (hs : ∀ x, foldedSetIterable iter X.env x = pure x := by intro _; rfl) :
    VN g X W ds (.ListComp elt [⟨tg, iter, ifs, 0⟩] scope pos) (fun d => ∃ p : Nat → Bool, (∀ i, i < n → S i (p i)) ∧ d = .py (.list (((List.range n).filter p).map el))) := by
  refine PE.imp (pe_lc hc hN hi ok hg (tt := tLcT g W ds (own.map fun x : Str × Nat => x.2) n f S) (te := tLcE g W ds (own.map fun x : Str × Nat => x.2) n f S el)
    (fun s H C cl fp => PTs.exs fun i => PTs.exs fun D => PTs.exs fun acc => PTs.cond fun h => ht i h D acc s H C cl fp)
    (fun s H C cl fp => PE.exs fun i => PE.exs fun D => PE.exs fun acc => PE.cond fun h => he i h.1 h.2 D acc s H C cl fp) hs) fun σ H Q ⟨p, q⟩ => lc_read L hl (fun R h => h) p q
/-- [elt for .. if ..], the test known -/
theorem ve_lcIf {p : Nat → Bool} (hc : X.calm = true) (hN : X.N.Nodup) (L : W.Loc) (hl : n ≤ sizeLine) (hi : VI g X W ds tg iter gt (own.map (·.2)) n f) (ok : BlkOk X.N X.env.scope scope own) (hg : InB X scope fun Y => PG Y tg gt)
    (ht : ∀ i, i < n → ∀ D acc, InB X scope fun Y => VTs g Y (W.o1 D (.lst acc)) (f i (wipeD ds (own.map (·.2)))) ifs (fun b => b = p i))
    (he : ∀ i, i < n → p i = true → ∀ D acc, InB X scope fun Y => VE g Y (W.o1 D (.lst acc)) (f i (wipeD ds (own.map (·.2)))) elt (.py (el i)))
    (hs : ∀ x, foldedSetIterable iter X.env x = pure x := by intro _; rfl) :
    VE g X W ds (.ListComp elt [⟨tg, iter, ifs, 0⟩] scope pos) (.py (.list (((List.range n).filter p).map el))) :=
  ve_of (vn_imp (vn_lc (S := fun i b => b = p i) hc hN L hl hi ok hg ht (fun i h z => he i h z.symm) hs) fun d ⟨p', h, e⟩ => by rw [e, filter_congr_lt h])
/-- [elt for ..] -/
theorem ve_lc (hc : X.calm = true) (hN : X.N.Nodup) (L : W.Loc) (hl : n ≤ sizeLine) (hi : VI g X W ds tg iter gt (own.map (·.2)) n f) (ok : BlkOk X.N X.env.scope scope own) (hg : InB X scope fun Y => PG Y tg gt)
    (he : ∀ i, i < n → ∀ D acc, InB X scope fun Y => VE g Y (W.o1 D (.lst acc)) (f i (wipeD ds (own.map (·.2)))) elt (.py (el i)))
    (hs : ∀ x, foldedSetIterable iter X.env x = pure x := by intro _; rfl) :
    VE g X W ds (.ListComp elt [⟨tg, iter, [], 0⟩] scope pos) (.py (.list ((List.range n).map el))) :=
  ve_is (ve_lcIf (p := fun _ => true) hc hN L hl hi ok hg (fun _ _ _ _ _ _ _ _ _ => vts_nil) (fun i h _ => he i h) hs) (by rw [List.filter_eq_self.mpr fun _ _ => rfl])
end
/-! lists by their items -/
theorem range_getD {α β : Type} (xs : List α) (z : α) (F : α → β) : (List.range xs.length).map (fun i => F (xs.getD i z)) = xs.map F := by
  apply List.ext_getElem
  · simp
  · intro i h1 h2
    simp at h1
    simp [h1]
theorem range_filterD {α β : Type} (xs : List α) (z : α) (P : α → Bool) (F : α → β) : ((List.range xs.length).filter (fun i => P (xs.getD i z))).map (fun i => F (xs.getD i z)) = (xs.filter P).map F := by
  have e : (xs.filter P).map F = (((List.range xs.length).map (fun i => xs.getD i z)).filter P).map F := by
    have h : (List.range xs.length).map (fun i => xs.getD i z) = xs := (range_getD xs z fun x => x).trans (List.map_id'' (fun _ => rfl) _)
    rw [h]
  rw [e, List.filter_map, List.map_map]
  rfl
end My
/-! Co4: statements. -/
namespace My
open PySem PySem.Spec PyProof.Rows L2 StX
abbrev SH := L2.St → Hp → Prop
def HS (X : Cx) (P : SH) (sts : List Stmt) (N : SH) (R : V → Hp → Prop) : Prop :=
  PSs X sts fun D σ H => P σ H ∧ (∀ σ' H', N σ' H' → D.nx σ' H') ∧ ∀ v H', R v H' → D.rt v H'
def H1 (X : Cx) (P : SH) (st : Stmt) (N : SH) (R : V → Hp → Prop) : Prop :=
  PS X st fun D σ H => P σ H ∧ (∀ σ' H', N σ' H' → D.nx σ' H') ∧ ∀ v H', R v H' → D.rt v H'
section
variable {g : Gc} {X : Cx} {W W' : Wd} {ds ds' : Ds} {e a b tg iter : Expr} {st : Stmt} {sts rest body : List Stmt} {pos p p2 p3 : Pos} {P P' N N' N1 : SH} {R : V → Hp → Prop} {d d1 d2 : Da} {x : Str}
theorem hs_nil (h : ∀ σ H, P σ H → N σ H) : HS X P [] N R := PSs.imp pss_nil fun _ σ H ⟨p, n, _⟩ => n σ H (h σ H p)
theorem hs_cons (h1 : H1 X P st N1 R) (h2 : HS X N1 rest N R) : HS X P (st :: rest) N R :=
  PSs.imp (pss_cons h1 h2) fun _ _ _ ⟨p, n, r⟩ => ⟨p, fun _ _ q => ⟨q, n, r⟩, r⟩
theorem hs_pre (h : HS X P' sts N R) (q : ∀ σ H, P σ H → P' σ H) : HS X P sts N R := PSs.imp h fun _ σ H ⟨p, n, r⟩ => ⟨q σ H p, n, r⟩
theorem hs_post (h : HS X P sts N' R) (q : ∀ σ H, N' σ H → N σ H) : HS X P sts N R := PSs.imp h fun _ _ _ ⟨p, n, r⟩ => ⟨p, fun σ' H' z => n σ' H' (q σ' H' z), r⟩
theorem hs_ex {α : Type} {P : α → SH} (h : ∀ z, HS X (P z) sts N R) : HS X (fun σ H => ∃ z, P z σ H) sts N R := ⟨fun pins s σ H D I ⟨⟨z, p⟩, n, r⟩ => (h z).run pins s σ H D I ⟨p, n, r⟩⟩
theorem hs_pure {p : Prop} (h : p → HS X P sts N R) : HS X (fun σ H => p ∧ P σ H) sts N R := ⟨fun pins s σ H D I ⟨⟨z, p⟩, n, r⟩ => (h z).run pins s σ H D I ⟨p, n, r⟩⟩
theorem hs_false : HS X (fun _ _ => False) sts N R := PSs.imp pss_never fun _ _ _ ⟨p, _⟩ => p
/-- by the heap at hand -/
theorem hs_at {P : SH} (h : ∀ σ0 H0, P σ0 H0 → HS X (fun σ H => σ = σ0 ∧ H = H0 ∧ P σ H) sts N R) : HS X P sts N R := ⟨fun pins s σ H D I ⟨p, n, r⟩ => (h σ H p).run pins s σ H D I ⟨⟨rfl, rfl, p⟩, n, r⟩⟩

/-! small statements -/
theorem h1_set (i : Nat) {px : Pos} (hN : X.N.Nodup) (he : VE g X W ds e d) (hi : X.N[i]? = some x := by rfl) (hx : Loc X.env.scope x := by first | exact Or.inl rfl | exact Or.inr rfl)
    (hs : swapsWith e (some (.Name x px)) pos.line X.env = pure false := by rfl) (hf : X.fn x = true ∨ X.env.scope.names.lookup x = some .local := by first | exact .inl rfl | exact .inr rfl) :
    H1 X (Pre g W ds) (.Assign [.Name x px] e pos) (Pre g W (ds.set i (some d))) R :=
  PS.imp (ps_set hN hi hx he hs hf) fun D σ H ⟨p, n, _⟩ => ⟨p, fun v H2 m e dv => n _ _ ⟨m, (p.2.keep e).set dv⟩⟩
theorem h1_setN (i : Nat) {px : Pos} {S : Da → Prop} (hN : X.N.Nodup) (he : VN g X W ds e S) (hi : X.N[i]? = some x := by rfl) (hx : Loc X.env.scope x := by first | exact Or.inl rfl | exact Or.inr rfl)
    (hs : swapsWith e (some (.Name x px)) pos.line X.env = pure false := by rfl) (hf : X.fn x = true ∨ X.env.scope.names.lookup x = some .local := by first | exact .inl rfl | exact .inr rfl) :
    H1 X (Pre g W ds) (.Assign [.Name x px] e pos) (fun σ H => ∃ d, S d ∧ Pre g W (ds.set i (some d)) σ H) R :=
  PS.imp (ps_set hN hi hx he hs hf) fun D σ H ⟨p, n, _⟩ => ⟨p, fun v H2 d z m e dv => n _ _ ⟨d, z, m, (p.2.keep e).set dv⟩⟩
theorem hs_set (i : Nat) {px : Pos} (hN : X.N.Nodup) (he : VE g X W ds e d) (h : HS X (Pre g W (ds.set i (some d))) rest N R) (hi : X.N[i]? = some x := by rfl) (hx : Loc X.env.scope x := by first | exact Or.inl rfl | exact Or.inr rfl)
    (hs : swapsWith e (some (.Name x px)) pos.line X.env = pure false := by rfl) (hf : X.fn x = true ∨ X.env.scope.names.lookup x = some .local := by first | exact .inl rfl | exact .inr rfl) :
    HS X (Pre g W ds) (.Assign [.Name x px] e pos :: rest) N R := hs_cons (h1_set i hN he hi hx hs hf) h
theorem hs_setN (i : Nat) {px : Pos} {S : Da → Prop} (hN : X.N.Nodup) (he : VN g X W ds e S) (h : ∀ d, S d → HS X (Pre g W (ds.set i (some d))) rest N R) (hi : X.N[i]? = some x := by rfl) (hx : Loc X.env.scope x := by first | exact Or.inl rfl | exact Or.inr rfl)
    (hs : swapsWith e (some (.Name x px)) pos.line X.env = pure false := by rfl) (hf : X.fn x = true ∨ X.env.scope.names.lookup x = some .local := by first | exact .inl rfl | exact .inr rfl) :
    HS X (Pre g W ds) (.Assign [.Name x px] e pos :: rest) N R := hs_cons (h1_setN i hN he hi hx hs hf) (hs_ex fun d => hs_pure fun z => h d z)
theorem hs_ret (he : VE g X W ds e d) (q : ∀ σ v H, Pre g W ds σ H → DV g W.B H v d → R v H) : HS X (Pre g W ds) (.Return (some e) pos :: rest) N R :=
  hs_cons (N1 := fun _ _ => False) (PS.imp (ps_ret he) fun D σ H ⟨p, _, r⟩ => ⟨p, fun v H2 m e dv => r v H2 (q σ v H2 (p.go m e) dv)⟩) hs_false
theorem hs_retN {S : Da → Prop} (he : VN g X W ds e S) (q : ∀ σ v H d, S d → Pre g W ds σ H → DV g W.B H v d → R v H) : HS X (Pre g W ds) (.Return (some e) pos :: rest) N R :=
  hs_cons (N1 := fun _ _ => False) (PS.imp (ps_ret he) fun D σ H ⟨p, _, r⟩ => ⟨p, fun v H2 d z m e dv => r v H2 (q σ v H2 d z (p.go m e) dv)⟩) hs_false
theorem hs_expr (he : VE g X W ds e d) (h : HS X (Pre g W ds) rest N R) (hs : swapsWith e none pos.line X.env = pure false := by rfl) : HS X (Pre g W ds) (.Expr e pos :: rest) N R :=
  hs_cons (PS.imp (ps_expr he hs) fun D σ H ⟨p, n, _⟩ => ⟨p, fun v H2 m e dv => n _ _ (p.go m e)⟩) h
theorem h1_if {c : Expr} {k : Bool} (hc : VT g X W ds c k) (ha : k = true → HS X (Pre g W ds) sts N R) (hb : k = false → HS X (Pre g W ds) rest N R) : H1 X (Pre g W ds) (.If c sts rest pos) N R :=
  PS.imp (ps_if hc (PSs.cond (p := k = true) ha) (PSs.cond (p := k = false) hb)) fun D σ H ⟨p, n, r⟩ => ⟨p, fun H2 m e => by
    cases k with
    | true => exact iteT ⟨rfl, p.go m e, n, r⟩
    | false => exact iteF ⟨rfl, p.go m e, n, r⟩⟩
theorem h1_ifN {c : Expr} {S : Bool → Prop} (hc : VTN g X W ds c S) (ha : S true → HS X (Pre g W ds) sts N R) (hb : S false → HS X (Pre g W ds) rest N R) : H1 X (Pre g W ds) (.If c sts rest pos) N R :=
  PS.imp (ps_if hc (PSs.cond (p := S true) ha) (PSs.cond (p := S false) hb)) fun D σ H ⟨p, n, r⟩ => ⟨p, fun k H2 z m e => by
    cases k with
    | true => exact iteT ⟨z, p.go m e, n, r⟩
    | false => exact iteF ⟨z, p.go m e, n, r⟩⟩
/-- if c: return .. -/
theorem hs_ifR {c : Expr} {k : Bool} (hc : VT g X W ds c k) (ha : k = true → HS X (Pre g W ds) sts (fun _ _ => False) R) (hb : k = false → HS X (Pre g W ds) rest N R) : HS X (Pre g W ds) (.If c sts [] pos :: rest) N R :=
  hs_cons (N1 := fun σ H => k = false ∧ Pre g W ds σ H) (h1_if hc (fun z => hs_post (ha z) fun _ _ f => f.elim) fun z => hs_nil fun _ _ p => ⟨z, p⟩) (hs_pure hb)
theorem hs_ifRN {c : Expr} {S : Bool → Prop} (hc : VTN g X W ds c S) (ha : S true → HS X (Pre g W ds) sts (fun _ _ => False) R) (hb : S false → HS X (Pre g W ds) rest N R) : HS X (Pre g W ds) (.If c sts [] pos :: rest) N R :=
  hs_cons (N1 := fun σ H => S false ∧ Pre g W ds σ H) (h1_ifN hc (fun z => hs_post (ha z) fun _ _ f => f.elim) fun z => hs_nil fun _ _ p => ⟨z, p⟩) (hs_pure hb)
/-- if false: .. -/
theorem hs_ifF {c : Expr} (hc : VT g X W ds c false) (hb : HS X (Pre g W ds) rest N R) : HS X (Pre g W ds) (.If c sts [] pos :: rest) N R :=
  hs_ifR hc (fun z => absurd z (by decide)) fun _ => hb
/-- a, b = x, y -/
theorem hs_par (i j : Nat) {y : Str} {px py pt pt2 : Pos} {kt k2} (hN : X.N.Nodup) (ha : VA g X W ds [a, b] [d1, d2]) (h : HS X (Pre g W ((ds.set i (some d1)).set j (some d2))) rest N R) (hij : i ≠ j := by decide) (hc : X.calm = true := by rfl)
    (hi : X.N[i]? = some x := by rfl) (hj : X.N[j]? = some y := by rfl) (hx : X.env.scope.names.lookup x = some .local := by rfl) (hy : X.env.scope.names.lookup y = some .local := by rfl)
    (hw : swappedStores [.Tuple [.Name x px, .Name y py] kt pt] (.Tuple [a, b] k2 pt2) X.env = pure (some [x, y]) := by rfl)
    (hs : swapsWithSole [.Tuple [.Name x px, .Name y py] kt pt] (.Tuple [a, b] k2 pt2) pos.line X.env = pure false := by rfl) : HS X (Pre g W ds) (.Assign [.Tuple [.Name x px, .Name y py] kt pt] (.Tuple [a, b] k2 pt2) pos :: rest) N R :=
  hs_cons (PS.imp (ps_par hc hN hi hj hij hx hy ha hw hs) fun D σ H ⟨p, n, _⟩ => ⟨p, fun vs H2 m e dv => by
    cases dv with
    | cons q1 q =>
      cases q with
      | cons q2 q =>
        cases q
        exact ⟨_, _, rfl, n _ _ ⟨m, ((p.2.keep e).set q1).set q2⟩⟩⟩) h
/-- a, b = e -/
theorem hs_tup2 (i j : Nat) {y : Str} {px py pt : Pos} {kt} {c1 c2 : PyData} (hN : X.N.Nodup) (he : VE g X W ds e (.py (.tuple [c1, c2]))) (h : HS X (Pre g W ((ds.set i (some (.py c1))).set j (some (.py c2)))) rest N R) (hc : X.calm = true := by rfl)
    (hi : X.N[i]? = some x := by rfl) (hj : X.N[j]? = some y := by rfl) (hx : Loc X.env.scope x := by first | exact Or.inl rfl | exact Or.inr rfl) (hy : Loc X.env.scope y := by first | exact Or.inl rfl | exact Or.inr rfl)
    (hs : swapsWithSole [.Tuple [.Name x px, .Name y py] kt pt] e pos.line X.env = pure false := by rfl) (hw : swappedStores [.Tuple [.Name x px, .Name y py] kt pt] e X.env = pure none := by rfl)
    (hf : X.fn x = true ∨ X.env.scope.names.lookup x = some .local := by first | exact .inl rfl | exact .inr rfl) (hf2 : X.fn y = true ∨ X.env.scope.names.lookup y = some .local := by first | exact .inl rfl | exact .inr rfl)
    (h1 : (assignEach [.Tuple [.Name x px, .Name y py] kt pt] X.env).map (·.2) = [assign (.Tuple [.Name x px, .Name y py] kt pt) X.env] := by rfl) :
    HS X (Pre g W ds) (.Assign [.Tuple [.Name x px, .Name y py] kt pt] e pos :: rest) N R :=
  hs_cons (PS.imp (ps_asg he (pg_tup (n := 2) hc (pgs_cons (pg_name hN hi hx hf) (pgs_cons (pg_name hN hj hy hf2) pgs_nil rfl) rfl) rfl rfl) hs hw h1) fun D σ H ⟨p, n, _⟩ => ⟨p, fun v H2 m e dv => by
    cases dv with
    | tup nb hA a =>
      cases a with
      | cons a1 a =>
        cases a with
        | cons a2 a =>
          cases a
          exact ⟨_, _, rfl, SqT.of hA, rfl, _, _, rfl, _, _, rfl, rfl, n _ _ ⟨m, ((p.2.keep e).set (d := .py c1) a1).set (d := .py c2) a2⟩⟩⟩) h
/-- [..] on one line, to a plain local -/
theorem hs_setLc (i : Nat) {px : Pos} {elt : Expr} {ifs : List Expr} {scope : Scope} {own : List (Str × Nat)} {gt : TG} {n : Nat} {f : Nat → Ds → Ds} {q : Nat → Bool} {el : Nat → PyData} (hN : X.N.Nodup) (L : W.Loc) (hl : n ≤ sizeLine)
    (hi : VI g X W ds tg iter gt (own.map (·.2)) n f) (ok : BlkOk X.N X.env.scope scope own) (hg : InB X scope fun Y => PG Y tg gt)
    (ht : ∀ i, i < n → ∀ D acc, InB X scope fun Y => VTs g Y (W.o1 D (.lst acc)) (f i (wipeD ds (own.map (·.2)))) ifs (fun b => b = q i))
    (he : ∀ i, i < n → q i = true → ∀ D acc, InB X scope fun Y => VE g Y (W.o1 D (.lst acc)) (f i (wipeD ds (own.map (·.2)))) elt (.py (el i)))
    (h : HS X (Pre g W (ds.set i (some (.py (.list (((List.range n).filter q).map el)))))) rest N R) (hc : X.calm = true := by rfl) (hy : X.N[i]? = some x := by rfl) (hyl : X.env.scope.names.lookup x = some .local := by rfl)
    (hsw : swapsWith (.ListComp elt [⟨tg, iter, ifs, 0⟩] scope p) (some (.Name x px)) pos.line X.env = pure true := by rfl)
    (hs : ∀ x, foldedSetIterable iter X.env x = pure x := by intro _; rfl) : HS X (Pre g W ds) (.Assign [.Name x px] (.ListComp elt [⟨tg, iter, ifs, 0⟩] scope p) pos :: rest) N R := by
  refine hs_cons (PS.imp (ps_setLc hc hN hy hyl hsw hi ok hg (tt := tLcT g W ds (own.map fun x : Str × Nat => x.2) n f (fun i b => b = q i)) (te := tLcE g W ds (own.map fun x : Str × Nat => x.2) n f (fun i b => b = q i) el)
    (fun s H C cl fp => PTs.exs fun i => PTs.exs fun D => PTs.exs fun acc => PTs.cond fun h => ht i h D acc s H C cl fp)
    (fun s H C cl fp => PE.exs fun i => PE.exs fun D => PE.exs fun acc => PE.cond fun h => he i h.1 h.2.symm D acc s H C cl fp) hs) ?_) h
  rintro D σ H ⟨p, n, _⟩
  refine lc_read L hl (fun R h => h) p ?_
  rintro v H2 d ⟨q', hq, rfl⟩ m e dv
  rw [filter_congr_lt (q := q) hq] at dv
  exact n _ _ ⟨m, (p.2.keep e).set dv⟩
end

theorem set_same {α : Type} {σ : List α} {i : Nat} {w : α} (h1 : σ[i]? = some w) : σ.set i w = σ := by
  apply List.ext_getElem?
  intro j
  by_cases hj : i = j
  · subst hj
    rw [List.getElem?_set_self (List.getElem?_eq_some_iff.mp h1).1, h1]
  · rw [List.getElem?_set_ne hj]
theorem tyV_list {K : PySem.W.Frag} {H : Hp} {a : Addr} {xs : List V} (h : SqL K H a xs) : tyV K "list" (.ref a) H := .inl ⟨rfl, xs, h⟩
/-! ### own lists -/
/-- the object at L changes -/
structure Chg (W W' : Wd) (L : Addr) (o o' : HO) : Prop where
  bl : W.B L
  b1 : ∀ a, W'.B a → W.B a
  b2 : ∀ a, W.B a → W'.B a
  at_ : ∀ H, W.M H → H L = some o
  up : ∀ H, W.M H → W'.M (upd H L o')
theorem Chg.o1 {W : Wd} {L : Addr} (o o' : HO) (h : W.Off L) : Chg (W.o1 L o) (W.o1 L o') L o o' where
  bl := ownB_at
  b1 := fun _ z => z
  b2 := fun _ z => z
  at_ := fun H m => o1_at m
  up := fun H m => o1_mk (h H o' m.1) upd_same
theorem Chg.rel {W W' : Wd} {L : Addr} {o o' : HO} (H1 : Hp) (h : Chg W W' L o o') : Chg (W.rel H1) (W'.rel H1) L o o' where
  bl := h.bl
  b1 := h.b1
  b2 := h.b2
  at_ := fun H m => h.at_ H m.1
  up := fun H m => ⟨h.up H m.1, fun a u nb e => by
    rw [upd_ne fun z => nb (by rw [z]; exact h.b2 _ h.bl)]
    exact m.2 a u (fun z => nb (h.b2 _ z)) e⟩
theorem Chg.own {W : Wd} {Ls : List Addr} {m m' : Addr → HO} {L : Addr} (hL : L ∈ Ls) (h : W.Off L) (hm : ∀ a ∈ Ls, a ≠ L → m' a = m a) : Chg (W.own Ls m) (W.own Ls m') L (m L) (m' L) where
  bl := .inr hL
  b1 := fun _ z => z
  b2 := fun _ z => z
  at_ := fun H k => k.2 L hL
  up := fun H k => ⟨h H _ k.1, fun a z => by
    by_cases e : a = L
    · rw [e, upd_same]
    · rw [upd_ne e, hm a z e]
      exact k.2 a z⟩
theorem Chg.pre {g : Gc} {W W' : Wd} {L : Addr} {o o' : HO} {ds : Ds} {σ : L2.St} {H : Hp} (c : Chg W W' L o o') (p : Pre g W ds σ H) : Pre g W' ds σ (upd H L o') :=
  ⟨c.up H p.1, (p.2.keep fun a u nb e => by
    rw [upd_ne fun z => nb (by rw [z]; exact c.bl)]
    exact e).weak c.b1⟩
theorem Chg.ex {W W' : Wd} {L : Addr} {o o' : HO} (c : Chg W W' L o o') (H : Hp) : Ex W.B H (upd H L o') := fun a u nb e => by
  rw [upd_ne fun z => nb (by rw [z]; exact c.bl)]
  exact e
section
variable {g : Gc} {X : Cx} {W W' : Wd} {ds ds' : Ds} {e a b tg iter : Expr} {st : Stmt} {sts rest body : List Stmt} {pos p p2 p3 p4 p5 : Pos} {P P' N N' N1 : SH} {R : V → Hp → Prop} {d d1 d2 : Da} {x : Str}
/-- x = [] -/
theorem hs_setOwn (i : Nat) {px : Pos} (hN : X.N.Nodup) (hL : W.Loc) (h : ∀ L, ¬ W.B L → W.Off L → HS X (Pre g (W.o1 L (.lst [])) (ds.set i (some (.own L [] [])))) rest N R) (hi : X.N[i]? = some x := by rfl) (hx : Loc X.env.scope x := by first | exact Or.inl rfl | exact Or.inr rfl)
    (hs : swapsWith (.List [] p) (some (.Name x px)) pos.line X.env = pure false := by rfl) (hf : X.fn x = true ∨ X.env.scope.names.lookup x = some .local := by first | exact .inl rfl | exact .inr rfl) :
    HS X (Pre g W ds) (.Assign [.Name x px] (.List [] p) pos :: rest) N R := by
  refine hs_cons (N1 := fun σ H => ∃ L, (¬ W.B L ∧ W.Off L) ∧ Pre g (W.o1 L (.lst [])) (ds.set i (some (.own L [] []))) σ H) (PS.imp (ps_set hN hi hx (pe_lst pa_nil) hs hf) ?_) (hs_ex fun L => hs_pure fun z => h L z.1 z.2)
  rintro D σ H ⟨p, n, _⟩
  refine ⟨Nat.zero_le _, fun r hr => ?_⟩
  have s := same_new (o := .lst []) hr
  have nb := Wd.fresh p.1 hr
  refine n _ _ ⟨r, ⟨nb, hL.off p.1 hr⟩, o1_mk (W.mono s p.1) upd_same, ?_⟩
  have k : Sl g (W.o1 r (.lst [])).B (upd H r (.lst [])) σ ds := by
    refine (p.2.ban fun a z => ?_).keep (fun a u nb2 e => ?_)
    · rcases ownB_or z with z | z
      · exact .inl z
      · exact .inr (by rw [z]; exact hr)
    · rw [upd_ne (ne_of_none e hr)]
      exact e
  exact k.set (d := .own r [] []) ⟨rfl, .nil⟩
/-- a, x = e, [] -/
theorem hs_parOwn (i j : Nat) {y : Str} {px py pt pt2 : Pos} {kt k2} (hN : X.N.Nodup) (hL : W.Loc) (ha : VE g X W ds a d1) (h : ∀ L, ¬ W.B L → W.Off L → HS X (Pre g (W.o1 L (.lst [])) ((ds.set i (some d1)).set j (some (.own L [] [])))) rest N R) (hij : i ≠ j := by decide) (hc : X.calm = true := by rfl)
    (hi : X.N[i]? = some x := by rfl) (hj : X.N[j]? = some y := by rfl) (hx : X.env.scope.names.lookup x = some .local := by rfl) (hy : X.env.scope.names.lookup y = some .local := by rfl)
    (hw : swappedStores [.Tuple [.Name x px, .Name y py] kt pt] (.Tuple [a, .List [] p] k2 pt2) X.env = pure (some [x, y]) := by rfl)
    (hs : swapsWithSole [.Tuple [.Name x px, .Name y py] kt pt] (.Tuple [a, .List [] p] k2 pt2) pos.line X.env = pure false := by rfl)
    (hst : starEach [a, .List [] p] X.env = (false, eval a X.env) :: starEach [.List [] p] X.env := by rfl) (hst2 : starEach [.List [] p] X.env = (false, eval (.List [] p) X.env) :: starEach [] X.env := by rfl) :
    HS X (Pre g W ds) (.Assign [.Tuple [.Name x px, .Name y py] kt pt] (.Tuple [a, .List [] p] k2 pt2) pos :: rest) N R := by
  refine hs_cons (N1 := fun σ H => ∃ L, (¬ W.B L ∧ W.Off L) ∧ Pre g (W.o1 L (.lst [])) ((ds.set i (some d1)).set j (some (.own L [] []))) σ H) (PS.imp (ps_par hc hN hi hj hij hx hy (pa_cons ha (pa_cons (pe_lst pa_nil) pa_nil hst2) hst) hw hs) ?_) (hs_ex fun L => hs_pure fun z => h L z.1 z.2)
  rintro D σ H ⟨p, n, _⟩
  refine ⟨p, fun v H2 m e dv => ⟨Nat.zero_le _, fun r hr => ⟨_, _, rfl, ?_⟩⟩⟩
  have s := same_new (o := .lst []) hr
  have nb := Wd.fresh m hr
  have hb : ∀ a, (W.o1 r (.lst [])).B a → W.B a ∨ H2 a = none := fun a z => (ownB_or z).imp id fun z => by rw [z]; exact hr
  have ke : Ex (W.o1 r (.lst [])).B H2 (upd H2 r (.lst [])) := .of s
  refine n _ _ ⟨r, ⟨nb, hL.off m hr⟩, o1_mk (W.mono s m) upd_same, ?_⟩
  have k : Sl g (W.o1 r (.lst [])).B (upd H2 r (.lst [])) σ ds := ((p.2.keep e).ban hb).keep ke
  exact (k.set ((dv.ban hb).keep ke)).set (d := .own r [] []) ⟨rfl, .nil⟩
/-- the own list is left: it is data from now on -/
theorem freeze {L : Addr} {vs : List V} {xs : List PyData} {i : Nat} {σ : L2.St} {H : Hp} (hn : ¬ W.B L) (hi : ds[i]? = some (some (.own L vs xs))) (p : Pre g (W.o1 L (.lst vs)) ds σ H) : Pre g W (ds.set i (some (.py (.list xs)))) σ H := by
  refine ⟨p.1.1, ?_⟩
  obtain ⟨v, h1, h2, h3⟩ := p.2.2 i _ hi
  have q : Sl g W.B H σ ds := p.2.weak fun a z => .inl z
  have r := q.set (i := i) (v := v) (d := .py (.list xs)) (by rw [h2]; exact .lst hn (o1_at p.1) (DqAll.weak (fun a z => .inl z) _ _ h3))
  have e := set_same h1
  rw [e] at r
  exact r
/-- x.append(e) -/
theorem hs_append (i : Nat) {L : Addr} {vs : List V} {xs : List PyData} {c : PyData} {W2 : V → Wd} {k : Nat} (hd : ds[i]? = some (some (.own L vs xs))) (hc : ∀ v, Chg W (W2 v) L (.lst vs) (.lst (vs ++ [v]))) (he : VE g X W ds e (.py c)) (hl : xs.length < sizeLine)
    (h : ∀ v, HS X (Pre g (W2 v) (ds.set i (some (.own L (vs ++ [v]) (xs ++ [c]))))) rest N R)
    (hi : X.N[i]? = some x := by rfl) (hv : Vis X.env.scope x := by first | exact Or.inl rfl | exact Or.inr (Or.inl rfl) | exact Or.inr (Or.inr rfl)) (hg : (x == ("__debug__" : Str)) = false := by decide) (hcd : (x == ("__classdict__" : Str)) = false := by decide)
    (hs : swapsWith (.Call (.Attribute (.Name x p2) "append" p3) [e] [] p) none pos.line X.env = pure false := by rfl)
    (hbase : attributeBase (.Name x p2) "append" X.env (eval (.Name x p2) X.env) = eval (.Name x p2) X.env := by rfl) (hline : (p3.endLine == p.line) = true := by rfl)
    (hst : starEach [e] X.env = (false, eval e X.env) :: starEach [] X.env := by rfl)
    (hfew : ((backTo p (starEach [e] X.env)).all (fun x => !x.1) && (backToKw p (keywordEach [] X.env)).all (fun x => x.1.isSome)
      && decide ([e].length + ([] : List Keyword).length + (if ([] : List Keyword).isEmpty then 0 else 1) < 30)) = true := by rfl)
    (hplain : (backTo p (starEach [] X.env)).any (·.1) = false := by rfl) :
    HS X (Pre g W ds) (.Expr (.Call (.Attribute (.Name x p2) "append" p3) [e] [] p) pos :: rest) N R := by
  refine hs_cons (N1 := fun σ H => ∃ v, Pre g (W2 v) (ds.set i (some (.own L (vs ++ [v]) (xs ++ [c])))) σ H) (PS.imp (ps_expr (pe_bm PySem.F.plainAttrs_list PySem.F.slot_list_append PySem.F.type_list_append mt_append (pe_var hi hv hg hcd) (pa_cons he pa_nil hst) hbase hfew hline hst hplain) hs) ?_) (hs_ex h)
  rintro D σ H ⟨p, n, _⟩
  obtain ⟨w, h1, h2, h3⟩ := p.2.2 i _ hd
  have c0 := hc .non
  refine ⟨w, h1, by rw [h2]; exact tyV_list (SqL.of (c0.at_ H p.1)), p, fun v H2 m e dv => ?_⟩
  have cv := hc v
  refine ⟨L, vs, v, h2, rfl, cv.at_ _ m, by rw [h3.length]; exact hl, n _ _ ⟨v, ?_⟩⟩
  have pp := cv.pre (p.go m e)
  have e2 := set_same h1
  have r := pp.2.set (i := i) (v := w) (d := .own L (vs ++ [v]) (xs ++ [c])) ⟨h2, DqAll.append (DqAll.weak cv.b1 _ _ (DqAll.keep (cv.ex H2) _ _ (DqAll.keep e _ _ h3))) (.cons (Dq.weak cv.b1 _ _ (Dq.keep (cv.ex H2) _ _ dv)) .nil)⟩
  rw [e2] at r
  exact ⟨pp.1, r⟩
/-- x.extend(list) -/
theorem hs_extend (i : Nat) {L : Addr} {vs : List V} {xs cs : List PyData} {W2 : List V → Wd} (hd : ds[i]? = some (some (.own L vs xs))) (hc : ∀ us, Chg W (W2 us) L (.lst vs) (.lst (vs ++ us))) (he : VE g X W ds e (.py (.list cs))) (hl : xs.length + cs.length ≤ sizeLine)
    (h : ∀ us, HS X (Pre g (W2 us) (ds.set i (some (.own L (vs ++ us) (xs ++ cs))))) rest N R)
    (hi : X.N[i]? = some x := by rfl) (hv : Vis X.env.scope x := by first | exact Or.inl rfl | exact Or.inr (Or.inl rfl) | exact Or.inr (Or.inr rfl)) (hg : (x == ("__debug__" : Str)) = false := by decide) (hcd : (x == ("__classdict__" : Str)) = false := by decide)
    (hs : swapsWith (.Call (.Attribute (.Name x p2) "extend" p3) [e] [] p) none pos.line X.env = pure false := by rfl)
    (hbase : attributeBase (.Name x p2) "extend" X.env (eval (.Name x p2) X.env) = eval (.Name x p2) X.env := by rfl) (hline : (p3.endLine == p.line) = true := by rfl)
    (hst : starEach [e] X.env = (false, eval e X.env) :: starEach [] X.env := by rfl)
    (hfew : ((backTo p (starEach [e] X.env)).all (fun x => !x.1) && (backToKw p (keywordEach [] X.env)).all (fun x => x.1.isSome)
      && decide ([e].length + ([] : List Keyword).length + (if ([] : List Keyword).isEmpty then 0 else 1) < 30)) = true := by rfl)
    (hplain : (backTo p (starEach [] X.env)).any (·.1) = false := by rfl) :
    HS X (Pre g W ds) (.Expr (.Call (.Attribute (.Name x p2) "extend" p3) [e] [] p) pos :: rest) N R := by
  refine hs_cons (N1 := fun σ H => ∃ us, Pre g (W2 us) (ds.set i (some (.own L (vs ++ us) (xs ++ cs)))) σ H) (PS.imp (ps_expr (pe_bm PySem.F.plainAttrs_list PySem.F.slot_list_extend PySem.F.type_list_extend mt_extend (pe_var hi hv hg hcd) (pa_cons he pa_nil hst) hbase hfew hline hst hplain) hs) ?_) (hs_ex h)
  rintro D σ H ⟨p, n, _⟩
  obtain ⟨w, h1, h2, h3⟩ := p.2.2 i _ hd
  have c0 := hc []
  refine ⟨w, h1, by rw [h2]; exact tyV_list (SqL.of (c0.at_ H p.1)), p, fun v H2 m e dv => ?_⟩
  cases dv with
  | lst nb hA dv =>
    rename_i A us
    have cv := hc us
    refine ⟨L, A, vs, us, h2, rfl, cv.at_ _ m, hA, by rw [h3.length, dv.length]; exact hl, n _ _ ⟨us, ?_⟩⟩
    have pp := cv.pre (p.go m e)
    have e2 := set_same h1
    have r := pp.2.set (i := i) (v := w) (d := .own L (vs ++ us) (xs ++ cs)) ⟨h2, DqAll.append (DqAll.weak cv.b1 _ _ (DqAll.keep (cv.ex H2) _ _ (DqAll.keep e _ _ h3))) (DqAll.weak cv.b1 _ _ (DqAll.keep (cv.ex H2) _ _ dv))⟩
    rw [e2] at r
    exact ⟨pp.1, r⟩

/-! ### for -/
/-- a family of worlds for a loop: from the heap at its start on -/
structure Lp (W : Wd) (H1 : Hp) (Wz : Wd) : Prop where
  b : ∀ a, Wz.B a → W.B a ∨ H1 a = none
  ex : ∀ H, Wz.M H → Ex Wz.B H1 H
theorem Lp.rel {W W' : Wd} {H1 : Hp} (h : ∀ a, W'.B a → W.B a) : Lp W H1 (W'.rel H1) := ⟨fun a z => .inl (h a z), fun _ m => m.2⟩
theorem hs_for {Z : Type} {gt : TG} {vs : List Nat} {n : Nat} {f : Nat → Ds → Ds} (Wz : Hp → Nat → Z → Wd) (dz : Hp → Nat → Z → Ds) (hi : VI g X W ds tg iter gt vs n f) (hg : PG X tg gt)
    (hl : ∀ H1 i z, Lp W H1 (Wz H1 i z))
    (h0 : ∀ σ H1, Pre g W ds σ H1 → ∃ z, Pre g (Wz H1 0 z) (dz H1 0 z) σ H1)
    (hb : ∀ H1 i z, W.M H1 → i < n → HS X (Pre g (Wz H1 i z) (f i (dz H1 i z))) body (fun σ H => ∃ z', Pre g (Wz H1 (i + 1) z') (dz H1 (i + 1) z') σ H) R)
    (hr : ∀ H1 z, W.M H1 → HS X (Pre g (Wz H1 n z) (dz H1 n z)) rest N R)
    (hp : PassesOwn (model X.prog X.w) X.A X.env X.xe := by exact PassesOwn.leaving) (hc : X.calm = true := by rfl)
    (hs : ∀ x, foldedSetIterable iter X.env x = pure x := by intro _; rfl) : HS X (Pre g W ds) (.For tg iter body [] pos :: rest) N R := by
  refine hs_cons (N1 := fun σ H => ∃ H1 z, W.M H1 ∧ Pre g (Wz H1 n z) (dz H1 n z) σ H) ?_ (hs_ex fun H1 => hs_ex fun z => hs_pure fun m => hr H1 z m)
  have hbody : PSs X body fun D σ H => ∃ H1 i z, (W.M H1 ∧ i < n) ∧ Pre g (Wz H1 i z) (f i (dz H1 i z)) σ H ∧ (∀ σ' H', (∃ z', Pre g (Wz H1 (i + 1) z') (dz H1 (i + 1) z') σ' H') → D.nx σ' H') ∧ ∀ v H', R v H' → D.rt v H' :=
    ⟨fun pins s σ H D I ⟨H1, i, z, hi, w⟩ => (hb H1 i z hi.1 hi.2).run pins s σ H D I w⟩
  refine PS.imp (ps_for hp hc hi hg hbody hs) ?_
  rintro D σ H ⟨p, nx, rt⟩
  refine ⟨p, fun J H1 m1 e1 src => ?_⟩
  obtain ⟨z0, p0⟩ := h0 σ H1 (p.go m1 e1)
  refine ⟨fun i m σ' H' => m = n - i ∧ i ≤ n ∧ ∃ z, Pre g (Wz H1 i z) (dz H1 i z) σ' H', ⟨n, by simp, Nat.zero_le _, z0, p0⟩, ?_⟩
  rintro i m σ' H' ⟨rfl, hi, z, q⟩
  obtain ⟨Kp, so, k1⟩ := src _ (hl H1 i z).b
  have kp := so.keep _ _ ((hl H1 i z).ex H' q.1) k1
  by_cases hlt : i < n
  · refine .inr ⟨so.go i H' hlt kp, fun σ2 H2 => ∃ z', Pre g (Wz H1 (i + 1) z') (dz H1 (i + 1) z') σ2 H2, fun σ2 H2 z' => ⟨n - (i + 1), by omega, rfl, hlt, z'⟩, fun y H2 hy => ?_⟩
    obtain ⟨sm, tu⟩ := so.turn i H' y H2 hlt kp hy
    refine tu σ' _ _ (q.2.keep (.of sm)) fun σ2 s2 _ => ?_
    exact ⟨H1, i, z, ⟨m1, hlt⟩, ⟨(Wz H1 i z).mono sm q.1, s2⟩, fun _ _ h => h, rt⟩
  · have e : i = n := by omega
    subst e
    exact .inl ⟨so.stop _ kp, nx _ _ ⟨H1, z, m1, q⟩⟩
end
end My
/-! Co5: promises, calls, fields, making. -/
namespace My
open PySem PySem.Spec PyProof.Rows L2 StX

theorem DVs.length {g : Gc} {B : Addr → Prop} {H : Hp} {vs : List V} {ds : List Da} (h : DVs g B H vs ds) : vs.length = ds.length := Paired.length h
theorem start_sl {g : Gc} {B : Addr → Prop} {H : Hp} {N : List Str} {vs : List V} {as : List Da} (h : DVs g B H vs as) : Sl g B H (L2.start N vs) (as.map some ++ List.replicate (N.length - as.length) none) := by
  unfold L2.start
  rw [h.length]
  refine ⟨by simp [h.length], fun i d q => ?_⟩
  have hi : i < as.length := by
    by_cases hi : i < as.length
    · exact hi
    · rw [List.getElem?_append_right (by simpa using hi), List.getElem?_replicate] at q
      split at q <;> cases q
  rw [List.getElem?_append_left (by simpa using hi), List.getElem?_map] at q
  have hv : i < vs.length := by rw [h.length]; exact hi
  rw [List.getElem?_append_left (by simpa using hv), List.getElem?_map]
  clear hi hv
  revert i d
  induction h with
  | nil => intro i d q; simp at q
  | cons a b ih =>
    intro i d q
    cases i with
    | zero =>
      simp at q
      subst q
      exact ⟨_, rfl, a⟩
    | succ i => exact ih i d (by simpa using q)

/-! ### what a def promises, by data -/
def spR (g : Gc) (n : Nat) (R : List Da → Da → Prop) : Sp := fun vs H Q _ => ∃ (B : Addr → Prop) (as : List Da) (d : Da), (∀ a, B a → H a ≠ none) ∧ as.length = n ∧ DVs g B H vs as ∧ R as d ∧ ∀ v H', Same H H' → DV g B H' v d → Q v H'
/-- the def of the text that x names -/
structure Nm (K : PySem.W.Frag) (mg : Str → Option Value) (x : Str) (f : Addr) : Prop where
  mgx : mg x = some (.ref f)
  kp : PySem.W.keepIn K (.ref f) = true
/-- a def's promise, ready to be called by its name -/
def Pn (P : Program) (w : World) (K : PySem.W.Frag) (mg : Str → Option Value) (base : Heap) (k : Nat) (x : Str) (dvs : List V) (sp : Sp) : Prop :=
  ∃ (f : Addr) (fd : FuncData) (ps : List Str) (us : List Value), FnOk P w K mg base (L2.CX P w) k f fd ps sp ∧ Nm K mg x f ∧ Binds K fd ps us ∧ Vals dvs us
abbrev FunS (K : PySem.W.Frag) (x qual : Str) (st : Stmt) (dvs : List V) (f : Addr) (fd : FuncData) : Prop := FunD K x qual (defArgs st) (defBody st) (defScope st) dvs [] f fd
abbrev cxM (P : Program) (w : World) (K : PySem.W.Frag) (mg : Str → Option Value) (base : Heap) (N : List Str) (qual : Str) (st : Stmt) (f : Addr) (cd : Value) (A : Around) (outer : List Env) (s : Shared) (H : Hp) (E : XK) : Cx :=
  cxOf (L2.CX P w) P w K mg base N qual (defScope st) f cd A outer s H E
section
variable {P : Program} {w : World} {K : PySem.W.Frag} {mg : Str → Option Value} {base : Heap} {g : Gc} {k : Nat} {x qual : Str} {st : Stmt} {dvs : List V} {f : Addr} {fd : FuncData} {N ps : List Str} {R : List Da → Da → Prop}
/-- THE RULE for a def that answers: its body by data -/
theorem fn_body {n : Nat} (F : FunS K x qual st dvs f fd) (S : FnScope N ps (defScope st)) (hn : ps.length = n)
    (hb : ∀ (cdv : Value) (A : Around) (outer : List Env) (s : Shared) (H : Hp) (E : XK) (B : Addr → Prop) (hB : ∀ a, B a → H a ≠ none) (as : List Da) (d : Da), Room k (A.deeper (envOfC qual (defScope st) s.heap.objs.size f cdv)) → as.length = n → R as d →
      HS (cxM P w K mg base N qual st f cdv A outer s H E) (Pre g (Wd.ent B H hB) (as.map some ++ List.replicate (N.length - as.length) none)) (defBody st) (fun _ H' => Same H H' ∧ DV g B H' .non d) (fun v H' => Same H H' ∧ DV g B H' v d)) :
    FnOk P w K mg base (L2.CX P w) (k + 1) f fd ps (spR g n R) := by
  refine F.ok S (fun vs H Q E h => ?_) (fun cdv A outer s H vs Q E hr h => ?_)
  · obtain ⟨B, as, d, _, hl, hv, _⟩ := h
    rw [hv.length, hl, hn]
  · obtain ⟨B, as, d, hB, hl, hv, hR, q⟩ := h
    refine ⟨_, hb cdv A outer s H E B hB as d hr hl hR, ⟨?_, fun _ _ z => q _ _ z.1 z.2, fun _ _ z => q _ _ z.1 z.2⟩⟩
    exact ⟨Same.refl H, start_sl hv⟩
end
section
variable {g : Gc} {X : Cx} {W : Wd} {ds : Ds} {e a b o : Expr} {es rest : List Expr} {d d1 d2 d3 : Da} {pos p : Pos} {as dds : List Da} {k j n : Nat} {x : Str} {dvs : List V} {R : List Da → Da → Prop}
/-- f(..) of a def that answers -/
theorem ve_call (c : Pn X.prog X.w X.K X.mg X.base k x dvs (spR g n R)) (hr : Room j X.A) (va : VA g X W ds (e :: es) as) (hR : R (as ++ dds) d) (hkj : k ≤ j := by decide) (hdd : ∀ B H, DVs g B H dvs dds := by exact fun _ _ => Paired.nil) (hn : (as ++ dds).length = n := by rfl)
    (hg : Gl X x := by rfl) (hdb : (x == ("__debug__" : Str)) = false := by decide) (he : starEach (e :: es) X.env = (false, eval e X.env) :: starEach es X.env := by rfl) (hpl : (backTo pos (starEach es X.env)).any (·.1) = false := by rfl) :
    VE g X W ds (.Call (.Name x p) (e :: es) [] pos) d := by
  obtain ⟨f, fd, ps, us, F, nm, hb, hv⟩ := c
  refine PE.imp (pe_call F (hr.mono hkj) hg nm.mgx nm.kp hb hv passL va hdb he hpl) ?_
  rintro σ H Q ⟨p, q⟩
  refine ⟨p, fun vs H2 m e dv => ?_⟩
  exact ⟨W.B, as ++ dds, d, W.al m, hn, paired_app dv (hdd _ _), hR, fun v H' s v' => q v H' (W.mono s m) (e.trans (.of s)) v'⟩
end

/-! ### the text's classes -/
structure Cl2 (K : PySem.W.Frag) (g : Gc) : Prop where
  clW : Cls K g.CW
  clT : Cls K g.CT
  nPo : NoAttr K g.CW "points"
  nTi : NoAttr K g.CW "ties"
  nPe : NoAttr K g.CT "people"
  nTe : NoAttr K g.CT "teams"
  nMa : NoAttr K g.CT "many"
section
variable {g : Gc} {X : Cx} {W : Wd} {ds : Ds} {e : Expr} {pos : Pos} {n : Int} {ts : List PyData}
theorem ve_points (T : Cl2 X.K g) (he : VE g X W ds e (.web n ts)) (hb : attributeBase e "points" X.env (eval e X.env) = eval e X.env := by rfl) : VE g X W ds (.Attribute e "points" pos) (.py (.int n)) :=
  PE.imp (pe_fld he hb) fun _ _ _ ⟨p, q⟩ => ⟨p, fun v H2 m e ⟨a, dx, t, h1, h2, h3, h4⟩ => ⟨a, g.CW, dx, _, .int n, h1, h3, T.clW, T.nPo, rfl, q _ H2 m e (.int n)⟩⟩
theorem ve_ties (T : Cl2 X.K g) (he : VE g X W ds e (.web n ts)) (hb : attributeBase e "ties" X.env (eval e X.env) = eval e X.env := by rfl) : VE g X W ds (.Attribute e "ties" pos) (.py (.tuple ts)) :=
  PE.imp (pe_fld he hb) fun _ _ _ ⟨p, q⟩ => ⟨p, fun v H2 m e ⟨a, dx, t, h1, h2, h3, h4⟩ => ⟨a, g.CW, dx, _, .ref t, h1, h3, T.clW, T.nTi, rfl, q _ H2 m e h4⟩⟩
theorem ve_people (T : Cl2 X.K g) (he : VE g X W ds e (.tms n ts)) (hb : attributeBase e "people" X.env (eval e X.env) = eval e X.env := by rfl) : VE g X W ds (.Attribute e "people" pos) (.py (.int n)) :=
  PE.imp (pe_fld he hb) fun _ _ _ ⟨p, q⟩ => ⟨p, fun v H2 m e ⟨a, dx, t, h1, h2, h3, h4⟩ => ⟨a, g.CT, dx, _, .int n, h1, h3, T.clT, T.nPe, rfl, q _ H2 m e (.int n)⟩⟩
theorem ve_teams (T : Cl2 X.K g) (he : VE g X W ds e (.tms n ts)) (hb : attributeBase e "teams" X.env (eval e X.env) = eval e X.env := by rfl) : VE g X W ds (.Attribute e "teams" pos) (.py (.tuple ts)) :=
  PE.imp (pe_fld he hb) fun _ _ _ ⟨p, q⟩ => ⟨p, fun v H2 m e ⟨a, dx, t, h1, h2, h3, h4⟩ => ⟨a, g.CT, dx, _, .ref t, h1, h3, T.clT, T.nTe, rfl, q _ H2 m e h4⟩⟩
theorem ve_many (T : Cl2 X.K g) (he : VE g X W ds e (.tms n ts)) (hb : attributeBase e "many" X.env (eval e X.env) = eval e X.env := by rfl) : VE g X W ds (.Attribute e "many" pos) (.py (.int (ts.length : Nat))) :=
  PE.imp (pe_fld he hb) fun _ _ _ ⟨p, q⟩ => ⟨p, fun v H2 m e ⟨a, dx, t, h1, h2, h3, h4⟩ => ⟨a, g.CT, dx, _, .int (ts.length : Nat), h1, h3, T.clT, T.nMa, rfl, q _ H2 m e (.int _)⟩⟩
end

/-! ### making -/
/-- an __init__'s promise: R by the written arguments and what the new object is -/
def spI (g : Gc) (C : Addr) (n : Nat) (R : List Da → Da → Prop) : Sp := fun vs H Q _ => ∃ (B : Addr → Prop) (H0 : Hp) (x dx : Addr) (us : List V) (as : List Da) (d : Da), vs = .ref x :: us ∧ H = upd (upd H0 dx (.own x)) x (.ins C dx []) ∧ H0 x = none ∧ H0 dx = none ∧ dx ≠ x ∧
  (∀ a, B a → H0 a ≠ none) ∧ as.length = n ∧ DVs g B H0 us as ∧ R as d ∧ ∀ H', Same H0 H' → DV g B H' (.ref x) d → Q .non H'
def Pmk (P : Program) (w : World) (K : PySem.W.Frag) (mg : Str → Option Value) (base : Heap) (k : Nat) (x : Str) (C : Addr) (sp : Sp) : Prop :=
  ∃ (f : Addr) (fd : FuncData) (ps : List Str), FnOk P w K mg base (L2.CX P w) k f fd ps sp ∧ Mk K C f ∧ mg x = some (.ref C) ∧ Binds K fd ps []
section
variable {g : Gc} {X : Cx} {W : Wd} {ds : Ds} {e a b o : Expr} {es rest : List Expr} {d d1 d2 d3 : Da} {pos p : Pos} {as : List Da} {k j n : Nat} {x : Str} {C : Addr} {R : List Da → Da → Prop}
theorem ve_make (c : Pmk X.prog X.w X.K X.mg X.base k x C (spI g C n R)) (hr : Room j X.A) (va : VA g X W ds (e :: es) as) (hR : R as d) (hkj : k + 1 ≤ j := by decide) (hn : as.length = n := by rfl)
    (hg : Gl X x := by rfl) (hdb : (x == ("__debug__" : Str)) = false := by decide) (he : starEach (e :: es) X.env = (false, eval e X.env) :: starEach es X.env := by rfl) (hpl : (backTo pos (starEach es X.env)).any (·.1) = false := by rfl) :
    VE g X W ds (.Call (.Name x p) (e :: es) [] pos) d := by
  obtain ⟨f, fd, ps, F, M, mx, hb⟩ := c
  refine PE.imp (pe_make M F (hr.mono hkj) hg mx hb .nil passL va hdb he hpl) ?_
  rintro σ H Q ⟨p, q⟩
  refine ⟨p, fun vs H2 m e dv x dx hx hdx ne => ?_⟩
  exact ⟨W.B, H2, x, dx, vs, as, d, by rw [List.append_nil], rfl, hx, hdx, ne, W.al m, hn, dv, hR, fun H' s v' => ⟨rfl, q _ H' (W.mono s m) (e.trans (.of s)) v'⟩⟩
end
section
variable {P : Program} {w : World} {K : PySem.W.Frag} {mg : Str → Option Value} {base : Heap} {g : Gc} {k : Nat} {x qual : Str} {st : Stmt} {dvs : List V} {f : Addr} {fd : FuncData} {N ps : List Str} {R : List Da → Da → Prop}
theorem in_body {n : Nat} {C : Addr} (F : FunS K x qual st dvs f fd) (S : FnScope N ps (defScope st)) (hn : ps.length = n + 1)
    (hb : ∀ (cdv : Value) (A : Around) (outer : List Env) (s : Shared) (H : Hp) (E : XK) (B : Addr → Prop) (H0 : Hp) (hB : ∀ a, B a → H0 a ≠ none) (me dx : Addr) (as : List Da) (d : Da), Room k (A.deeper (envOfC qual (defScope st) s.heap.objs.size f cdv)) → ¬ B me → (Wd.ent B H0 hB).Off me → as.length = n → R as d →
      HS (cxM P w K mg base N qual st f cdv A outer s H E) (Pre g ((Wd.ent B H0 hB).o1 me (.ins C dx [])) (some (.raw (.ref me)) :: (as.map some ++ List.replicate (N.length - (as.length + 1)) none))) (defBody st) (fun _ H' => Same H0 H' ∧ DV g B H' (.ref me) d) (fun v H' => v = .non ∧ Same H0 H' ∧ DV g B H' (.ref me) d)) :
    FnOk P w K mg base (L2.CX P w) (k + 1) f fd ps (spI g C n R) := by
  refine F.ok S (fun vs H Q E h => ?_) (fun cdv A outer s H vs Q E hr h => ?_)
  · obtain ⟨B, H0, me, dx, us, as, d, rfl, _, _, _, _, _, hl, hv, _⟩ := h
    rw [List.length_cons, hv.length, hl, hn]
  · obtain ⟨B, H0, me, dx, us, as, d, rfl, rfl, h1, h2, h3, hB, hl, hv, hR, q⟩ := h
    have hm0 : ¬ B me := fun z => hB me z h1
    have off : (Wd.ent B H0 hB).Off me := loc_ent.off (H1 := H0) (Same.refl H0) h1
    refine ⟨_, hb cdv A outer s _ E B H0 hB me dx as d hr hm0 off hl hR, ⟨?_, fun _ _ z => q _ z.1 z.2, fun _ _ z => by rw [z.1]; exact q _ z.2.1 z.2.2⟩⟩
    have sm : Same H0 (upd (upd H0 dx (.own me)) me (.ins C dx [])) := fun b o e => by
      rw [upd_ne (ne_of_none e h1), upd_ne (ne_of_none e h2)]
      exact e
    refine ⟨o1_mk sm upd_same, ?_⟩
    have hb2 : ∀ a, ((Wd.ent B H0 hB).o1 me (.ins C dx [])).B a → B a ∨ H0 a = none := fun a z => (ownB_or z).imp id fun z => by rw [z]; exact h1
    have k2 : DVs g ((Wd.ent B H0 hB).o1 me (.ins C dx [])).B (upd (upd H0 dx (.own me)) me (.ins C dx [])) us as := L2.Paired.mapP hv fun _ _ z => (z.ban hb2).keep (.of sm)
    have z := start_sl (N := N) (vs := .ref me :: us) (as := .raw (.ref me) :: as) (.cons rfl k2)
    exact z
/-- self.f = e -/
theorem hs_put {X : Cx} {W : Wd} {ds : Ds} {e : Expr} {d : Da} {pos p2 p3 : Pos} {y fld : Str} {rest : List Stmt} {N : SH} {R : V → Hp → Prop} {C me dx : Addr} {fs : List (Str × V)} {W2 : V → Wd} (i : Nat) (hd : ds[i]? = some (some (.raw (.ref me)))) (he : VE g X W ds e d)
    (hc : ∀ v, Chg W (W2 v) me (.ins C dx fs) (.ins C dx (putF fld v fs))) (cl : Cls X.K C) (na : NoAttr X.K C fld) (hl : fs.length < 1000)
    (h : ∀ v, HS X (fun σ H => DV g (W2 v).B H v d ∧ Pre g (W2 v) ds σ H) rest N R)
    (hi : X.N[i]? = some y := by rfl) (hv : Vis X.env.scope y := by first | exact Or.inl rfl | exact Or.inr (Or.inl rfl) | exact Or.inr (Or.inr rfl)) (hg : (y == ("__debug__" : Str)) = false := by decide) (hcd : (y == ("__classdict__" : Str)) = false := by decide)
    (hs : swapsWith e (some (.Attribute (.Name y p2) fld p3)) pos.line X.env = pure false := by rfl) : HS X (Pre g W ds) (.Assign [.Attribute (.Name y p2) fld p3] e pos :: rest) N R := by
  refine hs_cons (N1 := fun σ H => ∃ v, DV g (W2 v).B H v d ∧ Pre g (W2 v) ds σ H) (PS.imp (ps_fld (pe_var hi hv hg hcd) he hs) ?_) (hs_ex h)
  rintro D σ H ⟨p, n, _⟩
  refine ⟨p, fun v H2 m e dv => ?_⟩
  obtain ⟨w, h1, h2⟩ := p.2.2 i _ hd
  have h2 : w = .ref me := h2
  have cv := hc v
  refine ⟨w, h1, me, C, dx, fs, h2, cv.at_ _ m, cl, na, hl, n _ _ ⟨v, (dv.keep (cv.ex H2)).weak cv.b1, cv.pre (p.go m e)⟩⟩
end
end My
/-! Co6: operators by data. -/
namespace My
open PySem PySem.Spec PyProof.Rows L2 StX

/-! ### the data of this text -/
def TD (t : List Int) : PyData := .tuple (t.map .int)
abbrev LI (l : List Int) : PyData := .list (l.map .int)
abbrev LT (ts : List (List Int)) : PyData := .list (ts.map TD)
abbrev QT (ts : List (List Int)) : PyData := .tuple (ts.map TD)
theorem lay_ints : ∀ l : List Int, PyData.canLayAll0 (l.map .int) = true
  | [] => by simp [PyData.canLayAll0]
  | x :: xs => by
    show PyData.canLayAll0 (.int x :: xs.map .int) = true
    rw [PyData.canLayAll0, lay_ints xs]
    simp [PyData.canLay0]
theorem depth_TD (t : List Int) : (TD t).depth = 1 := by
  unfold TD
  rw [PyData.depth, PySem.W.depth_ints]
theorem lay_TD (t : List Int) : (TD t).canLay0 = true := by
  unfold TD
  rw [PyData.canLay0, lay_ints]
theorem lay_TDs : ∀ ts : List (List Int), PyData.canLayAll0 (ts.map TD) = true
  | [] => by simp [PyData.canLayAll0]
  | t :: ts => by
    show PyData.canLayAll0 (TD t :: ts.map TD) = true
    rw [PyData.canLayAll0, lay_TDs ts, lay_TD]
    rfl
theorem depth_TDs : ∀ ts : List (List Int), PyData.depthAll (ts.map TD) ≤ 1
  | [] => by simp [PyData.depthAll]
  | t :: ts => by
    have h1 := depth_TDs ts
    have h2 := depth_TD t
    show PyData.depthAll (TD t :: ts.map TD) ≤ 1
    rw [PyData.depthAll]
    omega
theorem sh_of {d : PyData} (h1 : d.canLay0 = true) (h2 : d.depth ≤ 64) : SeqAt.shaped d = true := by
  show (d.canLay0 && decide (d.depth ≤ 64)) = true
  rw [h1, decide_eq_true h2]
  rfl
theorem sh_int (i : Int) : SeqAt.shaped (.int i) = true := sh_of (by simp [PyData.canLay0]) (by simp [PyData.depth])
theorem sh_bool (i : Bool) : SeqAt.shaped (.bool i) = true := sh_of (by simp [PyData.canLay0]) (by simp [PyData.depth])
theorem sh_str {i : Str} (h : PyData.strOk i = true) : SeqAt.shaped (.str i) = true := sh_of (by simp [PyData.canLay0, h]) (by simp [PyData.depth])
theorem sh_none : SeqAt.shaped .none = true := sh_of (by simp [PyData.canLay0]) (by simp [PyData.depth])
theorem sh_TD (t : List Int) : SeqAt.shaped (TD t) = true := sh_of (lay_TD t) (by rw [depth_TD]; decide)
theorem sh_LI (t : List Int) : SeqAt.shaped (LI t) = true := sh_of (by show PyData.canLay0 (.list _) = true; rw [PyData.canLay0, lay_ints]) (by show PyData.depth (.list _) ≤ 64; rw [PyData.depth, PySem.W.depth_ints]; decide)
theorem sh_LT (ts : List (List Int)) : SeqAt.shaped (LT ts) = true := sh_of (by show PyData.canLay0 (.list _) = true; rw [PyData.canLay0, lay_TDs]) (by show PyData.depth (.list _) ≤ 64; have := depth_TDs ts; rw [PyData.depth]; omega)
theorem sh_TT (ts : List (List Int)) : SeqAt.shaped (QT ts) = true := sh_of (by show PyData.canLay0 (.tuple _) = true; rw [PyData.canLay0, lay_TDs]) (by show PyData.depth (.tuple _) ≤ 64; have := depth_TDs ts; rw [PyData.depth]; omega)
theorem eqv_ints : ∀ a b : List Int, PyData.eqvAll (a.map .int) (b.map .int) = decide (a = b)
  | [], [] => by simp [PyData.eqvAll]
  | [], _ :: _ => by simp [PyData.eqvAll]
  | _ :: _, [] => by simp [PyData.eqvAll]
  | x :: a, y :: b => by
    show PyData.eqvAll (.int x :: a.map .int) (.int y :: b.map .int) = _
    rw [PyData.eqvAll, eqv_ints a b, PyData.eqv]
    by_cases h1 : x = y <;> by_cases h2 : a = b <;> simp [h1, h2]
theorem eqv_TD (a b : List Int) : PyData.eqv (TD a) (TD b) = decide (a = b) := by
  unfold TD
  rw [PyData.eqv, eqv_ints]
theorem eqv_LI (a b : List Int) : PyData.eqv (LI a) (LI b) = decide (a = b) := by
  show PyData.eqv (.list _) (.list _) = _
  rw [PyData.eqv, eqv_ints]
theorem eqv_TDs : ∀ a b : List (List Int), PyData.eqvAll (a.map TD) (b.map TD) = decide (a = b)
  | [], [] => by simp [PyData.eqvAll]
  | [], _ :: _ => by simp [PyData.eqvAll]
  | _ :: _, [] => by simp [PyData.eqvAll]
  | x :: a, y :: b => by
    show PyData.eqvAll (TD x :: a.map TD) (TD y :: b.map TD) = _
    rw [PyData.eqvAll, eqv_TDs a b, eqv_TD]
    by_cases h1 : x = y <;> by_cases h2 : a = b <;> simp [h1, h2]
theorem eqv_LT (a b : List (List Int)) : PyData.eqv (LT a) (LT b) = decide (a = b) := by
  show PyData.eqv (.list _) (.list _) = _
  rw [PyData.eqv, eqv_TDs]
theorem eqv_TT (a b : List (List Int)) : PyData.eqv (QT a) (QT b) = decide (a = b) := by
  show PyData.eqv (.tuple _) (.tuple _) = _
  rw [PyData.eqv, eqv_TDs]
theorem any_TD (ts : List (List Int)) (t : List Int) : ((ts.map TD).any fun z => PyData.eqv z (TD t)) = decide (t ∈ ts) := by
  rw [List.any_map]
  induction ts with
  | nil => simp
  | cons x xs ih =>
    rw [List.any_cons, ih]
    simp only [Function.comp_apply, eqv_TD]
    by_cases h1 : x = t
    · simp [h1]
    · by_cases h2 : t ∈ xs
      · simp [h2]
      · have : ¬ t = x := fun e => h1 e.symm
        simp [h1, h2, this]
theorem any_int (ts : List Int) (t : Int) : ((ts.map PyData.int).any fun z => PyData.eqv z (.int t)) = decide (t ∈ ts) := by
  rw [List.any_map]
  induction ts with
  | nil => simp
  | cons x xs ih =>
    rw [List.any_cons, ih]
    simp only [Function.comp_apply, PyData.eqv]
    by_cases h1 : x = t
    · simp [h1]
    · by_cases h2 : t ∈ xs
      · simp [h2]
      · have : ¬ t = x := fun e => h1 e.symm
        simp [h1, h2, this]

/-! ### operators -/
section
variable {g : Gc} {K : PySem.W.Frag} {i j : Int}
theorem opd_of {r : R2} {d1 d2 d3 : Da} (h : ∀ (B : Addr → Prop) (H : Hp) (x y : V) (Q : VK), (∀ a, B a → H a ≠ none) → DV g B H x d1 → DV g B H y d2 → (∀ v H2, Same H H2 → DV g B H2 v d3 → Q v H2) → r x y H Q) : OpD g r d1 d2 d3 := h
/-- two ints, an int or a bool comes -/
theorem od_i0 {f : Int → Int → Int} : OpD g (rI0 fun i j => .int (f i j)) (.py (.int i)) (.py (.int j)) (.py (.int (f i j))) := fun B H x y Q _ h1 h2 q => by
  cases h1
  cases h2
  exact ⟨_, _, rfl, rfl, q _ H (Same.refl H) (.int _)⟩
theorem od_iC {C : Int → Int → Prop} {f : Int → Int → Int} (hc : C i j) : OpD g (rI C fun i j => .int (f i j)) (.py (.int i)) (.py (.int j)) (.py (.int (f i j))) := fun B H x y Q _ h1 h2 q => by
  cases h1
  cases h2
  exact ⟨_, _, rfl, rfl, hc, q _ H (Same.refl H) (.int _)⟩
theorem od_b0 {f : Int → Int → Bool} : OpD g (rI0 fun i j => .bl (f i j)) (.py (.int i)) (.py (.int j)) (.py (.bool (f i j))) := fun B H x y Q _ h1 h2 q => by
  cases h1
  cases h2
  exact ⟨_, _, rfl, rfl, q _ H (Same.refl H) (.bl _)⟩
theorem od_eq {a b : PyData} {k : Bool} (ha : SeqAt.shaped a = true) (hb : SeqAt.shaped b = true) (e : PyData.eqv a b = k) : OpD g (rEqD K) (.py a) (.py b) (.py (.bool k)) := fun B H x y Q _ h1 h2 q =>
  ⟨a, b, Dq.dp _ _ h1, Dq.dp _ _ h2, ha, hb, q _ H (Same.refl H) (by rw [e]; exact .bl _)⟩
theorem od_ne {a b : PyData} {k : Bool} (ha : SeqAt.shaped a = true) (hb : SeqAt.shaped b = true) (e : (!PyData.eqv a b) = k) : OpD g (rNeD K) (.py a) (.py b) (.py (.bool k)) := fun B H x y Q _ h1 h2 q =>
  ⟨a, b, Dq.dp _ _ h1, Dq.dp _ _ h2, ha, hb, q _ H (Same.refl H) (by rw [e]; exact .bl _)⟩
theorem od_inL {d : PyData} {ds : List PyData} {k : Bool} (ha : SeqAt.shaped d = true) (hb : SeqAt.shaped (.list ds) = true) (e : (ds.any fun z => PyData.eqv z d) = k) : OpD g (rInD K) (.py d) (.py (.list ds)) (.py (.bool k)) := fun B H x y Q _ h1 h2 q =>
  ⟨d, ds, Dq.dp _ _ h1, Dq.dp _ _ h2, ha, hb, q _ H (Same.refl H) (by rw [e]; exact .bl _)⟩
theorem od_ninL {d : PyData} {ds : List PyData} {k : Bool} (ha : SeqAt.shaped d = true) (hb : SeqAt.shaped (.list ds) = true) (e : (!ds.any fun z => PyData.eqv z d) = k) : OpD g (rNotInD K) (.py d) (.py (.list ds)) (.py (.bool k)) := fun B H x y Q _ h1 h2 q =>
  ⟨d, ds, Dq.dp _ _ h1, Dq.dp _ _ h2, ha, hb, q _ H (Same.refl H) (by rw [e]; exact .bl _)⟩
end
/-- x in t, t a tuple -/
def rInT (K : PySem.W.Frag) : R2 := fun x y H Q => ∃ d ds, Dp K H x d ∧ Dp K H y (.tuple ds) ∧ SeqAt.shaped d = true ∧ SeqAt.shaped (.tuple ds) = true ∧ Q (.bl (ds.any fun z => PyData.eqv z d)) H
theorem op_inT {X : Cx} (hu : X.A.units + 65 < cLine) : OpR X (compareOp .In) (rInT X.K) := by
  intro pins s σ H x y v u Q I rx ry h
  obtain ⟨d, ds, hd, he, sd, se, q⟩ := h
  obtain ⟨as, r1⟩ := Dp.reads I d x v hd rx
  obtain ⟨bs, r2⟩ := Dp.reads I (.tuple ds) y u he ry
  exact SeqAt.in_tuple_reads r2 r1 (SeqAt.canLay_of_shaped se) (SeqAt.canLay_of_shaped sd) (room_in_shaped sd hu) ⟨.bl _, H, I, rfl, q⟩
section
variable {g : Gc} {K : PySem.W.Frag} {i j : Int} {X : Cx}
theorem od_inT {d : PyData} {ds : List PyData} {k : Bool} (ha : SeqAt.shaped d = true) (hb : SeqAt.shaped (.tuple ds) = true) (e : (ds.any fun z => PyData.eqv z d) = k) : OpD g (rInT K) (.py d) (.py (.tuple ds)) (.py (.bool k)) := fun B H x y Q _ h1 h2 q =>
  ⟨d, ds, Dq.dp _ _ h1, Dq.dp _ _ h2, ha, hb, q _ H (Same.refl H) (by rw [e]; exact .bl _)⟩
/-- list + list, tuple + tuple -/
theorem dq_new {B : Addr → Prop} {H : Hp} {o : HO} {p : Addr} (hB : ∀ a, B a → H a ≠ none) (hp : H p = none) : ¬ B p := fun z => hB p z hp
theorem od_cat {xs ys : List PyData} (hl : xs.length + ys.length ≤ sizeLine) : OpD g rCat (.py (.list xs)) (.py (.list ys)) (.py (.list (xs ++ ys))) := fun B H x y Q hB h1 h2 q => by
  cases h1 with
  | @lst _ us _ n1 a1 d1 =>
    cases h2 with
    | @lst _ ws _ n2 a2 d2 =>
      refine ⟨_, _, _, _, rfl, rfl, a1, a2, by rw [d1.length, d2.length]; exact hl, fun p hp => ?_⟩
      have s := same_new (o := .lst (us ++ ws)) hp
      exact q _ _ s (.lst (fun z => hB p z hp) upd_same (DqAll.append (DqAll.keep (.of s) _ _ d1) (DqAll.keep (.of s) _ _ d2)))
theorem od_catT {xs ys : List PyData} (hl : xs.length + ys.length ≤ sizeLine) : OpD g (rCatA K) (.py (.tuple xs)) (.py (.tuple ys)) (.py (.tuple (xs ++ ys))) := fun B H x y Q hB h1 h2 q => by
  cases h1 with
  | @tup _ us _ n1 a1 d1 =>
    cases h2 with
    | @tup _ ws _ n2 a2 d2 =>
      refine ⟨_, _, _, _, rfl, rfl, SqT.of a1, SqT.of a2, by rw [d1.length, d2.length]; exact hl, fun e => ?_, fun e1 e2 => ?_, fun e1 e2 p hp => ?_⟩
      · have e' : xs = [] := List.length_eq_zero_iff.mp (by rw [← d1.length, e]; rfl)
        subst e'
        exact q _ _ (Same.refl H) (.tup n2 a2 d2)
      · have e' : ys = [] := List.length_eq_zero_iff.mp (by rw [← d2.length, e2]; rfl)
        subst e'
        rw [List.append_nil] at q
        exact q _ _ (Same.refl H) (.tup n1 a1 d1)
      · have s := same_new (o := .tup (us ++ ws)) hp
        exact q _ _ s (.tup (fun z => hB p z hp) upd_same (DqAll.append (DqAll.keep (.of s) _ _ d1) (DqAll.keep (.of s) _ _ d2)))
end
end My
/-! Co7: built-ins, places, methods by data. -/
namespace My
open PySem PySem.Spec PyProof.Rows L2 StX

def CD (g : Gc) (r : List V → Hp → VK → Prop) (as : List Da) (d : Da) : Prop := ∀ (B : Addr → Prop) (H : Hp) (vs : List V) (Q : VK), (∀ a, B a → H a ≠ none) → DVs g B H vs as → (∀ v H2, Same H H2 → DV g B H2 v d → Q v H2) → r vs H Q
section
variable {g : Gc} {X : Cx} {W : Wd} {ds : Ds} {e a b o : Expr} {es rest : List Expr} {d d1 d2 d3 : Da} {pos p p2 : Pos} {as : List Da} {x : Str} {id T : String} {r : List V → Hp → VK → Prop}
theorem ve_blt (hc : CallR X (.builtin id) r) (h : CD g r as d) (hv : bootBuiltins x = some (.builtin id)) (hm : X.mg x = none) (va : VA g X W ds (e :: es) as) (hg : Gl X x := by rfl) (hn : x ≠ "__name__" := by decide) (hdb : (x == ("__debug__" : Str)) = false := by decide)
    (he : starEach (e :: es) X.env = (false, eval e X.env) :: starEach es X.env := by rfl) (hpl : (backTo pos (starEach es X.env)).any (·.1) = false := by rfl) : VE g X W ds (.Call (.Name x p) (e :: es) [] pos) d :=
  PE.imp (pe_callB hc hg hm hv va hn hdb he hpl) fun _ _ _ ⟨p, q⟩ => ⟨p, fun vs H2 m e dv => h W.B H2 vs _ (W.al m) dv fun v H' s v' => q v H' (W.mono s m) (e.trans (.of s)) v'⟩
theorem ve_cty (hc : CallR X (.type T) r) (h : CD g r as d) (hv : bootBuiltins x = some (.type T)) (hm : X.mg x = none) (va : VA g X W ds (e :: es) as) (hg : Gl X x := by rfl) (hn : x ≠ "__name__" := by decide) (hdb : (x == ("__debug__" : Str)) = false := by decide)
    (he : starEach (e :: es) X.env = (false, eval e X.env) :: starEach es X.env := by rfl) (hpl : (backTo pos (starEach es X.env)).any (·.1) = false := by rfl) : VE g X W ds (.Call (.Name x p) (e :: es) [] pos) d :=
  PE.imp (pe_callTy hc hg hm hv va hn hdb he hpl) fun _ _ _ ⟨p, q⟩ => ⟨p, fun vs H2 m e dv => h W.B H2 vs _ (W.al m) dv fun v H' s v' => q v H' (W.mono s m) (e.trans (.of s)) v'⟩
theorem cd1 {r : List V → Hp → VK → Prop} {d1 d : Da} (h : ∀ (B : Addr → Prop) (H : Hp) (v : V) (Q : VK), (∀ a, B a → H a ≠ none) → DV g B H v d1 → (∀ v H2, Same H H2 → DV g B H2 v d → Q v H2) → r [v] H Q) : CD g r [d1] d := fun B H vs Q hB dv q => by
  cases dv with
  | cons a1 a2 =>
    cases a2
    exact h B H _ Q hB a1 q
theorem cd2 {r : List V → Hp → VK → Prop} {d1 d2 d : Da} (h : ∀ (B : Addr → Prop) (H : Hp) (v w : V) (Q : VK), (∀ a, B a → H a ≠ none) → DV g B H v d1 → DV g B H w d2 → (∀ v H2, Same H H2 → DV g B H2 v d → Q v H2) → r [v, w] H Q) : CD g r [d1, d2] d := fun B H vs Q hB dv q => by
  cases dv with
  | cons a1 a2 =>
    cases a2 with
    | cons a2 a3 =>
      cases a3
      exact h B H _ _ Q hB a1 a2 q

/-! len, all, any, tuple, min, max, int, abs -/
theorem ve_lenL {xs : List PyData} (hm : X.mg "len" = none) (h : VE g X W ds e (.py (.list xs))) (hg : Gl X "len" := by rfl) (he : starEach [e] X.env = (false, eval e X.env) :: starEach [] X.env := by rfl) (hpl : (backTo pos (starEach [] X.env)).any (·.1) = false := by rfl) : VE g X W ds (.Call (.Name "len" p) [e] [] pos) (.py (.int (xs.length : Nat))) :=
  ve_blt call_len_seq (cd1 fun B H v Q _ dv q => by
    cases dv with
    | lst n hA a => exact ⟨_, _, rfl, .inl (SqL.of hA), q _ H (Same.refl H) (by rw [a.length]; exact .int _)⟩) PySem.boot_len hm (va_cons h va_nil he) hg (by decide) (by decide) he hpl
theorem ve_lenT {xs : List PyData} (hm : X.mg "len" = none) (h : VE g X W ds e (.py (.tuple xs))) (hg : Gl X "len" := by rfl) (he : starEach [e] X.env = (false, eval e X.env) :: starEach [] X.env := by rfl) (hpl : (backTo pos (starEach [] X.env)).any (·.1) = false := by rfl) : VE g X W ds (.Call (.Name "len" p) [e] [] pos) (.py (.int (xs.length : Nat))) :=
  ve_blt call_len_seq (cd1 fun B H v Q _ dv q => by
    cases dv with
    | tup n hA a => exact ⟨_, _, rfl, .inr (SqT.of hA), q _ H (Same.refl H) (by rw [a.length]; exact .int _)⟩) PySem.boot_len hm (va_cons h va_nil he) hg (by decide) (by decide) he hpl
theorem ve_all {bs : List Bool} (hc : X.calm = true) (hm : X.mg "all" = none) (h : VE g X W ds e (.py (.list (bs.map .bool)))) (hg : Gl X "all" := by rfl) (he : starEach [e] X.env = (false, eval e X.env) :: starEach [] X.env := by rfl) (hpl : (backTo pos (starEach [] X.env)).any (·.1) = false := by rfl) : VE g X W ds (.Call (.Name "all" p) [e] [] pos) (.py (.bool (bs.all fun x => x))) :=
  ve_blt (cr_all hc) (cd1 fun B H v Q _ dv q => by
    cases dv with
    | lst n hA a =>
      have e := DqAll.bls_eq a
      subst e
      exact ⟨_, bs, rfl, SqL.of hA, q _ H (Same.refl H) (.bl _)⟩) boot_all hm (va_cons h va_nil he) hg (by decide) (by decide) he hpl
theorem ve_any {bs : List Bool} (hc : X.calm = true) (hm : X.mg "any" = none) (h : VE g X W ds e (.py (.list (bs.map .bool)))) (hg : Gl X "any" := by rfl) (he : starEach [e] X.env = (false, eval e X.env) :: starEach [] X.env := by rfl) (hpl : (backTo pos (starEach [] X.env)).any (·.1) = false := by rfl) : VE g X W ds (.Call (.Name "any" p) [e] [] pos) (.py (.bool (bs.any fun x => x))) :=
  ve_blt (cr_any hc) (cd1 fun B H v Q _ dv q => by
    cases dv with
    | lst n hA a =>
      have e := DqAll.bls_eq a
      subst e
      exact ⟨_, bs, rfl, SqL.of hA, q _ H (Same.refl H) (.bl _)⟩) boot_any hm (va_cons h va_nil he) hg (by decide) (by decide) he hpl
theorem ve_tupL {xs : List PyData} (hm : X.mg "tuple" = none) (h : VE g X W ds e (.py (.list xs))) (hg : Gl X "tuple" := by rfl) (he : starEach [e] X.env = (false, eval e X.env) :: starEach [] X.env := by rfl) (hpl : (backTo pos (starEach [] X.env)).any (·.1) = false := by rfl) : VE g X W ds (.Call (.Name "tuple" p) [e] [] pos) (.py (.tuple xs)) :=
  ve_cty call_tuple_of (cd1 fun B H v Q hB dv q => by
    cases dv with
    | @lst _ us _ n hA a =>
      refine ⟨_, _, rfl, .inl ⟨SqL.of hA, fun l hl => ?_⟩⟩
      have s := same_new (o := .tup us) hl
      exact q _ _ s (.tup (fun z => hB l z hl) upd_same (DqAll.keep (.of s) _ _ a))) PyProof.Rows.boot_tuple hm (va_cons h va_nil he) hg (by decide) (by decide) he hpl
theorem ve_tupT {xs : List PyData} (hm : X.mg "tuple" = none) (h : VE g X W ds e (.py (.tuple xs))) (hg : Gl X "tuple" := by rfl) (he : starEach [e] X.env = (false, eval e X.env) :: starEach [] X.env := by rfl) (hpl : (backTo pos (starEach [] X.env)).any (·.1) = false := by rfl) : VE g X W ds (.Call (.Name "tuple" p) [e] [] pos) (.py (.tuple xs)) :=
  ve_cty call_tuple_of (cd1 fun B H v Q hB dv q => by
    cases dv with
    | tup n hA a => exact ⟨_, _, rfl, .inr ⟨SqT.of hA, q _ H (Same.refl H) (.tup n hA a)⟩⟩) PyProof.Rows.boot_tuple hm (va_cons h va_nil he) hg (by decide) (by decide) he hpl
theorem ve_min2 {i j : Int} (hc : X.calm = true) (hm : X.mg "min" = none) (h1 : VE g X W ds a (.py (.int i))) (h2 : VE g X W ds b (.py (.int j))) (hg : Gl X "min" := by rfl) (he : starEach [a, b] X.env = (false, eval a X.env) :: starEach [b] X.env := by rfl) (he2 : starEach [b] X.env = (false, eval b X.env) :: starEach [] X.env := by rfl) (hpl : (backTo pos (starEach [b] X.env)).any (·.1) = false := by rfl) :
    VE g X W ds (.Call (.Name "min" p) [a, b] [] pos) (.py (.int (min i j))) :=
  ve_blt (call_min2 hc) (cd2 fun B H v w Q _ d1 d2 q => by
    cases d1
    cases d2
    refine ⟨i, j, rfl, q _ H (Same.refl H) ?_⟩
    have e : (if j < i then j else i) = min i j := by omega
    rw [e]
    exact .int _) boot_min hm (va_cons h1 (va_cons h2 va_nil he2) he) hg (by decide) (by decide) he hpl
theorem ve_max2 {i j : Int} (hc : X.calm = true) (hm : X.mg "max" = none) (h1 : VE g X W ds a (.py (.int i))) (h2 : VE g X W ds b (.py (.int j))) (hg : Gl X "max" := by rfl) (he : starEach [a, b] X.env = (false, eval a X.env) :: starEach [b] X.env := by rfl) (he2 : starEach [b] X.env = (false, eval b X.env) :: starEach [] X.env := by rfl) (hpl : (backTo pos (starEach [b] X.env)).any (·.1) = false := by rfl) :
    VE g X W ds (.Call (.Name "max" p) [a, b] [] pos) (.py (.int (max i j))) :=
  ve_blt (call_max2 hc) (cd2 fun B H v w Q _ d1 d2 q => by
    cases d1
    cases d2
    refine ⟨i, j, rfl, q _ H (Same.refl H) ?_⟩
    have e : (if j > i then j else i) = max i j := by omega
    rw [e]
    exact .int _) boot_max hm (va_cons h1 (va_cons h2 va_nil he2) he) hg (by decide) (by decide) he hpl
theorem ve_intI {i : Int} (hm : X.mg "int" = none) (h : VE g X W ds e (.py (.int i))) (hg : Gl X "int" := by rfl) (he : starEach [e] X.env = (false, eval e X.env) :: starEach [] X.env := by rfl) (hpl : (backTo pos (starEach [] X.env)).any (·.1) = false := by rfl) : VE g X W ds (.Call (.Name "int" p) [e] [] pos) (.py (.int i)) :=
  ve_cty call_int1 (cd1 fun B H v Q hB dv q => by
    cases dv
    exact .inl ⟨i, rfl, q _ H (Same.refl H) (.int i)⟩) PyProof.Rows.boot_int hm (va_cons h va_nil he) hg (by decide) (by decide) he hpl
theorem ve_abs {i : Int} (hm : X.mg "abs" = none) (h : VE g X W ds e (.py (.int i))) (hg : Gl X "abs" := by rfl) (he : starEach [e] X.env = (false, eval e X.env) :: starEach [] X.env := by rfl) (hpl : (backTo pos (starEach [] X.env)).any (·.1) = false := by rfl) : VE g X W ds (.Call (.Name "abs" p) [e] [] pos) (.py (.int (if i < 0 then -i else i))) :=
  ve_blt call_abs (cd1 fun B H v Q hB dv q => by
    cases dv
    exact ⟨i, rfl, q _ H (Same.refl H) (.int _)⟩) PyProof.Rows.boot_abs hm (va_cons h va_nil he) hg (by decide) (by decide) he hpl

/-! places -/
theorem ve_ixL {xs : List PyData} {i : Int} {c : PyData} (ha : VE g X W ds a (.py (.list xs))) (hb : VE g X W ds b (.py (.int i))) (h : atI xs i = some c) (hs : PlainIx b := by intro _ _; rfl) : VE g X W ds (.Subscript a b pos) (.py c) :=
  PE.imp (pe_ix ix_list ha hb hs) fun _ _ _ ⟨p, q⟩ => ⟨p, fun _ _ m1 e1 v1 => ⟨p.go m1 e1, fun _ H2 m2 e2 v2 => by
    have v1 := v1.keep e2
    cases v1 with
    | @lst _ us _ n hA d =>
      cases v2
      unfold atI at h
      rw [← d.length] at h
      cases e : ixN us.length i with
      | none =>
        rw [e] at h
        cases h
      | some j =>
        rw [e] at h
        obtain ⟨v, hv, dv⟩ := d.get h
        exact ⟨_, us, i, v, rfl, rfl, SqL.of hA, by unfold atI; rw [e]; exact hv, q v H2 m2 (e1.trans e2) dv⟩⟩⟩
theorem ve_ixT {xs : List PyData} {i : Int} {c : PyData} (ha : VE g X W ds a (.py (.tuple xs))) (hb : VE g X W ds b (.py (.int i))) (h : atI xs i = some c) (hs : PlainIx b := by intro _ _; rfl) : VE g X W ds (.Subscript a b pos) (.py c) :=
  PE.imp (pe_ix ix_tup ha hb hs) fun _ _ _ ⟨p, q⟩ => ⟨p, fun _ _ m1 e1 v1 => ⟨p.go m1 e1, fun _ H2 m2 e2 v2 => by
    have v1 := v1.keep e2
    cases v1 with
    | @tup _ us _ n hA d =>
      cases v2
      unfold atI at h
      rw [← d.length] at h
      cases e : ixN us.length i with
      | none =>
        rw [e] at h
        cases h
      | some j =>
        rw [e] at h
        obtain ⟨v, hv, dv⟩ := d.get h
        exact ⟨_, us, i, v, rfl, rfl, SqT.of hA, by unfold atI; rw [e]; exact hv, q v H2 m2 (e1.trans e2) dv⟩⟩⟩
theorem DqAll.take {B : Addr → Prop} {H : Hp} : ∀ {us : List V} {xs : List PyData} (k : Nat), DqAll B H us xs → DqAll B H (us.take k) (xs.take k)
  | _, _, 0, _ => by simpa using DqAll.nil
  | _, [], _ + 1, h => by cases h; simpa using DqAll.nil
  | _, _ :: _, k + 1, .cons a b => .cons a (DqAll.take k b)
/-- xs[:k] -/
theorem ve_cut {xs : List PyData} {k : Nat} (ha : VE g X W ds a (.py (.list xs))) (hb : VE g X W ds b (.py (.int (k : Nat)))) : VE g X W ds (.Subscript a (.Slice none (some b) none p2) pos) (.py (.list (xs.take k))) :=
  PE.imp (pe_slice sl_list ha po_none (po_some hb)) fun _ _ _ ⟨p, q⟩ => ⟨p, fun _ _ m1 e1 v1 => ⟨p.go m1 e1, fun _ H2 m2 e2 v2 => by
    have v1 := v1.keep e2
    cases v1 with
    | @lst _ us _ n hA d =>
      cases v2
      refine ⟨(k : Int), rfl, _, us, rfl, SqL.of hA, fun p hp => ?_⟩
      have s := same_new (o := .lst (cutV us none (some (k : Int)))) hp
      have e : cutV us none (some (k : Int)) = us.take k := by
        unfold cutV
        have e1 : HT.sIx us.length 0 none = 0 := rfl
        have e2 : HT.sIx us.length us.length (some (k : Int)) = min k us.length := by
          simp only [HT.sIx]
          have h : ¬ ((k : Int) < 0) := by omega
          simp only [h, if_false]
          omega
        rw [e1, e2, List.drop_zero, Nat.sub_zero]
        by_cases hk : k ≤ us.length
        · rw [Nat.min_eq_left hk]
        · rw [Nat.min_eq_right (by omega), List.take_length, List.take_of_length_le (by omega)]
      have r := Dq.lst (B := W.B) (Wd.fresh m2 hp) (upd_same (H := H2) (a := p) (o := .lst (cutV us none (some (k : Int))))) (DqAll.keep (.of s) _ _ (by rw [e]; exact DqAll.take k d))
      exact q _ _ (W.mono s m2) ((e1.trans e2).trans (.of s)) r⟩⟩
end
end My
/-! Co8: sorted, list.count, list.index, isinstance. -/
namespace My
section
open PySem PySem.Calls PyProof.Rows PySem.W
variable {P : Program} {wd : World} {Ar : Around} {Er : Value → Shared → Prop} {z : Shared}
abbrev pl (h : Heap) : Heap := h.push (seqObj "list" #[] 0)
abbrev plus (z : Shared) (vs : List Value) : Shared := { z with heap := (pl z.heap).update z.heap.objs.size (Obj.mapSeq (· ++ vs.toArray)) }
/-- what the list of a tuple's items is made by -/
theorem extT {t : Addr} {vs : List Value} {Q : PySem.Fin → Shared → Prop} (ht : z.heap.IsTuple t vs.toArray) (hl : vs.length ≤ sizeLine) (q : Q (.done (.ret (.ref z.heap.objs.size))) (plus z vs)) :
    wpAny (model P wd) Ar (Builtin.List.listExtendWith (.ref z.heap.objs.size) (.ref t) (.ref z.heap.objs.size)) Q Er { z with heap := pl z.heap } := by
  obtain ⟨ob, at1, c1, k, d1⟩ := ht
  have at2 : (pl z.heap).get? t = some ob := Heap.get?_push_of_some _ at1
  have new : (pl z.heap).get? z.heap.objs.size = some (seqObj "list" #[] 0) := Heap.get?_push_size _ rfl
  unfold Builtin.List.listExtendWith
  refine wpAny_bind (wpAny_typeOf (T := "tuple") ⟨ob, at2, c1⟩ ?_)
  rw [if_pos (show (_ || _ || (Value.type "tuple" == Value.type "tuple")) = true by rw [show (Value.type "tuple" == Value.type "tuple") = true from rfl, Bool.or_true])]
  refine wpAny_bind (listItems_at at2 d1 (wpAny_bind (listItems_at new rfl ?_)))
  rw [if_neg (fun e => absurd e (by simp))]
  refine wpAny_bind (listUpdate_at new rfl (wpAny_pure q) (Nat.zero_le _) ?_)
  rw [Array.size_append, List.size_toArray, List.size_toArray, List.length_nil]
  omega
/-- the items of a tuple -/
theorem gather_tup {t : Addr} {vs : List Value} {Q : List Value → Shared → Prop} (ht : z.heap.IsTuple t vs.toArray) (hl : vs.length ≤ sizeLine) (q : Q vs (plus z vs)) : wpAny (model P wd) Ar (collect (.ref t)) Q Er z := by
  unfold collect
  have fin : wpAny (model P wd) Ar (do let o ← load z.heap.objs.size; match o.data with | .seq xs _ => pure xs.toList | _ => unsupported "internal:collect") Q Er (plus z vs) := by
    refine wpAny_bind (wpAny_load (get?_update_seq (xs := #[]) (Heap.get?_push_size _ rfl) _) ?_)
    have e : ((#[] : Array Value) ++ vs.toArray).toList = vs := by simp
    show wpAny _ _ (pure ((#[] : Array Value) ++ vs.toArray).toList : Sem (List Value)) _ _ _
    exact e.symm ▸ wpAny_pure q
  refine wpAny_bind (wpAny_runValue (codeAny_builtin entry_proto_collect' (?_ : wpAny _ _ (newList [] >>= fun l => again (.builtin "list.__iadd__" ⟨[l, .ref t], []⟩)) _ _ z)))
  exact wpAny_bind (wpAny_newList (wpAny_pure ⟨Code.quiet_builtin _ (by decide +kernel), codeAny_builtin entry_list_iadd' (extT ht hl fin)⟩))
/-- sorted(t) of a tuple is list.sort() of a new list of its items -/
theorem sortT_of {t : Addr} {vs : List Value} {Q : Value → Shared → Prop} (ht : z.heap.IsTuple t vs.toArray) (hl : vs.length ≤ sizeLine)
    (q : ∀ E2 : Value → Shared → Prop, wpAny (model P wd) Ar.in1.in1 (Builtin.«list.sort» ⟨[.ref (z.heap.objs.size + 1)], []⟩) (fun f z2 => f = .done (.ret .none) ∧ Q (.ref (z.heap.objs.size + 1)) z2) E2 { z with heap := copyHeap z.heap vs }) :
    wpAny (model P wd) Ar (call (.builtin "sorted") [.ref t]) Q Er z := by
  have sz : (plus z vs).heap.objs.size = z.heap.objs.size + 1 := (Heap.size_update _ _ _).trans (size_push' _ _)
  refine call_function_entry_kw kind_sorted plain_sorted entry_sorted (args_sorted1 _) ?_
  unfold Builtin.«sorted»
  refine wpAny_bind (m := checkCount "sorted" 1 1 _) (wpAny_pure (wpAny_bind (gather_tup ht hl (wpAny_bind (wpAny_newList (?_ : wpAny _ _ _ _ _ { z with heap := copyHeap z.heap vs }) hl)))))
  rw [sz]
  refine wpAny_bind (wpAny_holding (wpAny_call_entry_kw slot_list_sort ⟨_, copyHeap_at z.heap vs, rfl⟩ entry_list_sort ?_ (args_list_sort _)))
  exact wpAny_mono (q _) (fun f z2 ⟨e, k⟩ => ⟨_, e, wpAny_pure ⟨_, rfl, k⟩⟩) fun _ _ x => x
theorem sortT_data {β : Type} {enc : β → PyData} {bs : List β} {R : Value → β → Prop} {t : Addr} {vs : List Value} {Q : Value → Shared → Prop} (ht : z.heap.IsTuple t vs.toArray) (e : EachIs R vs bs) (er : EachIs (fun v b => ∃ as, Reads z.heap v (enc b) as) vs bs) (hal : AllAlike (bs.map enc)) (hk : Sortable (bs.map enc)) (hl : bs.length ≤ sizeLine)
    (hu : ∀ b, b ∈ bs → Ar.units + 2 + (enc b).depth < cLine) (q : ∀ out, out.length = bs.length → EachIs R out (bs.mergeSort (dataLe false enc)) → Q (.ref (z.heap.objs.size + 1)) { z with heap := sortedAll z.heap vs (List.toArray out) }) :
    wpAny (model P wd) Ar (call (.builtin "sorted") [.ref t]) Q Er z := by
  have hv : vs.length ≤ sizeLine := e.length.symm ▸ hl
  have er2 : EachIs (fun v b => ∃ as, Reads (sortingHeap (copyHeap z.heap vs) (z.heap.objs.size + 1) vs) v (enc b) as) vs bs := er.mono fun _ _ ⟨as, r⟩ => ⟨as, PyProof.Rows.Reads.keeps (fun _ _ => sorting_copy_old) r⟩
  have S := SortsAt.data (prog := P) (w := wd) (A := Ar.in1.in1) (s := { z with heap := sortingHeap (copyHeap z.heap vs) (z.heap.objs.size + 1) vs }) (each_map (R := fun v d => ∃ as, Reads (sortingHeap (copyHeap z.heap vs) (z.heap.objs.size + 1) vs) v d as) enc er2) hal hk (bound_map hu)
  exact sortT_of ht hv fun _ => list_sort_vals (s := { z with heap := copyHeap z.heap vs }) (copyHeap_at z.heap vs) S hv ⟨rfl, q _ ((sortVals_length false rfl).trans e.length) (sortVals_data false e er2 hal)⟩
end
open PySem PySem.Spec PyProof.Rows L2 StX
/-! ### sorted by data -/
section
variable {X : Cx} {pins : List (Addr × Obj)} {σ : L2.St} {H : Hp} {s : Shared} {B : Addr → Prop} {β : Type} {enc : β → PyData}
def RvD (B : Addr → Prop) (H : Hp) (enc : β → PyData) (u : Value) (b : β) : Prop := ∃ v, RelV v u ∧ Dq B H v (enc b)
theorem rv_of : ∀ {bs : List β} {xs : List V} {us : List Value}, DqAll B H xs (bs.map enc) → Vals xs us → PySem.W.EachIs (RvD B H enc) us bs
  | [], _, _, h, r => by
    have h : DqAll B H _ [] := h
    cases h
    cases r
    exact .nil
  | b :: bs, _, _, h, r => by
    have h : DqAll B H _ (enc b :: bs.map enc) := h
    cases h with
    | cons h1 h2 =>
      cases r with
      | cons r1 r2 => exact .cons ⟨_, r1, h1⟩ (rv_of h2 r2)
theorem rv_back : ∀ {bs : List β} {us : List Value}, PySem.W.EachIs (RvD B H enc) us bs → ∃ xs, Vals xs us ∧ DqAll B H xs (bs.map enc)
  | _, _, .nil => ⟨[], .nil, .nil⟩
  | _, _, .cons ⟨v, r, d⟩ t => by
    obtain ⟨xs, h1, h2⟩ := rv_back t
    exact ⟨v :: xs, .cons r h1, .cons d h2⟩
theorem rv_reads (I : Inv X pins σ H s) {bs : List β} {us : List Value} (h : PySem.W.EachIs (RvD B H enc) us bs) : PySem.W.EachIs (fun v b => ∃ as, Reads s.heap v (enc b) as) us bs :=
  h.mono fun u b ⟨v, r, d⟩ => Dp.reads I (enc b) v u (Dq.dp _ _ d) r
def rSortD (K : PySem.W.Frag) (enc : β → PyData) (bs : List β) : List V → Hp → VK → Prop := fun vs H Q => ∃ (B : Addr → Prop) (a : Addr) (xs : List V), vs = [V.ref a] ∧ (SqL K H a xs ∨ SqT K H a xs) ∧ DqAll B H xs (bs.map enc) ∧
  ∀ p ys, H p = none → DqAll B H ys ((bs.mergeSort (PySem.W.dataLe false enc)).map enc) → Q (.ref p) (upd H p (.lst ys))
theorem cr_sortD {bs : List β} (hal : PySem.W.AllAlike (bs.map enc)) (hk : PySem.W.Sortable (bs.map enc)) (hu : ∀ b, b ∈ bs → X.A.units + 2 + (enc b).depth < cLine) : CallR X (.builtin "sorted") (rSortD X.K enc bs) := by
  intro pins s σ H vs us Q I r h
  obtain ⟨B, a, xs, rfl, hs, hd, q⟩ := h
  rw [Vals.ref1 r]
  have fin : ∀ its : List Value, Vals xs its → xs.length ≤ sizeLine → ∀ out : List Value, out.length = bs.length → PySem.W.EachIs (RvD B H enc) out (bs.mergeSort (PySem.W.dataLe false enc)) →
      EP X pins σ Q (.ref (s.heap.objs.size + 1)) { s with heap := sortedAll s.heap its (List.toArray out) } := fun its rv hz out h1 h2 => by
    obtain ⟨ys, k1, k2⟩ := rv_back h2
    obtain ⟨ep, he⟩ := PyProof.Rows.sortedAll_at s.heap its out.toArray
    have hlen : ys.length ≤ sizeLine := by
      rw [k1.length, h1, ← List.length_map (as := bs) (f := enc), ← hd.length]
      exact hz
    exact ⟨.ref _, upd H (s.heap.objs.size + 1) (.lst ys), I.laid (t' := s.toks) (fun _ _ => PyProof.Rows.sortedAll_old) (Nat.le_succ _) ⟨hlen, out, ep, k1, he⟩, rfl, q _ _ (I.hok.fresh (Nat.le_succ _)) k2⟩
  have hb : xs.length = bs.length := by rw [hd.length, List.length_map]
  rcases hs with hs | hs
  · obtain ⟨its, rv, hl, hz⟩ := I.list hs
    have e := rv_of hd rv
    exact PySem.W.sorted_data hl.isList e (rv_reads I e) hal hk (by rw [← hb]; exact hz) hu (fin its rv hz)
  · obtain ⟨its, rv, hl, hz⟩ := I.tuple hs
    have e := rv_of hd rv
    exact sortT_data hl e (rv_reads I e) hal hk (by rw [← hb]; exact hz) hu (fin its rv hz)
end
/-! the two orders -/
def sortI (l : List Int) : List Int := l.mergeSort fun a b => decide (a ≤ b)
def sortT (ts : List (List Int)) : List (List Int) := ts.mergeSort fun a b => decide (a ≤ b)
theorem le_TD : PySem.W.dataLe false TD = fun a b : List Int => decide (a ≤ b) := by
  funext p q
  show (!PySem.W.dataLt (.tuple (q.map .int)) (.tuple (p.map .int))) = _
  rw [PySem.W.dataLt_tuple]
  show (!PySem.W.rowLt (q.map .int) (p.map .int)) = _
  rw [PySem.W.dataLt_ints]
  by_cases h : q < p
  · rw [decide_eq_true h, decide_eq_false fun r => List.not_lt.mpr r h]
    rfl
  · rw [decide_eq_false h, decide_eq_true (List.not_lt.mp h)]
    rfl
theorem le_int : PySem.W.dataLe false PyData.int = fun a b : Int => decide (a ≤ b) := PySem.W.dataLe_int fun b => b
section
variable {g : Gc} {X : Cx} {W : Wd} {ds : Ds} {e a b o : Expr} {es rest : List Expr} {d d1 d2 d3 : Da} {pos p p2 : Pos} {as : List Da} {x : Str} {k : Nat}
theorem cd_sort {β : Type} {K : PySem.W.Frag} {enc : β → PyData} {bs : List β} {d1 : Da} (h : ∀ B H v, DV g B H v d1 → ∃ a xs, v = V.ref a ∧ (SqL K H a xs ∨ SqT K H a xs) ∧ DqAll B H xs (bs.map enc)) : CD g (rSortD K enc bs) [d1] (.py (.list ((bs.mergeSort (PySem.W.dataLe false enc)).map enc))) :=
  cd1 fun B H v Q hB dv q => by
    obtain ⟨a, xs, e1, e2, e3⟩ := h B H v dv
    refine ⟨B, a, xs, by rw [e1], e2, e3, fun p ys hp dy => ?_⟩
    have s := same_new (o := .lst ys) hp
    exact q _ _ s (.lst (fun z => hB p z hp) upd_same (DqAll.keep (.of s) _ _ dy))
theorem room_u {k : Nat} {A : Around} (hr : Room k A) {n : Nat} (h : n ≤ 10) : A.units + 2 + n < cLine := by have := hr.un; omega
theorem ve_sortLI {l : List Int} (hr : Room k X.A) (hm : X.mg "sorted" = none) (h : VE g X W ds e (.py (LI l))) (hg : Gl X "sorted" := by rfl) (he : starEach [e] X.env = (false, eval e X.env) :: starEach [] X.env := by rfl) (hpl : (backTo pos (starEach [] X.env)).any (·.1) = false := by rfl) : VE g X W ds (.Call (.Name "sorted" p) [e] [] pos) (.py (LI (sortI l))) := by
  have r := ve_blt (p := p) (cr_sortD (enc := PyData.int) (bs := l) (.of fun _ _ => by simp [PySem.W.alike]) (.others fun b => ⟨fun z => (nomatch z), fun xs z => (nomatch z)⟩) fun b _ => room_u hr (by show PyData.depth (.int b) ≤ 10; simp [PyData.depth])) (cd_sort (g := g) (d1 := .py (LI l)) fun B H v dv => by
    cases dv with
    | lst n hA a => exact ⟨_, _, rfl, .inl (SqL.of hA), a⟩) PyProof.Rows.boot_sorted hm (va_cons h va_nil he) hg (by decide) (by decide) he hpl
  rw [le_int] at r
  exact r
theorem ve_sortTI {l : List Int} (hr : Room k X.A) (hm : X.mg "sorted" = none) (h : VE g X W ds e (.py (TD l))) (hg : Gl X "sorted" := by rfl) (he : starEach [e] X.env = (false, eval e X.env) :: starEach [] X.env := by rfl) (hpl : (backTo pos (starEach [] X.env)).any (·.1) = false := by rfl) : VE g X W ds (.Call (.Name "sorted" p) [e] [] pos) (.py (LI (sortI l))) := by
  have r := ve_blt (p := p) (cr_sortD (enc := PyData.int) (bs := l) (.of fun _ _ => by simp [PySem.W.alike]) (.others fun b => ⟨fun z => (nomatch z), fun xs z => (nomatch z)⟩) fun b _ => room_u hr (by show PyData.depth (.int b) ≤ 10; simp [PyData.depth])) (cd_sort (g := g) (d1 := .py (TD l)) fun B H v dv => by
    cases dv with
    | tup n hA a => exact ⟨_, _, rfl, .inr (SqT.of hA), a⟩) PyProof.Rows.boot_sorted hm (va_cons h va_nil he) hg (by decide) (by decide) he hpl
  rw [le_int] at r
  exact r
theorem alike_TD (a b : List Int) : PySem.W.alike (TD a) (TD b) = true := by
  unfold TD
  rw [PySem.W.alike, PySem.W.alike_ints]
theorem ve_sortLT {ts : List (List Int)} (hr : Room k X.A) (hm : X.mg "sorted" = none) (hne : ∀ t ∈ ts, t ≠ []) (h : VE g X W ds e (.py (LT ts))) (hg : Gl X "sorted" := by rfl) (he : starEach [e] X.env = (false, eval e X.env) :: starEach [] X.env := by rfl) (hpl : (backTo pos (starEach [] X.env)).any (·.1) = false := by rfl) : VE g X W ds (.Call (.Name "sorted" p) [e] [] pos) (.py (LT (sortT ts))) := by
  have r := ve_blt (p := p) (cr_sortD (enc := TD) (bs := ts) (.of fun _ _ => alike_TD _ _) (.inl fun d hd => by
    obtain ⟨t, ht, rfl⟩ := List.mem_map.mp hd
    cases t with
    | nil => exact absurd rfl (hne _ ht)
    | cons x r => exact ⟨_, _, rfl⟩) fun b _ => room_u hr (by rw [depth_TD]; decide)) (cd_sort (g := g) (d1 := .py (LT ts)) fun B H v dv => by
    cases dv with
    | lst n hA a => exact ⟨_, _, rfl, .inl (SqL.of hA), a⟩) PyProof.Rows.boot_sorted hm (va_cons h va_nil he) hg (by decide) (by decide) he hpl
  rw [le_TD] at r
  exact r
end
end My
/-! Co9: list.count, list.index, isinstance. -/
namespace My
open PySem PySem.Spec PyProof.Rows L2 StX
section
variable {X : Cx}
/-- l.count(x), data of any depth -/
def rCntD (K : PySem.W.Frag) : V → List V → Hp → VK → Prop := fun x xs H Q => ∃ (a : Addr) (y : V) (us : List V) (c : PyData) (cs : List PyData), x = V.ref a ∧ xs = [y] ∧ SqL K H a us ∧ DpAll K H us cs ∧ Dp K H y c ∧
  SeqAt.shaped (.list cs) = true ∧ SeqAt.shaped c = true ∧ Q (.int (cs.countP fun z => PyData.eqv z c : Nat)) H
theorem mt_cntD (hu : X.A.units + 65 < cLine) : MtR X "list.count" (rCntD X.K) := by
  intro pn s σ H x xs v us Q I rx rxs h
  obtain ⟨a, y, ys, c, cs, rfl, rfl, hs, hd, hy, sl, sd, q⟩ := h
  cases rx
  obtain ⟨uy, rfl, ry⟩ := rxs.one
  obtain ⟨bs, r1⟩ := Dp.reads I c y uy hy ry
  obtain ⟨its, rv, ⟨⟨cls, dd, dt, sls⟩, n, ho, hc, hdn, hdt⟩, hlen⟩ := I.list hs
  simp only at hc hdt
  subst hc hdt
  obtain ⟨as, r2⟩ := Dp.readsAll I cs ys its hd rv
  have lay : PyData.canLayAll0 cs = true := SeqAt.canLay_of_shaped sl
  have ec : its.toArray.toList.countP (fun u => PyData.eqv (SeqAt.readOf s.heap u) c) = cs.countP fun z => PyData.eqv z c := by
    rw [← SeqAt.readsAll_map cs its as lay r2, List.countP_map]
    rfl
  refine call_meets PySem.F.slot_list_count ⟨_, ho, rfl⟩ PySem.F.entry_list_count (PySem.F.args_list_count_2 _ _)
    (SeqAt.list_countAt a its.toArray n dd sls uy fun u => PyData.eqv (SeqAt.readOf s.heap u) c) ⟨ho, SeqAt.items_eqAt (vs := its.toArray) r2 r1 lay (SeqAt.canLay_of_shaped sd) (room_in_shaped sd hu), ?_⟩
  rw [ec]
  exact ⟨.int _, H, I.tok _, ⟨_, rfl⟩, q⟩
end
section
variable {g : Gc} {X : Cx} {W : Wd} {ds : Ds} {e a b o : Expr} {es rest : List Expr} {d d1 d2 d3 : Da} {pos p p2 apos : Pos} {as : List Da} {x : Str} {k : Nat} {xs : List PyData} {c : PyData}
theorem hu65 {A : Around} (hr : Room k A) : A.units + 65 < cLine := by have := hr.un; omega
theorem hu64 {A : Around} (hr : Room k A) : A.units + 64 < cLine := by have := hr.un; omega
end
section
variable {g : Gc} {X : Cx} {W : Wd} {ds : Ds} {e a b o : Expr} {es rest : List Expr} {d d1 d2 d3 : Da} {pos p p2 apos : Pos} {as : List Da} {x : Str} {k : Nat} {xs : List PyData} {c : PyData}
theorem ve_count {n : Nat} (hu : X.A.units + 65 < cLine) (ho : VE g X W ds o (.py (.list xs))) (he : VE g X W ds e (.py c)) (sl : SeqAt.shaped (.list xs) = true) (sd : SeqAt.shaped c = true) (hn : (xs.countP fun z => PyData.eqv z c) = n)
    (hbase : attributeBase o "count" X.env (eval o X.env) = eval o X.env := by rfl) (hline : (apos.endLine == pos.line) = true := by rfl) (hst : starEach [e] X.env = (false, eval e X.env) :: starEach [] X.env := by rfl)
    (hfew : ((backTo pos (starEach [e] X.env)).all (fun x => !x.1) && (backToKw pos (keywordEach [] X.env)).all (fun x => x.1.isSome)
      && decide ([e].length + ([] : List Keyword).length + (if ([] : List Keyword).isEmpty then 0 else 1) < 30)) = true := by rfl) (hplain : (backTo pos (starEach [] X.env)).any (·.1) = false := by rfl) :
    VE g X W ds (.Call (.Attribute o "count" apos) [e] [] pos) (.py (.int (n : Nat))) :=
  PE.imp (pe_bm PySem.F.plainAttrs_list PySem.F.slot_list_count PySem.F.type_list_count (mt_cntD hu) ho (va_cons he va_nil hst) hbase hfew hline hst hplain) fun _ _ _ ⟨p, q⟩ => ⟨p, fun v H1 m1 e1 d1 => by
    cases d1 with
    | lst n1 hA a1 =>
      refine ⟨tyV_list (SqL.of hA), p.go m1 e1, fun vs H2 m2 e2 d2 => ?_⟩
      cases d2 with
      | cons d2 d3 =>
        cases d3
        refine ⟨_, _, _, c, xs, rfl, rfl, SqL.of (e2 _ _ n1 hA), DqAll.dp _ _ (DqAll.keep e2 _ _ a1), Dq.dp _ _ d2, sl, sd, ?_⟩
        rw [hn]
        exact q _ H2 m2 (e1.trans e2) (.int _)⟩
theorem ve_index {j : Nat} {z : PyData} (hu : X.A.units + 65 < cLine) (ho : VE g X W ds o (.py (.list xs))) (he : VE g X W ds e (.py c)) (sl : SeqAt.shaped (.list xs) = true) (sd : SeqAt.shaped c = true) (hz : xs[j]? = some z) (hzc : PyData.eqv z c = true)
    (hno : ∀ (m : Nat) (z' : PyData), m < j → xs[m]? = some z' → PyData.eqv z' c = false)
    (hbase : attributeBase o "index" X.env (eval o X.env) = eval o X.env := by rfl) (hline : (apos.endLine == pos.line) = true := by rfl) (hst : starEach [e] X.env = (false, eval e X.env) :: starEach [] X.env := by rfl)
    (hfew : ((backTo pos (starEach [e] X.env)).all (fun x => !x.1) && (backToKw pos (keywordEach [] X.env)).all (fun x => x.1.isSome)
      && decide ([e].length + ([] : List Keyword).length + (if ([] : List Keyword).isEmpty then 0 else 1) < 30)) = true := by rfl) (hplain : (backTo pos (starEach [] X.env)).any (·.1) = false := by rfl) :
    VE g X W ds (.Call (.Attribute o "index" apos) [e] [] pos) (.py (.int (j : Nat))) :=
  PE.imp (pe_bm PySem.F.plainAttrs_list PySem.F.slot_list_index PySem.F.type_list_index (mt_indexD hu) ho (va_cons he va_nil hst) hbase hfew hline hst hplain) fun _ _ _ ⟨p, q⟩ => ⟨p, fun v H1 m1 e1 d1 => by
    cases d1 with
    | lst n1 hA a1 =>
      refine ⟨tyV_list (SqL.of hA), p.go m1 e1, fun vs H2 m2 e2 d2 => ?_⟩
      cases d2 with
      | cons d2 d3 =>
        cases d3
        refine ⟨_, _, c, xs, j, z, rfl, rfl, .lst (SqL.of (e2 _ _ n1 hA)) (DqAll.dp _ _ (DqAll.keep e2 _ _ a1)), Dq.dp _ _ d2, sl, sd, hz, hzc, hno, q _ H2 m2 (e1.trans e2) (.int _)⟩⟩
end

/-! ### isinstance -/
/-- what a class needs that its instances are told -/
structure ClT (K : PySem.W.Frag) (C : Addr) : Prop where
  ha : PySem.W.findIn K (.ref C) "__class__" = some (some (.builtin "object.__class__"))
  hn : PySem.W.specialIn K (.builtin "object.__class__") "__get__" = some (some (.builtin "getset_descriptor.__get__"))
  htk : PySem.W.takesIn K (.builtin "object.__class__") = some true
  hm : PySem.W.mroIn K C (.type "object") = some true
def tyD (g : Gc) : Da → Value
  | .py .none => .type "NoneType"
  | .py (.bool _) => .type "bool"
  | .py (.int _) => .type "int"
  | .py (.str _) => .type "str"
  | .py (.list _) => .type "list"
  | .py (.tuple _) => .type "tuple"
  | .py (.dict _) => .type "dict"
  | .web _ _ => .ref g.CW
  | .tms _ _ => .ref g.CT
  | .dK _ => .type "dict"
  | .dT _ => .type "dict"
  | .raw _ => .none
  | .own _ _ _ => .none
def plainD : Da → Bool
  | .raw _ => false
  | .own _ _ _ => false
  | _ => true
theorem tyx_of {g : Gc} {K : PySem.W.Frag} {B : Addr → Prop} {H : Hp} {v : V} (T : Cl2 K g) (tW : ClT K g.CW) (tT : ClT K g.CT) : ∀ {d : Da}, plainD d = true → DV g B H v d → TyX K H v (tyD g d)
  | .py .none, _, h => by cases h; exact .base .non
  | .py (.bool _), _, h => by cases h; exact .base (.bl _)
  | .py (.int _), _, h => by cases h; exact .base (.int _)
  | .py (.str _), _, h => by cases h; exact .base (.str _)
  | .py (.list _), _, h => by
    cases h with
    | lst n a d => exact .base (.lst a)
  | .py (.tuple _), _, h => by
    cases h with
    | tup n a d => exact .base (.tup a)
  | .py (.dict _), _, h => by cases h
  | .web _ _, _, ⟨a, dx, t, h1, h2, h3, h4⟩ => by
    rw [h1]
    exact .base (.ins h3 T.clW tW.ha tW.hn tW.htk tW.hm)
  | .tms _ _, _, ⟨a, dx, t, h1, h2, h3, h4⟩ => by
    rw [h1]
    exact .base (.ins h3 T.clT tT.ha tT.hn tT.htk tT.hm)
  | .dK _, _, ⟨a, ps, h1, h2, h3, h4⟩ => by
    rw [h1]
    exact .base (.dK h3)
  | .dT _, _, ⟨a, ps, h1, h2, h3, h4⟩ => by
    rw [h1]
    exact .base (.dT h3)
  | .raw _, z, _ => by cases z
  | .own _ _ _, z, _ => by cases z
/-- a class as an argument -/
theorem ve_tyn {g : Gc} {X : Cx} {W : Wd} {ds : Ds} {x : Str} {n : String} {p : Pos} (hv : bootBuiltins x = some (.type n)) (hm : X.mg x = none) (hg : Gl X x := by rfl) (hn : x ≠ "__name__" := by decide) (hd : (x == ("__debug__" : Str)) = false := by decide) : VE g X W ds (.Name x p) (.raw (.ty n)) :=
  PE.imp (pe_bltn (v := .ty n) hg hm hv rfl hn hd) fun _ H _ ⟨p, q⟩ => q _ H p.1 (.refl H) rfl
theorem ve_cls {g : Gc} {X : Cx} {W : Wd} {ds : Ds} {x : Str} {C : Addr} {p : Pos} (hm : X.mg x = some (.ref C)) (hg : Gl X x := by rfl) (hd : (x == ("__debug__" : Str)) = false := by decide) : VE g X W ds (.Name x p) (.raw (.ref C)) :=
  PE.imp (pe_glob hg hm (v := .ref C) rfl hd) fun _ H _ ⟨p, q⟩ => q _ H p.1 (.refl H) rfl
section
variable {g : Gc} {X : Cx} {W : Wd} {ds : Ds} {e a b c1 c2 : Expr} {d : Da} {pos p p2 p3 : Pos} {k : Bool} {kk : Nat}
/-- isinstance(e, c) -/
theorem ve_isi {cv : V} {cu : Value} (T : Cl2 X.K g) (tW : ClT X.K g.CW) (tT : ClT X.K g.CT) (hm : X.mg "isinstance" = none) (he : VE g X W ds e d) (hd : plainD d = true) (hc : VE g X W ds c1 (.raw cv)) (hcv : ClsV cv cu) (hk : PySem.W.kitOne X.K (tyD g d) cu = some k) (hg : Gl X "isinstance" := by rfl)
    (h1 : starEach [e, c1] X.env = (false, eval e X.env) :: starEach [c1] X.env := by rfl) (h2 : starEach [c1] X.env = (false, eval c1 X.env) :: starEach [] X.env := by rfl) (hpl : (backTo pos (starEach [c1] X.env)).any (·.1) = false := by rfl) :
    VE g X W ds (.Call (.Name "isinstance" p) [e, c1] [] pos) (.py (.bool k)) :=
  ve_blt call_isi (cd2 fun B H v w Q _ dv dw q => ⟨v, w, _, cu, k, rfl, by rw [show w = cv from dw]; exact hcv, tyx_of T tW tT hd dv, hk, q _ H (Same.refl H) (.bl _)⟩) PyProof.Rows.boot_isinstance hm (va_cons he (va_cons hc va_nil h2) h1) hg (by decide) (by decide) h1 hpl
/-- isinstance(e, (c1, c2)) -/
theorem ve_isi2 {v1 v2 : V} {u1 u2 : Value} (T : Cl2 X.K g) (tW : ClT X.K g.CW) (tT : ClT X.K g.CT) (hm : X.mg "isinstance" = none) (he : VE g X W ds e d) (hd : plainD d = true) (hc1 : VE g X W ds c1 (.raw v1)) (hc2 : VE g X W ds c2 (.raw v2)) (hv1 : ClsV v1 u1) (hv2 : ClsV v2 u2) (hk : PySem.W.kitAny X.K (tyD g d) [u1, u2] = some k) (hg : Gl X "isinstance" := by rfl)
    (h1 : starEach [e, .Tuple [c1, c2] kk p3] X.env = (false, eval e X.env) :: starEach [.Tuple [c1, c2] kk p3] X.env := by rfl) (h2 : starEach [.Tuple [c1, c2] kk p3] X.env = (false, eval (.Tuple [c1, c2] kk p3) X.env) :: starEach [] X.env := by rfl)
    (h3 : starEach [c1, c2] X.env = (false, eval c1 X.env) :: starEach [c2] X.env := by rfl) (h4 : starEach [c2] X.env = (false, eval c2 X.env) :: starEach [] X.env := by rfl)
    (hpl : (backTo pos (starEach [.Tuple [c1, c2] kk p3] X.env)).any (·.1) = false := by rfl) :
    VE g X W ds (.Call (.Name "isinstance" p) [e, .Tuple [c1, c2] kk p3] [] pos) (.py (.bool k)) := by
  refine PE.imp (pe_callB call_isiT hg hm PyProof.Rows.boot_isinstance (pa_cons he (pa_cons (pe_tup (va_cons hc1 (va_cons hc2 va_nil h4) h3)) pa_nil h2) h1) (by decide) (by decide) h1 hpl) ?_
  rintro σ H Q ⟨p, q⟩
  refine ⟨p, fun v H1 m1 e1 d1 => ⟨p.go m1 e1, fun vs H2 m2 e2 d2 => ⟨by rw [d2.length]; exact (by decide : 2 ≤ sizeLine), fun t ht => ?_⟩⟩⟩
  have s := same_new (o := .tup vs) ht
  cases d2 with
  | cons a1 a2 =>
    cases a2 with
    | cons a2 a3 =>
      cases a3
      cases a1
      cases a2
      exact ⟨v, t, _, _, [u1, u2], k, rfl, upd_same, .cons hv1 (.cons hv2 .nil), tyx_of T tW tT hd (d1.keep (e2.trans (.of s))), hk, q _ _ (W.mono s m2) ((e1.trans e2).trans (.of s)) (.bl _)⟩
end
end My
/-! CoA: len(set(t)), t a tuple of ints that differ. -/
namespace My
open PySem PySem.Spec PyProof.Rows L2 StX
theorem card_le {α : Type} [DecidableEq α] : ∀ {l m : List α}, l.Nodup → (∀ x ∈ l, x ∈ m) → l.length ≤ m.length
  | [], _, _, _ => Nat.zero_le _
  | x :: l, m, hn, h => by
    have hx := h x List.mem_cons_self
    have ih := card_le (l := l) (m := m.erase x) (List.nodup_cons.mp hn).2 fun y hy => (List.mem_erase_of_ne fun e => (List.nodup_cons.mp hn).1 (by rw [← e]; exact hy)).mpr (h y (List.mem_cons_of_mem _ hy))
    rw [List.length_erase_of_mem hx] at ih
    have := List.length_pos_of_mem hx
    rw [List.length_cons]
    omega
theorem ints_rel : ∀ {ns : List Int} {us : List Value}, Vals (ns.map V.int) us → IntsAre us ns
  | [], _, h => by
    have h : Vals [] _ := h
    cases h
    exact .nil
  | n :: ns, _, h => by
    have h : Vals (V.int n :: ns.map V.int) _ := h
    cases h with
    | cons r t =>
      obtain ⟨k, rfl⟩ := r
      exact .cons n k (ints_rel t)
section
variable {g : Gc} {X : Cx} {W : Wd} {ds : Ds} {e : Expr} {pos p p2 p3 : Pos} {t : List Int}
theorem ve_lenSetI (hc : X.calm = true) (hm : X.mg "len" = none) (hm2 : X.mg "set" = none) (he : VE g X W ds e (.py (TD t))) (hd : t.Nodup) (hs : t.length < 4000) (hg : Gl X "len" := by rfl) (hg2 : Gl X "set" := by rfl) (na : starEach [e] X.env = (false, eval e X.env) :: starEach [] X.env := by rfl) :
    VE g X W ds (.Call (.Name "len" p) [.Call (.Name "set" p2) [e] [] p3] [] pos) (.py (.int (t.length : Nat))) := by
  refine ⟨fun pins s σ H Q I ⟨p, q⟩ => Call_ (ld_blt I hg hm PySem.boot_len (callWith_builtin1 (args_cons (Call_ (ld_blt I hg2 hm2 PyProof.Rows.boot_set (callWith_type1 (args_cons (?_ : wpAny _ _ _ _ _ _) na) na rfl))) rfl) rfl rfl))⟩
  refine thn (he.run pins s σ H (fun v H2 => X.calm = true ∧ W.M H2 ∧ Ex W.B H H2 ∧ DV g W.B H2 v (.py (TD t))) I ⟨p, fun v H2 m x dv => ⟨hc, m, x, dv⟩⟩) ?_
  rintro u s1 ⟨v, H1, I1, rv, -, m, x, dv⟩
  refine args_nil ?_
  cases dv with
  | @tup A us _ nb hA da =>
    have e1 := DqAll.ints_eq da
    subst e1
    cases rv
    obtain ⟨its, r, pl, hz⟩ := I1.tuple (SqT.of hA)
    refine call_set_tupI t (I1.ok.hd hc) pl (by simpa using ints_rel r) (by unfold scanBound; omega) fun h2 tk c hS hcl hk => args_nil ?_
    obtain ⟨o, es, ep, tb, ho, hx, hdt, _, hnd, hmem, _, hf, hsz, _⟩ := hS
    have ec : c = t.length := by
      refine Nat.le_antisymm hcl ?_
      have := card_le hd fun y hy => (hmem y).mp (decide_eq_true hy)
      have q2 : es.toList.length = c := Array.length_toList.trans hsz
      rw [List.length_map, q2] at this
      exact this
    have I2 : Inv X pins σ H1 { s1 with heap := h2, toks := tk } := I1.kept hk
    refine call_len_set ho hx hdt hf (by omega) ⟨.int (t.length : Nat), H1, I2.tok _, ⟨_, by rw [hsz, ec]⟩, q _ H1 m x (.int _)⟩
end
end My
/-! CoB: comprehensions in short. -/
namespace My
open PySem PySem.Spec PyProof.Rows L2 StX
/-- BlkOk, decided -/
def blkB (N : List Str) (sc scope : Scope) (own : List (Str × Nat)) : Bool :=
  decide (scope.kind = .function) && (scope.names.all (fun y => decide (scope.names.lookup y.1 = some y.2)) && (own.all (fun p => decide (N[p.2]? = some p.1)) &&
    (scope.names.all (fun y => !decide (y.2 = .free) || (decide (sc.names.lookup y.1 = some .cell) || decide (sc.names.lookup y.1 = some .free))) &&
      scope.names.all (fun y => !(decide (y.2 = .local) || decide (y.2 = .cell)) || (decide (y.1 ∈ own.map (·.1)) || decide (y.1 ∉ N))))))
theorem blk_of {N : List Str} {sc scope : Scope} {own : List (Str × Nat)} (h : blkB N sc scope own = true) : BlkOk N sc scope own := by
  unfold blkB at h
  simp only [Bool.and_eq_true, decide_eq_true_eq, List.all_eq_true, Bool.or_eq_true, Bool.not_eq_true', decide_eq_false_iff_not, Bool.or_eq_false_iff] at h
  obtain ⟨h1, h2, h3, h4, h5⟩ := h
  refine ⟨h1, h2, h3, fun y hy e => ?_, fun y hy e => ?_⟩
  · rcases h4 y hy with k | k
    · exact absurd e k
    · exact k
  · rcases h5 y hy with k | k
    · rcases e with e | e
      · exact absurd e k.1
      · exact absurd e k.2
    · exact k
section
variable {g : Gc} {X : Cx} {W : Wd} {ds : Ds} {elt e a b tg tgt : Expr} {ifs : List Expr} {scope : Scope} {y : Str} {pos p p2 : Pos}
theorem pgI {j : Nat} (hN : X.N.Nodup) (hyi : X.N[j]? = some y) (hyl : scope.names.lookup y = some .local ∨ scope.names.lookup y = some .cell) : InB X scope fun Y => PG Y (.Name y p2) (gName j) := fun s H C cl fp =>
  pg_name hN hyi (hyl.imp (fun h => lookup_relS_keep (sc := X.env.scope) (by decide) h) fun h => lookup_relS_keep (sc := X.env.scope) (by decide) h)
    (hyl.elim (fun h => .inr (lookup_relS_keep (sc := X.env.scope) (by decide) h)) fun h => .inl (by
      show (scope.names.lookup y == some NameKind.cell) = true
      rw [h]
      rfl))
theorem map_getD {α : Type} {c : α → PyData} {l : List α} {i : Nat} (h : i < l.length) : (l.map c).getD i .none = c l[i] := by
  rw [List.getD_eq_getElem?_getD, List.getElem?_map, List.getElem?_eq_getElem h]
  rfl
theorem range_pick {α β : Type} (l : List α) (q : α → Bool) (F : α → β) (P : Nat → Bool) (G : Nat → β) (hP : ∀ i (h : i < l.length), P i = q l[i]) (hG : ∀ i (h : i < l.length), G i = F l[i]) : ((List.range l.length).filter P).map G = (l.filter q).map F := by
  induction l generalizing P G with
  | nil => rfl
  | cons x l ih =>
    rw [List.length_cons, List.range_succ_eq_map, List.filter_cons]
    have e := ih (fun i => P (i + 1)) (fun i => G (i + 1)) (fun i h => hP (i + 1) (by simpa using h)) (fun i h => hG (i + 1) (by simpa using h))
    have e2 : ((List.map Nat.succ (List.range l.length)).filter P).map G = (l.filter q).map F := by
      rw [List.filter_map, List.map_map]
      exact e
    have h0 := hP 0 (by simp)
    have g0 := hG 0 (by simp)
    simp only [List.getElem_cons_zero] at h0 g0
    by_cases h : q x = true
    · rw [if_pos (h0.trans h), List.map_cons, e2, g0, List.filter_cons_of_pos h, List.map_cons]
    · rw [if_neg (by rw [h0]; exact h), e2, List.filter_cons_of_neg h]
/-- [elt for y in list if ..], the items c a -/
theorem ve_lcLf (j : Nat) {α : Type} (c : α → PyData) (l : List α) (q : α → Bool) (F : α → PyData) (hN : X.N.Nodup) (L : W.Loc) (hl : l.length ≤ sizeLine) (he : VE g X W ds e (.py (.list (l.map c))))
    (hif : ∀ a, a ∈ l → ∀ D acc, InB X scope fun Y => VTs g Y (W.o1 D (.lst acc)) ((wipeD ds [j]).set j (some (.py (c a)))) ifs (fun b => b = q a))
    (hel : ∀ a, a ∈ l → q a = true → ∀ D acc, InB X scope fun Y => VE g Y (W.o1 D (.lst acc)) ((wipeD ds [j]).set j (some (.py (c a)))) elt (.py (F a)))
    (ok : blkB X.N X.env.scope scope [(y, j)] = true := by rfl) (hc : X.calm = true := by rfl) (hyi : X.N[j]? = some y := by rfl) (hyl : scope.names.lookup y = some .local ∨ scope.names.lookup y = some .cell := by first | exact Or.inl rfl | exact Or.inr rfl)
    (hs : ∀ x, foldedSetIterable e X.env x = pure x := by intro _; rfl) : VE g X W ds (.ListComp elt [⟨.Name y p2, e, ifs, 0⟩] scope pos) (.py (.list ((l.filter q).map F))) := by
  have r := ve_lcIf (pos := pos) (tg := .Name y p2) (own := [(y, j)]) (p := fun i => if h : i < l.length then q l[i] else false) (el := fun i => if h : i < l.length then F l[i] else .none) hc hN L (by rw [List.length_map]; exact hl) (vi_list he) (blk_of ok) (pgI hN hyi hyl)
    (fun i hi D acc s H C cl fp => by
      rw [List.length_map] at hi
      have z := hif l[i] (List.getElem_mem hi) D acc s H C cl fp
      rw [dif_pos hi]
      show VTs g _ _ ((wipeD ds [j]).set j (some (.py ((l.map c).getD i .none)))) ifs _
      rw [map_getD hi]
      exact z)
    (fun i hi hq D acc s H C cl fp => by
      rw [List.length_map] at hi
      rw [dif_pos hi] at hq
      have z := hel l[i] (List.getElem_mem hi) hq D acc s H C cl fp
      rw [dif_pos hi]
      show VE g _ _ ((wipeD ds [j]).set j (some (.py ((l.map c).getD i .none)))) elt _
      rw [map_getD hi]
      exact z) hs
  rw [List.length_map, range_pick l q F _ _ (fun i h => dif_pos h) (fun i h => dif_pos h)] at r
  exact r
theorem ve_lcL (j : Nat) {α : Type} (c : α → PyData) (l : List α) (F : α → PyData) (hN : X.N.Nodup) (L : W.Loc) (hl : l.length ≤ sizeLine) (he : VE g X W ds e (.py (.list (l.map c))))
    (hel : ∀ a, a ∈ l → ∀ D acc, InB X scope fun Y => VE g Y (W.o1 D (.lst acc)) ((wipeD ds [j]).set j (some (.py (c a)))) elt (.py (F a)))
    (ok : blkB X.N X.env.scope scope [(y, j)] = true := by rfl) (hc : X.calm = true := by rfl) (hyi : X.N[j]? = some y := by rfl) (hyl : scope.names.lookup y = some .local ∨ scope.names.lookup y = some .cell := by first | exact Or.inl rfl | exact Or.inr rfl)
    (hs : ∀ x, foldedSetIterable e X.env x = pure x := by intro _; rfl) : VE g X W ds (.ListComp elt [⟨.Name y p2, e, [], 0⟩] scope pos) (.py (.list (l.map F))) :=
  ve_is (ve_lcLf j c l (fun _ => true) F hN L hl he (fun _ _ _ _ _ _ _ _ _ => vts_nil) (fun a h _ => hel a h) ok hc hyi hyl hs) (by rw [List.filter_eq_self.mpr fun _ _ => rfl])
/-- [elt for y in tuple if ..], the items c a -/
theorem ve_lcTf (j : Nat) {α : Type} (c : α → PyData) (l : List α) (q : α → Bool) (F : α → PyData) (hN : X.N.Nodup) (L : W.Loc) (hl : l.length ≤ sizeLine) (he : VE g X W ds e (.py (.tuple (l.map c))))
    (hif : ∀ a, a ∈ l → ∀ D acc, InB X scope fun Y => VTs g Y (W.o1 D (.lst acc)) ((wipeD ds [j]).set j (some (.py (c a)))) ifs (fun b => b = q a))
    (hel : ∀ a, a ∈ l → q a = true → ∀ D acc, InB X scope fun Y => VE g Y (W.o1 D (.lst acc)) ((wipeD ds [j]).set j (some (.py (c a)))) elt (.py (F a)))
    (ok : blkB X.N X.env.scope scope [(y, j)] = true := by rfl) (hc : X.calm = true := by rfl) (hyi : X.N[j]? = some y := by rfl) (hyl : scope.names.lookup y = some .local ∨ scope.names.lookup y = some .cell := by first | exact Or.inl rfl | exact Or.inr rfl)
    (hs : ∀ x, foldedSetIterable e X.env x = pure x := by intro _; rfl) : VE g X W ds (.ListComp elt [⟨.Name y p2, e, ifs, 0⟩] scope pos) (.py (.list ((l.filter q).map F))) := by
  have r := ve_lcIf (pos := pos) (tg := .Name y p2) (own := [(y, j)]) (p := fun i => if h : i < l.length then q l[i] else false) (el := fun i => if h : i < l.length then F l[i] else .none) hc hN L (by rw [List.length_map]; exact hl) (vi_tup he) (blk_of ok) (pgI hN hyi hyl)
    (fun i hi D acc s H C cl fp => by
      rw [List.length_map] at hi
      have z := hif l[i] (List.getElem_mem hi) D acc s H C cl fp
      rw [dif_pos hi]
      show VTs g _ _ ((wipeD ds [j]).set j (some (.py ((l.map c).getD i .none)))) ifs _
      rw [map_getD hi]
      exact z)
    (fun i hi hq D acc s H C cl fp => by
      rw [List.length_map] at hi
      rw [dif_pos hi] at hq
      have z := hel l[i] (List.getElem_mem hi) hq D acc s H C cl fp
      rw [dif_pos hi]
      show VE g _ _ ((wipeD ds [j]).set j (some (.py ((l.map c).getD i .none)))) elt _
      rw [map_getD hi]
      exact z) hs
  rw [List.length_map, range_pick l q F _ _ (fun i h => dif_pos h) (fun i h => dif_pos h)] at r
  exact r
theorem ve_lcT (j : Nat) {α : Type} (c : α → PyData) (l : List α) (F : α → PyData) (hN : X.N.Nodup) (L : W.Loc) (hl : l.length ≤ sizeLine) (he : VE g X W ds e (.py (.tuple (l.map c))))
    (hel : ∀ a, a ∈ l → ∀ D acc, InB X scope fun Y => VE g Y (W.o1 D (.lst acc)) ((wipeD ds [j]).set j (some (.py (c a)))) elt (.py (F a)))
    (ok : blkB X.N X.env.scope scope [(y, j)] = true := by rfl) (hc : X.calm = true := by rfl) (hyi : X.N[j]? = some y := by rfl) (hyl : scope.names.lookup y = some .local ∨ scope.names.lookup y = some .cell := by first | exact Or.inl rfl | exact Or.inr rfl)
    (hs : ∀ x, foldedSetIterable e X.env x = pure x := by intro _; rfl) : VE g X W ds (.ListComp elt [⟨.Name y p2, e, [], 0⟩] scope pos) (.py (.list (l.map F))) :=
  ve_is (ve_lcTf j c l (fun _ => true) F hN L hl he (fun _ _ _ _ _ _ _ _ _ => vts_nil) (fun a h _ => hel a h) ok hc hyi hyl hs) (by rw [List.filter_eq_self.mpr fun _ _ => rfl])
/-- [elt for y in range(..) if ..] -/
theorem ve_lcRf (j : Nat) {rp : Pos} {rpos : Pos} (k : Int) (q : Nat → Bool) (F : Nat → PyData) (hN : X.N.Nodup) (L : W.Loc) (hm : X.mg "range" = none) (hk : k ≤ 100000) (he : VE g X W ds e (.py (.int k)))
    (hif : ∀ i, i < k.toNat → ∀ D acc, InB X scope fun Y => VTs g Y (W.o1 D (.lst acc)) ((wipeD ds [j]).set j (some (.py (.int (i : Nat))))) ifs (fun b => b = q i))
    (hel : ∀ i, i < k.toNat → q i = true → ∀ D acc, InB X scope fun Y => VE g Y (W.o1 D (.lst acc)) ((wipeD ds [j]).set j (some (.py (.int (i : Nat))))) elt (.py (F i)))
    (hk0 : -100000 ≤ k := by omega)
    (ok : blkB X.N X.env.scope scope [(y, j)] = true := by rfl) (hc : X.calm = true := by rfl) (hyi : X.N[j]? = some y := by rfl) (hyl : scope.names.lookup y = some .local ∨ scope.names.lookup y = some .cell := by first | exact Or.inl rfl | exact Or.inr rfl) (hgr : Gl X "range" := by rfl)
    (hst : starEach [e] X.env = [(false, eval e X.env)] := by rfl)
    (hs : ∀ x, foldedSetIterable (.Call (.Name "range" rp) [e] [] rpos) X.env x = pure x := by intro _; rfl) : VE g X W ds (.ListComp elt [⟨.Name y p2, .Call (.Name "range" rp) [e] [] rpos, ifs, 0⟩] scope pos) (.py (.list (((List.range k.toNat).filter q).map F))) :=
  ve_lcIf (own := [(y, j)]) hc hN L (Nat.le_trans (by omega : k.toNat ≤ 100000) (by decide)) (vi_rng1 hgr hm he (by omega) hst) (blk_of ok) (pgI hN hyi hyl) (fun i hi D acc s H C cl fp => hif i hi D acc s H C cl fp) (fun i hi hq D acc s H C cl fp => hel i hi hq D acc s H C cl fp) hs
theorem ve_lcR (j : Nat) {rp : Pos} {rpos : Pos} (k : Int) (F : Nat → PyData) (hN : X.N.Nodup) (L : W.Loc) (hm : X.mg "range" = none) (hk : k ≤ 100000) (he : VE g X W ds e (.py (.int k)))
    (hel : ∀ i, i < k.toNat → ∀ D acc, InB X scope fun Y => VE g Y (W.o1 D (.lst acc)) ((wipeD ds [j]).set j (some (.py (.int (i : Nat))))) elt (.py (F i)))
    (hk0 : -100000 ≤ k := by omega)
    (ok : blkB X.N X.env.scope scope [(y, j)] = true := by rfl) (hc : X.calm = true := by rfl) (hyi : X.N[j]? = some y := by rfl) (hyl : scope.names.lookup y = some .local ∨ scope.names.lookup y = some .cell := by first | exact Or.inl rfl | exact Or.inr rfl) (hgr : Gl X "range" := by rfl)
    (hst : starEach [e] X.env = [(false, eval e X.env)] := by rfl)
    (hs : ∀ x, foldedSetIterable (.Call (.Name "range" rp) [e] [] rpos) X.env x = pure x := by intro _; rfl) : VE g X W ds (.ListComp elt [⟨.Name y p2, .Call (.Name "range" rp) [e] [] rpos, [], 0⟩] scope pos) (.py (.list ((List.range k.toNat).map F))) :=
  ve_is (ve_lcRf j k (fun _ => true) F hN L hm hk he (fun _ _ _ _ _ _ _ _ _ => vts_nil) (fun i h _ => hel i h) hk0 ok hc hyi hyl hgr hst hs) (by rw [List.filter_eq_self.mpr fun _ _ => rfl])
theorem ve_lcR2f (j : Nat) {rp : Pos} {rpos : Pos} (lo hi : Int) (q : Nat → Bool) (F : Nat → PyData) (hN : X.N.Nodup) (L : W.Loc) (hm : X.mg "range" = none) (hk : -100000 ≤ lo ∧ lo ≤ 100000 ∧ -100000 ≤ hi ∧ hi ≤ 100000) (ha : VE g X W ds a (.py (.int lo))) (hb : VE g X W ds b (.py (.int hi)))
    (hif : ∀ i, i < (hi - lo).toNat → ∀ D acc, InB X scope fun Y => VTs g Y (W.o1 D (.lst acc)) ((wipeD ds [j]).set j (some (.py (.int (lo + (i : Nat)))))) ifs (fun b => b = q i))
    (hel : ∀ i, i < (hi - lo).toNat → q i = true → ∀ D acc, InB X scope fun Y => VE g Y (W.o1 D (.lst acc)) ((wipeD ds [j]).set j (some (.py (.int (lo + (i : Nat)))))) elt (.py (F i)))
    (ok : blkB X.N X.env.scope scope [(y, j)] = true := by rfl) (hc : X.calm = true := by rfl) (hyi : X.N[j]? = some y := by rfl) (hyl : scope.names.lookup y = some .local ∨ scope.names.lookup y = some .cell := by first | exact Or.inl rfl | exact Or.inr rfl) (hgr : Gl X "range" := by rfl)
    (hst : starEach [a, b] X.env = [(false, eval a X.env), (false, eval b X.env)] := by rfl) (hst2 : starEach [b] X.env = [(false, eval b X.env)] := by rfl)
    (hs : ∀ x, foldedSetIterable (.Call (.Name "range" rp) [a, b] [] rpos) X.env x = pure x := by intro _; rfl) : VE g X W ds (.ListComp elt [⟨.Name y p2, .Call (.Name "range" rp) [a, b] [] rpos, ifs, 0⟩] scope pos) (.py (.list (((List.range (hi - lo).toNat).filter q).map F))) :=
  ve_lcIf (own := [(y, j)]) hc hN L (Nat.le_trans (by omega : (hi - lo).toNat ≤ 200000) (by decide)) (vi_rng2 hgr hm ha hb (by omega) hst hst2) (blk_of ok) (pgI hN hyi hyl) (fun i hi D acc s H C cl fp => hif i hi D acc s H C cl fp) (fun i hi hq D acc s H C cl fp => hel i hi hq D acc s H C cl fp) hs
end
end My
/-! CoC: chains; len(set(list of tuples)). -/
namespace My
open PySem PySem.Spec PyProof.Rows L2 StX
section
variable {g : Gc} {X : Cx} {W : Wd} {ds : Ds} {e a b c : Expr} {pos p p2 p3 : Pos} {d1 d2 d3 : Da}
/-- a op b op c, both true -/
theorem vt_chain {op op' : CmpOp} {r r' : R2} {k : Bool} (ho : OpR X (compareOp op) r) (ho' : OpR X (compareOp op') r') (h1 : OpD g r d1 d2 (.py (.bool true))) (h2 : OpD g r' d2 d3 (.py (.bool k))) (ha : VE g X W ds a d1) (hb : VE g X W ds b d2) (hc : VE g X W ds c d3)
    (hm : lastMarks [op, op'] [b, c] = false := by with_unfolding_all rfl) : VT g X W ds (.Compare a [op, op'] [b, c] pos) k :=
  PT.imp (pt_chain ho ho' ha hb hc hm) fun σ H Q ⟨p, q⟩ => ⟨p, fun x H1 m1 e1 v1 => ⟨p.go m1 e1, fun y H2 m2 e2 v2 => h1 W.B H2 x y _ (W.al m2) (v1.keep e2) v2 fun z H3 s3 v3 => by
    cases v3
    have m3 := W.mono s3 m2
    have e3 := (e1.trans e2).trans (.of s3)
    refine ⟨true, rfl, iteT ⟨p.go m3 e3, fun u H4 m4 e4 v4 => ?_⟩⟩
    refine h2 W.B H4 y u _ (W.al m4) ((v2.keep (.of s3)).keep e4) v4 fun z H5 s5 v5 => ?_
    cases v5
    exact ⟨k, rfl, q H5 (W.mono s5 m4) ((e3.trans e4).trans (.of s5))⟩⟩⟩
end
section
variable {g : Gc} {X : Cx} {W : Wd} {ds : Ds} {e : Expr} {pos p p2 p3 : Pos} {ts : List (List Int)}
theorem tups_of {B : Addr → Prop} {H : Hp} : ∀ {ts : List (List Int)} {vs : List V}, DqAll B H vs (ts.map TD) → ∃ ks : List (Addr × List Int), ks.map (·.2) = ts ∧ vs = ks.map (fun p => V.ref p.1) ∧ ∀ p ∈ ks, H p.1 = some (.tup (p.2.map V.int))
  | [], _, h => by
    have h : DqAll B H _ [] := h
    cases h
    exact ⟨[], rfl, rfl, fun p hp => by cases hp⟩
  | t :: ts, _, h => by
    have h : DqAll B H _ (TD t :: ts.map TD) := h
    cases h with
    | cons h1 h2 =>
      obtain ⟨ks, k1, k2, k3⟩ := tups_of h2
      cases h1 with
      | @tup a us _ nb hA da =>
        have e := DqAll.ints_eq da
        subst e
        refine ⟨(a, t) :: ks, by rw [List.map_cons, k1], by rw [List.map_cons, k2], fun p hp => ?_⟩
        rcases List.mem_cons.mp hp with q | q
        · rw [q]
          exact hA
        · exact k3 p q
theorem ve_lenSetT {k : Nat} (hr : Room k X.A) (hc : X.calm = true) (hm : X.mg "len" = none) (hm2 : X.mg "set" = none) (he : VE g X W ds e (.py (LT ts))) (hd : ts.Nodup) (hs : ts.length < 64) (hg : Gl X "len" := by rfl) (hg2 : Gl X "set" := by rfl) (na : starEach [e] X.env = (false, eval e X.env) :: starEach [] X.env := by rfl) :
    VE g X W ds (.Call (.Name "len" p) [.Call (.Name "set" p2) [e] [] p3] [] pos) (.py (.int (ts.length : Nat))) := by
  refine ⟨fun pins s σ H Q I ⟨p, q⟩ => Call_ (ld_blt I hg hm PySem.boot_len (callWith_builtin1 (args_cons (Call_ (ld_blt I hg2 hm2 PyProof.Rows.boot_set (callWith_type1 (args_cons (?_ : wpAny _ _ _ _ _ _) na) na rfl))) rfl) rfl rfl))⟩
  refine thn (he.run pins s σ H (fun v H2 => X.calm = true ∧ W.M H2 ∧ Ex W.B H H2 ∧ DV g W.B H2 v (.py (LT ts))) I ⟨p, fun v H2 m x dv => ⟨hc, m, x, dv⟩⟩) ?_
  rintro u s1 ⟨v, H1, I1, rv, -, m, x, dv⟩
  refine args_nil ?_
  cases dv with
  | @lst A us _ nb hA da =>
    obtain ⟨ks, k1, k2, k3⟩ := tups_of da
    subst k2
    have kl : ks.length = ts.length := by rw [← k1, List.length_map]
    cases rv
    obtain ⟨its, r, pl, hz⟩ := I1.list (SqL.of hA)
    refine call_set_tups (P := X.prog) (w := X.w) ks (I1.ok.hd hc) pl.isList (by simpa using refs_of_vals r) (fun p hp => Inv.isT I1 (SqT.of (k3 p hp))) (by omega) (by have := hr.un; omega) fun h2 tk L es ep t R G hk => args_nil ?_
    obtain ⟨o, ho, hx, hdt⟩ := R.ob
    have ec : es.size = ts.length := by
      rw [R.size (s := { s1 with heap := h2, toks := tk })]
      refine Nat.le_antisymm (by rw [← kl]; exact G.len) ?_
      have := card_le hd fun y hy => by
        rw [← k1] at hy
        obtain ⟨p, hp, rfl⟩ := List.mem_map.mp hy
        exact G.all p (by rw [List.take_length]; exact hp)
      rw [List.length_map] at this
      exact this
    have I2 : Inv X pins σ H1 { s1 with heap := h2, toks := tk } := I1.kept hk
    refine call_len_set ho hx hdt (R.fits (s := { s1 with heap := h2, toks := tk })) (by omega) ⟨.int (ts.length : Nat), H1, I2.tok _, ⟨_, by rw [ec]⟩, q _ H1 m x (.int _)⟩
end
end My
/-! CoD: an object in the making. -/
namespace My
open PySem PySem.Spec PyProof.Rows L2 StX
/-- one fact more -/
def Wd.fac (W : Wd) (F : Hp → Prop) (hF : ∀ {H H'}, Same H H' → F H → F H') : Wd where
  B := W.B
  M := fun H => W.M H ∧ F H
  mono := fun s h => ⟨W.mono s h.1, hF s h.2⟩
  al := fun h => W.al h.1
/-- that v is that -/
def Wd.has (W : Wd) (g : Gc) (v : V) (d : Da) : Wd := W.fac (fun H => DV g W.B H v d) fun s h => h.keep (.of s)
theorem Chg.has {g : Gc} {W W' : Wd} {L : Addr} {o o' : HO} {v : V} {d : Da} (c : Chg W W' L o o') (hB : W'.B = W.B) : Chg (W.has g v d) (W'.has g v d) L o o' where
  bl := c.bl
  b1 := c.b1
  b2 := c.b2
  at_ := fun H m => c.at_ H m.1
  up := fun H m => ⟨c.up H m.1, by
    show DV g W'.B (upd H L o') v d
    rw [hB]
    exact DV.keep (c.ex H) m.2⟩
theorem pre_has {g : Gc} {W : Wd} {ds : Ds} {σ : L2.St} {H : Hp} {v : V} {d : Da} (h : DV g W.B H v d ∧ Pre g W ds σ H) : Pre g (W.has g v d) ds σ H := ⟨⟨h.2.1, h.1⟩, h.2.2⟩
theorem dv_int {g : Gc} {B : Addr → Prop} {H : Hp} {v : V} {i : Int} (h : DV g B H v (.py (.int i))) : v = .int i := by
  cases h
  rfl
section
variable {g : Gc} {X : Cx} {W : Wd} {ds : Ds} {e : Expr} {pos p : Pos} {x f : Str} {me C dx : Addr} {fs : List (Str × V)} {v : V} {d : Da}
/-- self.f of the object in the making -/
theorem ve_own (i : Nat) (hd : ds[i]? = some (some (.raw (.ref me)))) (at_ : ∀ H, W.M H → H me = some (.ins C dx fs)) (cl : Cls X.K C) (na : NoAttr X.K C f) (hf : fs.lookup f = some v) (hv : ∀ H, W.M H → DV g W.B H v d)
    (hi : X.N[i]? = some x := by rfl) (hvs : Vis X.env.scope x := by first | exact Or.inl rfl | exact Or.inr (Or.inl rfl) | exact Or.inr (Or.inr rfl)) (hg : (x == ("__debug__" : Str)) = false := by decide) (hcd : (x == ("__classdict__" : Str)) = false := by decide)
    (hb : attributeBase (.Name x p) f X.env (eval (.Name x p) X.env) = eval (.Name x p) X.env := by rfl) : VE g X W ds (.Attribute (.Name x p) f pos) d :=
  PE.imp (pe_fld (ve_var (g := g) (W := W) i hd hi hvs hg hcd) hb) fun σ H Q ⟨p, q⟩ => ⟨p, fun w H2 m e dv => ⟨me, C, dx, fs, v, dv, at_ H2 m, cl, na, hf, q v H2 m e (hv H2 m)⟩⟩
end
end My
/-! CoE: two fors in one comprehension. -/
namespace My
open PySem PySem.Spec PyProof.Rows L2 StX
/-- the elements of the first i turns, and of the first j inner turns of turn i -/
def flat2 (n1 : Nat → Nat) (el : Nat → Nat → PyData) (i : Nat) : List PyData := (List.range i).flatMap fun k => (List.range (n1 k)).map (el k)
theorem flat2_succ (n1 : Nat → Nat) (el : Nat → Nat → PyData) (i : Nat) : flat2 n1 el (i + 1) = flat2 n1 el i ++ (List.range (n1 i)).map (el i) := by
  unfold flat2
  rw [List.range_succ, List.flatMap_append, List.flatMap_singleton]
theorem flat2_add (n1 : Nat → Nat) (el : Nat → Nat → PyData) (i : Nat) : ∀ k, (flat2 n1 el i).length ≤ (flat2 n1 el (i + k)).length
  | 0 => Nat.le_refl _
  | k + 1 => by
    rw [← Nat.add_assoc, flat2_succ, List.length_append]
    exact Nat.le_trans (flat2_add n1 el i k) (Nat.le_add_right _ _)
theorem flat2_le (n1 : Nat → Nat) (el : Nat → Nat → PyData) {i n : Nat} (h : i ≤ n) : (flat2 n1 el i).length ≤ (flat2 n1 el n).length := by
  obtain ⟨k, rfl⟩ := Nat.exists_eq_add_of_le h
  exact flat2_add n1 el i k
structure Made2 (g : Gc) (W : Wd) (D : Addr) (H1 : Hp) (H' : Hp) (acc : List V) (xs : List PyData) : Prop where
  at_ : H' D = some (.lst acc)
  m : W.M H'
  ex : Ex W.B H1 H'
  all : DqAll (W.o1 D (.lst acc)).B H' acc xs
def tI2 (g : Gc) (W : Wd) (ds : Ds) (vs vs1 : List Nat) (n : Nat) (f : Nat → Ds → Ds) (gt1 : TG) (n1 : Nat → Nat) (f1 : Nat → Nat → Ds → Ds) : TI := fun σ H R => ∃ i D acc, i < n ∧ tI g (W.o1 D (.lst acc)) (f i (wipeD ds vs)) gt1 vs1 (n1 i) (f1 i) σ H R
def tE2 (g : Gc) (W : Wd) (ds : Ds) (vs vs1 : List Nat) (n : Nat) (f : Nat → Ds → Ds) (n1 : Nat → Nat) (f1 : Nat → Nat → Ds → Ds) (el : Nat → Nat → PyData) : TE := fun σ H Q => ∃ i j D acc, (i < n ∧ j < n1 i) ∧ tE g (W.o1 D (.lst acc)) (f1 i j (wipeD (f i (wipeD ds vs)) vs1)) (.py (el i j)) σ H Q
theorem lc2_read {g : Gc} {W : Wd} {ds : Ds} {vs vs1 : List Nat} {n : Nat} {f : Nat → Ds → Ds} {gt gt1 : TG} {n1 : Nat → Nat} {f1 : Nat → Nat → Ds → Ds} {el : Nat → Nat → PyData} (L : W.Loc) (hl : (flat2 n1 el n).length ≤ sizeLine) {σ : L2.St} {H : Hp} {Q : VK}
    (p : Pre g W ds σ H) (q : ∀ v H2, W.M H2 → Ex W.B H H2 → DV g W.B H2 v (.py (.list (flat2 n1 el n))) → Q v H2) :
    tLc2 (tI g W ds gt vs n f) gt tYes (tI2 g W ds vs vs1 n f gt1 n1 f1) gt1 tYes (tE2 g W ds vs vs1 n f n1 f1 el) vs vs1 σ H Q := by
  refine ⟨p, fun J H1 m1 e1 src D hD => ?_⟩
  have mk : ∀ o, W.M (upd H1 D o) := fun o => W.mono (same_new hD) m1
  have fr : ∀ a o, H1 a = some o → a ≠ D := fun a o e z => by
    subst z
    exact nn e hD
  have hB' : ∀ a, (W.o1 D (.lst [])).B a → W.B a ∨ H1 a = none := fun a z => (ownB_or z).imp id fun z => by rw [z]; exact hD
  obtain ⟨Kp, so, k1⟩ := src _ hB'
  have exD : ∀ {H' : Hp} {o : HO}, Ex W.B H1 H' → Ex W.B H1 (upd H' D o) := fun {H' o} e a u nb h => by
    rw [upd_ne (fr a u h)]
    exact e a u nb h
  have exK : ∀ {H' : Hp}, Ex W.B H1 H' → Ex (W.o1 D (.lst [])).B H1 H' := fun e => e.mono fun a z => .inl z
  have nbD : ¬ W.B D := Wd.fresh m1 hD
  have lenle : ∀ i, i ≤ n → (flat2 n1 el i).length ≤ (flat2 n1 el n).length := fun i hi => flat2_le n1 el hi
  refine ⟨fun i m H' => m = n - i ∧ i ≤ n ∧ ∃ acc, Made2 g W D H1 H' acc (flat2 n1 el i), ⟨n, by simp, Nat.zero_le _, [], upd_same, mk _, exD (.refl _), .nil⟩, ?_⟩
  rintro i m H' ⟨rfl, hi, acc, M⟩
  have kp := so.keep _ _ (exK M.ex) k1
  by_cases hlt : i < n
  · refine .inr ⟨so.go i H' hlt kp, fun H'' => ∃ acc, Made2 g W D H1 H'' acc (flat2 n1 el (i + 1)), fun H'' z => ⟨n - (i + 1), by omega, rfl, hlt, z⟩, fun x H2 y => ?_⟩
    obtain ⟨sm, tu⟩ := so.turn i H' x H2 hlt kp y
    have e2 : Ex W.B H1 H2 := M.ex.trans (.of sm)
    have s2 : Sl g (W.o1 D (.lst [])).B H2 (wipe σ vs) (wipeD ds vs) := (((p.2.keep e1).ban hB').keep (exK e2)).wipe vs
    refine tu (wipe σ vs) (wipeD ds vs) _ s2 fun σ2 s3 hw => ⟨by rw [hw, wipe_sub fun v hv => hv], ?_⟩
    unfold tYes
    dsimp only
    rw [if_pos rfl]
    have s4 : Sl g (W.o1 D (.lst acc)).B H2 σ2 (f i (wipeD ds vs)) := s3
    refine ⟨i, D, acc, hlt, ⟨o1_mk (W.mono sm M.m) (sm _ _ M.at_), s4⟩, fun J1 H4 m4 e4 src1 => ?_⟩
    obtain ⟨Kp1, so1, k4⟩ := src1 (W.o1 D (.lst acc)).B fun a z => .inl z
    have hD4 : H4 D = some (.lst acc) := o1_at m4
    have ex4 : Ex W.B H1 H4 := fun a u nb h => e4 a u (fun z => (ownB_or z).elim nb (fr a u h)) (e2 a u nb h)
    have all4 : DqAll (W.o1 D (.lst acc)).B H4 acc (flat2 n1 el i) := DqAll.keep e4 _ _ (DqAll.keep (.of sm) _ _ M.all)
    refine ⟨fun j k H5 => k = n1 i - j ∧ j ≤ n1 i ∧ Ex (W.o1 D (.lst acc)).B H4 H5 ∧ ∃ acc', Made2 g W D H1 H5 acc' (flat2 n1 el i ++ (List.range j).map (el i)), ⟨n1 i, by simp, Nat.zero_le _, .refl _, acc, hD4, m4.1, ex4, by simpa using all4⟩, ?_⟩
    rintro j k H5 ⟨rfl, hj, e5, acc5, M5⟩
    have kp5 := so1.keep _ _ e5 k4
    by_cases hjt : j < n1 i
    · refine .inr ⟨so1.go j H5 hjt kp5, fun H'' => Ex (W.o1 D (.lst acc)).B H4 H'' ∧ ∃ acc', Made2 g W D H1 H'' acc' (flat2 n1 el i ++ (List.range (j + 1)).map (el i)), fun H'' z => ⟨n1 i - (j + 1), by omega, rfl, hjt, z⟩, fun x6 H6 y6 => ?_⟩
      obtain ⟨sm6, tu6⟩ := so1.turn j H5 x6 H6 hjt kp5 y6
      have s6 : Sl g (W.o1 D (.lst acc)).B H6 (wipe σ2 vs1) (wipeD (f i (wipeD ds vs)) vs1) := ((s4.keep e4).keep (e5.trans (.of sm6))).wipe vs1
      refine tu6 (wipe σ2 vs1) _ _ s6 fun σ7 s7 hw7 => ⟨by rw [hw7, wipe_sub fun v hv => hv], ?_⟩
      rw [if_pos rfl]
      have s8 : Sl g (W.o1 D (.lst acc5)).B H6 σ7 (f1 i j (wipeD (f i (wipeD ds vs)) vs1)) := s7
      have hD6 : H6 D = some (.lst acc5) := sm6 _ _ M5.at_
      refine ⟨i, j, D, acc5, ⟨hlt, hjt⟩, ⟨o1_mk (W.mono sm6 M5.m) hD6, s8⟩, fun v H7 m7 e7 dv => ?_⟩
      have hD7 : H7 D = some (.lst acc5) := o1_at m7
      have lacc : acc5.length < sizeLine := by
        rw [M5.all.length, List.length_append, List.length_map, List.length_range]
        have := lenle (i + 1) hlt
        rw [flat2_succ, List.length_append, List.length_map, List.length_range] at this
        omega
      have ex7 : Ex W.B H1 H7 := fun a u nb h => e7 a u (fun z => (ownB_or z).elim nb (fr a u h)) ((M5.ex.trans (.of sm6)) a u nb h)
      have kD : Ex (W.o1 D (.lst acc5)).B H7 (upd H7 D (.lst (acc5 ++ [v]))) := fun a u nb h => by
        rw [upd_ne fun z => nb (by rw [z]; exact ownB_at)]
        exact h
      have e8 : Ex (W.o1 D (.lst acc)).B H4 H7 := (e5.trans (.of sm6)).trans e7
      refine ⟨acc5, hD7, lacc, e8.trans kD, acc5 ++ [v], upd_same, L.off m1 hD _ _ m7.1, exD ex7, ?_⟩
      rw [List.range_succ, List.map_append, ← List.append_assoc]
      exact DqAll.append (DqAll.keep kD _ _ (DqAll.keep e7 _ _ (DqAll.keep (.of sm6) _ _ M5.all))) (DqAll.keep kD _ _ (.cons dv .nil))
    · have e : j = n1 i := by omega
      subst e
      refine .inl ⟨so1.stop _ kp5, acc5, ?_⟩
      rw [flat2_succ]
      exact M5
  · have e : i = n := by omega
    subst e
    exact .inl ⟨so.stop _ kp, q _ _ M.m (e1.trans M.ex) (.lst nbD M.at_ (DqAll.weak (fun a z => .inl z) _ _ M.all))⟩
/-- more slots may be forgotten -/
theorem wipe_more {σ σ2 : L2.St} {j k : Nat} (hjk : j ≠ k) (h : wipe σ2 [j] = wipe σ [j]) : wipe σ2 [j, k] = wipe σ [j, k] := by
  have h : σ2.set j none = σ.set j none := h
  show (σ2.set k none).set j none = (σ.set k none).set j none
  rw [List.set_comm _ _ hjk.symm, h, List.set_comm _ _ hjk]
theorem VI.more {g : Gc} {X : Cx} {W : Wd} {ds : Ds} {tg iter : Expr} {gt : TG} {j k n : Nat} {f : Nat → Ds → Ds} (hjk : j ≠ k) (h : VI g X W ds tg iter gt [j] n f) : VI g X W ds tg iter gt [j, k] n f :=
  PI.imp h fun σ H R ⟨p, q⟩ => ⟨p, fun J H1 m e src => q J H1 m e fun B' hB => by
    obtain ⟨Kp, so, k1⟩ := src B' hB
    exact ⟨Kp, ⟨so.keep, so.go, so.stop, fun i H x H' hi kp y => ⟨(so.turn i H x H' hi kp y).1, fun σ ds' Q s q => (so.turn i H x H' hi kp y).2 σ ds' Q s fun σ2 s2 w => q σ2 s2 (wipe_more hjk w)⟩⟩, k1⟩⟩
section
variable {g : Gc} {X : Cx} {W : Wd} {ds : Ds} {a b c elt : Expr} {scope : Scope} {x y z : Str} {pos p p1 p2 p3 p4 p5 p6 p7 : Pos} {rest : List Stmt} {N : SH} {R : V → Hp → Prop}
/-- x = [elt for y in range(c) for z in range(a, b)] to a plain local -/
theorem hs_setLc2 (i j k : Nat) {px : Pos} (n : Int) (lo hi : Nat → Int) (el : Nat → Nat → PyData) (hjk : j ≠ k) (hN : X.N.Nodup) (L : W.Loc) (hm : X.mg "range" = none) (hn : 0 ≤ n ∧ n ≤ 100000) (hb : ∀ i, i < n.toNat → -100000 ≤ lo i ∧ lo i ≤ 100000 ∧ -100000 ≤ hi i ∧ hi i ≤ 100000) (hl : (flat2 (fun i => (hi i - lo i).toNat) el n.toNat).length ≤ sizeLine)
    (hc : VE g X W ds c (.py (.int n)))
    (hab : ∀ i, i < n.toNat → ∀ D acc, InB X scope fun Y => VE g Y (W.o1 D (.lst acc)) ((wipeD ds [j, k]).set j (some (.py (.int (i : Nat))))) a (.py (.int (lo i))) ∧ VE g Y (W.o1 D (.lst acc)) ((wipeD ds [j, k]).set j (some (.py (.int (i : Nat))))) b (.py (.int (hi i))))
    (hel : ∀ i m, i < n.toNat → m < (hi i - lo i).toNat → ∀ D acc, InB X scope fun Y => VE g Y (W.o1 D (.lst acc)) ((wipeD ((wipeD ds [j, k]).set j (some (.py (.int (i : Nat))))) [k]).set k (some (.py (.int (lo i + (m : Nat)))))) elt (.py (el i m)))
    (h : HS X (Pre g W (ds.set i (some (.py (.list (flat2 (fun i => (hi i - lo i).toNat) el n.toNat)))))) rest N R)
    (ok : blkB X.N X.env.scope scope [(y, j), (z, k)] = true := by rfl) (hcm : X.calm = true := by rfl) (hyi : X.N[j]? = some y := by rfl) (hzi : X.N[k]? = some z := by rfl)
    (hyl : scope.names.lookup y = some .local ∨ scope.names.lookup y = some .cell := by first | exact Or.inl rfl | exact Or.inr rfl) (hzl : scope.names.lookup z = some .local ∨ scope.names.lookup z = some .cell := by first | exact Or.inl rfl | exact Or.inr rfl)
    (hxi : X.N[i]? = some x := by rfl) (hxl : X.env.scope.names.lookup x = some .local := by rfl) (hgr : Gl X "range" := by rfl) (hgr1 : InB X scope fun Y => Gl Y "range" := by exact fun _ _ _ _ _ => rfl)
    (hst : starEach [c] X.env = [(false, eval c X.env)] := by rfl) (hst1 : InB X scope fun Y => starEach [a, b] Y.env = [(false, eval a Y.env), (false, eval b Y.env)] ∧ starEach [b] Y.env = [(false, eval b Y.env)] := by exact fun _ _ _ _ _ => ⟨rfl, rfl⟩)
    (hsw : swapsWith (.ListComp elt [⟨.Name y p1, .Call (.Name "range" p2) [c] [] p3, [], 0⟩, ⟨.Name z p4, .Call (.Name "range" p5) [a, b] [] p6, [], 0⟩] scope p) (some (.Name x px)) pos.line X.env = pure true := by rfl)
    (hs : ∀ v, foldedSetIterable (.Call (.Name "range" p2) [c] [] p3) X.env v = pure v := by intro _; rfl) (hs1 : ∀ env v, foldedSetIterable (.Call (.Name "range" p5) [a, b] [] p6) env v = pure v := by intro _ _; rfl) :
    HS X (Pre g W ds) (.Assign [.Name x px] (.ListComp elt [⟨.Name y p1, .Call (.Name "range" p2) [c] [] p3, [], 0⟩, ⟨.Name z p4, .Call (.Name "range" p5) [a, b] [] p6, [], 0⟩] scope p) pos :: rest) N R := by
  refine hs_cons (PS.imp (ps_setLc2 (own := [(y, j), (z, k)]) (vs1 := [k]) hcm hN hxi hxl hsw ((vi_rng1 (j := j) hgr hm hc (by omega) hst).more hjk) (blk_of ok) (by simp) (pgI hN hyi hyl) (fun _ _ _ _ _ => pts_nil)
    (wi1 := tI2 g W ds [j, k] [k] n.toNat (fun i ds' => ds'.set j (some (.py (.int (i : Nat))))) (gName k) (fun i => (hi i - lo i).toNat) (fun i m ds' => ds'.set k (some (.py (.int (lo i + (m : Nat)))))))
    (fun s H C cl fp => ⟨fun pins s' σ H' R I ⟨i, D, acc, hi, w⟩ => (vi_rng2 (hgr1 s H C cl fp) hm (hab i hi D acc s H C cl fp).1 (hab i hi D acc s H C cl fp).2 (by have := hb i hi; omega) (hst1 s H C cl fp).1 (hst1 s H C cl fp).2).run pins s' σ H' R I w⟩)
    (pgI hN hzi hzl) (fun _ _ _ _ _ => pts_nil)
    (te := tE2 g W ds [j, k] [k] n.toNat (fun i ds' => ds'.set j (some (.py (.int (i : Nat))))) (fun i => (hi i - lo i).toNat) (fun i m ds' => ds'.set k (some (.py (.int (lo i + (m : Nat)))))) el)
    (fun s H C cl fp => ⟨fun pins s' σ H' Q I ⟨i, m, D, acc, h, w⟩ => (hel i m h.1 h.2 D acc s H C cl fp).run pins s' σ H' Q I w⟩) hs hs1) ?_) h
  rintro D σ H ⟨p, nx, _⟩
  exact lc2_read L hl p fun v H2 m e dv => nx _ _ ⟨m, (p.2.keep e).set dv⟩
end
end My
/-! CoF: comprehensions over pairs; enumerate. -/
namespace My
open PySem PySem.Spec PyProof.Rows L2 StX
section
variable {g : Gc} {X : Cx} {W : Wd} {ds : Ds} {elt e a b : Expr} {ifs : List Expr} {scope : Scope} {y z : Str} {pos p p2 p3 p4 p5 : Pos} {kt : Nat}
theorem ve_pair {x y : PyData} {k : Nat} (ha : VE g X W ds a (.py x)) (hb : VE g X W ds b (.py y)) (h1 : starEach [a, b] X.env = (false, eval a X.env) :: starEach [b] X.env := by rfl) (h2 : starEach [b] X.env = (false, eval b X.env) :: starEach [] X.env := by rfl) : VE g X W ds (.Tuple [a, b] k pos) (.py (.tuple [x, y])) :=
  ve_tup (xs := [x, y]) (va_cons ha (va_cons hb va_nil h2) h1) (by show 2 ≤ sizeLine; decide)
theorem ve_tup1 {x : PyData} {k : Nat} (ha : VE g X W ds a (.py x)) (h1 : starEach [a] X.env = (false, eval a X.env) :: starEach [] X.env := by rfl) : VE g X W ds (.Tuple [a] k pos) (.py (.tuple [x])) :=
  ve_tup (xs := [x]) (va_cons ha va_nil h1) (by show 1 ≤ sizeLine; decide)
theorem pgI2 {j k : Nat} (hcm : X.calm = true) (hN : X.N.Nodup) (hyi : X.N[j]? = some y) (hzi : X.N[k]? = some z) (hyl : scope.names.lookup y = some .local ∨ scope.names.lookup y = some .cell) (hzl : scope.names.lookup z = some .local ∨ scope.names.lookup z = some .cell) :
    InB X scope fun Y => PG Y (.Tuple [.Name y p2, .Name z p3] kt p4) (gTup X.K 2 (gCons (gName j) (gCons (gName k) gNil))) := fun s H C cl fp =>
  pg_tup (n := 2) hcm (pgs_cons (pgI hN hyi hyl s H C cl fp) (pgs_cons (pgI hN hzi hzl s H C cl fp) pgs_nil rfl) rfl) rfl rfl
/-- [elt for y, z in list if ..], the items (c1 a, c2 a) -/
theorem ve_lcPf (j k : Nat) {α : Type} (c1 c2 : α → PyData) (l : List α) (q : α → Bool) (F : α → PyData) (hjk : j ≠ k) (hN : X.N.Nodup) (L : W.Loc) (hl : l.length ≤ sizeLine) (he : VE g X W ds e (.py (.list (l.map fun a => .tuple [c1 a, c2 a]))))
    (hif : ∀ a, a ∈ l → ∀ D acc, InB X scope fun Y => VTs g Y (W.o1 D (.lst acc)) (((wipeD ds [j, k]).set j (some (.py (c1 a)))).set k (some (.py (c2 a)))) ifs (fun b => b = q a))
    (hel : ∀ a, a ∈ l → q a = true → ∀ D acc, InB X scope fun Y => VE g Y (W.o1 D (.lst acc)) (((wipeD ds [j, k]).set j (some (.py (c1 a)))).set k (some (.py (c2 a)))) elt (.py (F a)))
    (ok : blkB X.N X.env.scope scope [(y, j), (z, k)] = true := by rfl) (hc : X.calm = true := by rfl) (hyi : X.N[j]? = some y := by rfl) (hzi : X.N[k]? = some z := by rfl)
    (hyl : scope.names.lookup y = some .local ∨ scope.names.lookup y = some .cell := by first | exact Or.inl rfl | exact Or.inr rfl) (hzl : scope.names.lookup z = some .local ∨ scope.names.lookup z = some .cell := by first | exact Or.inl rfl | exact Or.inr rfl)
    (hs : ∀ x, foldedSetIterable e X.env x = pure x := by intro _; rfl) : VE g X W ds (.ListComp elt [⟨.Tuple [.Name y p2, .Name z p3] kt p4, e, ifs, 0⟩] scope pos) (.py (.list ((l.filter q).map F))) := by
  have he2 : VE g X W ds e (.py (.list ((l.map fun a => (c1 a, c2 a)).map pr2))) := ve_is he (by rw [List.map_map]; rfl)
  have gd : ∀ i (h : i < l.length), (l.map fun a => (c1 a, c2 a)).getD i (.none, .none) = (c1 l[i], c2 l[i]) := fun i h => by
    rw [List.getD_eq_getElem?_getD, List.getElem?_map, List.getElem?_eq_getElem h]
    rfl
  have r := ve_lcIf (pos := pos) (tg := .Tuple [.Name y p2, .Name z p3] kt p4) (own := [(y, j), (z, k)]) (p := fun i => if h : i < l.length then q l[i] else false) (el := fun i => if h : i < l.length then F l[i] else .none) hc hN L (by rw [List.length_map]; exact hl) (vi_list2 (K' := X.K) hjk he2) (blk_of ok) (pgI2 hc hN hyi hzi hyl hzl)
    (fun i hi D acc s H C cl fp => by
      rw [List.length_map] at hi
      have z := hif l[i] (List.getElem_mem hi) D acc s H C cl fp
      rw [dif_pos hi]
      show VTs g _ _ (((wipeD ds [j, k]).set j (some (.py ((l.map fun a => (c1 a, c2 a)).getD i (.none, .none)).1))).set k (some (.py ((l.map fun a => (c1 a, c2 a)).getD i (.none, .none)).2))) ifs _
      rw [gd i hi]
      exact z)
    (fun i hi hq D acc s H C cl fp => by
      rw [List.length_map] at hi
      rw [dif_pos hi] at hq
      have z := hel l[i] (List.getElem_mem hi) hq D acc s H C cl fp
      rw [dif_pos hi]
      show VE g _ _ (((wipeD ds [j, k]).set j (some (.py ((l.map fun a => (c1 a, c2 a)).getD i (.none, .none)).1))).set k (some (.py ((l.map fun a => (c1 a, c2 a)).getD i (.none, .none)).2))) elt _
      rw [gd i hi]
      exact z) hs
  rw [List.length_map, range_pick l q F _ _ (fun i h => dif_pos h) (fun i h => dif_pos h)] at r
  exact r
/-- [elt for y, z in enumerate(list) if ..] -/
theorem ve_lcEf (j k : Nat) {α : Type} (c : α → PyData) (l : List α) (q : Nat → Bool) (F : Nat → PyData) (hjk : j ≠ k) (hN : X.N.Nodup) (L : W.Loc) (hl : l.length ≤ sizeLine) (hm : X.mg "enumerate" = none) (he : VE g X W ds e (.py (.list (l.map c))))
    (hif : ∀ i (h : i < l.length), ∀ D acc, InB X scope fun Y => VTs g Y (W.o1 D (.lst acc)) (((wipeD ds [j, k]).set j (some (.py (.int (i : Nat))))).set k (some (.py (c l[i])))) ifs (fun b => b = q i))
    (hel : ∀ i (h : i < l.length), q i = true → ∀ D acc, InB X scope fun Y => VE g Y (W.o1 D (.lst acc)) (((wipeD ds [j, k]).set j (some (.py (.int (i : Nat))))).set k (some (.py (c l[i])))) elt (.py (F i)))
    (ok : blkB X.N X.env.scope scope [(y, j), (z, k)] = true := by rfl) (hc : X.calm = true := by rfl) (hyi : X.N[j]? = some y := by rfl) (hzi : X.N[k]? = some z := by rfl)
    (hyl : scope.names.lookup y = some .local ∨ scope.names.lookup y = some .cell := by first | exact Or.inl rfl | exact Or.inr rfl) (hzl : scope.names.lookup z = some .local ∨ scope.names.lookup z = some .cell := by first | exact Or.inl rfl | exact Or.inr rfl)
    (hgr : Gl X "enumerate" := by rfl) (hst : starEach [e] X.env = [(false, eval e X.env)] := by rfl)
    (hs : ∀ x, foldedSetIterable (.Call (.Name "enumerate" p) [e] [] p5) X.env x = pure x := by intro _; rfl) : VE g X W ds (.ListComp elt [⟨.Tuple [.Name y p2, .Name z p3] kt p4, .Call (.Name "enumerate" p) [e] [] p5, ifs, 0⟩] scope pos) (.py (.list (((List.range l.length).filter q).map F))) := by
  have r := ve_lcIf (pos := pos) (tg := .Tuple [.Name y p2, .Name z p3] kt p4) (own := [(y, j), (z, k)]) (p := q) (el := F) hc hN L (by rw [List.length_map]; exact hl) (vi_enum (K' := X.K) hgr hm hjk he hst) (blk_of ok) (pgI2 hc hN hyi hzi hyl hzl)
    (fun i hi D acc s H C cl fp => by
      rw [List.length_map] at hi
      have z := hif i hi D acc s H C cl fp
      show VTs g _ _ (((wipeD ds [j, k]).set j (some (.py (.int (i : Nat))))).set k (some (.py ((l.map c).getD i .none)))) ifs _
      rw [map_getD hi]
      exact z)
    (fun i hi hq D acc s H C cl fp => by
      rw [List.length_map] at hi
      have z := hel i hi hq D acc s H C cl fp
      show VE g _ _ (((wipeD ds [j, k]).set j (some (.py (.int (i : Nat))))).set k (some (.py ((l.map c).getD i .none)))) elt _
      rw [map_getD hi]
      exact z) hs
  rw [List.length_map] at r
  exact r
end
/-! the pairs i < j < n -/
def prs (n : Nat) : List (Nat × Nat) := (List.range n).flatMap fun i => (List.range (n - (i + 1))).map fun m => (i, i + 1 + m)
def pI (p : Nat × Nat) : List Int := [(p.1 : Int), (p.2 : Int)]
theorem mem_prs {n : Nat} {p : Nat × Nat} : p ∈ prs n ↔ p.1 < p.2 ∧ p.2 < n := by
  unfold prs
  rw [List.mem_flatMap]
  constructor
  · rintro ⟨i, hi, h⟩
    obtain ⟨m, hm, rfl⟩ := List.mem_map.mp h
    rw [List.mem_range] at hi hm
    dsimp only
    omega
  · rintro ⟨h1, h2⟩
    refine ⟨p.1, List.mem_range.mpr (by omega), List.mem_map.mpr ⟨p.2 - (p.1 + 1), List.mem_range.mpr (by omega), ?_⟩⟩
    have e : p.1 + 1 + (p.2 - (p.1 + 1)) = p.2 := by omega
    rw [e]
theorem flat2_prs (n : Nat) : flat2 (fun i => ((n : Int) - ((i : Int) + 1)).toNat) (fun i m => .tuple [.int (i : Nat), .int ((i : Int) + 1 + (m : Nat))]) n = (prs n).map fun p => TD (pI p) := by
  unfold flat2 prs
  rw [List.map_flatMap]
  congr 1
  funext i
  rw [List.map_map]
  have e : ((n : Int) - ((i : Int) + 1)).toNat = n - (i + 1) := by omega
  dsimp only
  rw [e]
  apply List.map_congr_left
  intro m _
  show _ = PyData.tuple [.int ((i : Nat) : Int), .int ((i + 1 + m : Nat) : Int)]
  rw [Int.natCast_add, Int.natCast_add]
  rfl
theorem flat_len {α : Type} (F : Nat → List α) (b : Nat) : ∀ n, (∀ i, i < n → (F i).length ≤ b) → ((List.range n).flatMap F).length ≤ n * b
  | 0, _ => by simp
  | n + 1, h => by
    rw [List.range_succ, List.flatMap_append, List.flatMap_singleton, List.length_append, Nat.succ_mul]
    exact Nat.add_le_add (flat_len F b n fun i hi => h i (Nat.lt_succ_of_lt hi)) (h n (Nat.lt_succ_self n))
theorem prs_len (n : Nat) : (prs n).length ≤ n * n := flat_len _ n n fun i hi => by
  rw [List.length_map, List.length_range]
  omega
end My
/-! CoG: dict and set comprehensions, the things in them of any kind. -/
namespace My
open PySem PySem.Spec PyProof.Rows L2 StX
abbrev noE : Value → Shared → Prop := fun _ _ => False
abbrev StepK := Env → Addr → (Shared → Prop) → Shared → Prop
/-- what the model does of such a comprehension, by its turn -/
structure Comps (X : Cx) (e tg iter : Expr) (mk : Sem Value) (ob : Obj) (step : StepK) : Prop where
  cl : clausesOf e = [⟨tg, iter, [], 0⟩]
  made : ∀ (s : Shared) (Q : Value → Shared → Prop) (E : Value → Shared → Prop), Q (.ref s.heap.objs.size) { s with heap := s.heap.push ob } → wpAny (model X.prog X.w) X.A mk Q E s
  start : ∀ (ce : Env) (D it : Addr) (R : Result → Shared → Prop) (s : Shared), codeAny (model X.prog X.w) X.A (.compLoop e 0 (.ref it) (.ref D) ce) R s → (∀ (Q : Value → Shared → Prop) (E : Value → Shared → Prop), Q (.ref it) s → wpAny (model X.prog X.w) X.A (pyIter (.ref it)) Q E s) →
    codeAny (model X.prog X.w) X.A (.compStart e 0 (.ref it) (.ref D) ce) R s
  loop : ∀ (ce : Env) (D it : Addr) (R : Result → Shared → Prop) (J : Nat → Shared → Prop), (∀ n s, J n s → wpAny (model X.prog X.w) X.A (pyNext (.ref it)) (fun r s1 => (r = none ∧ R (.ok .next) s1) ∨ ∃ v, r = some v ∧
      wpAny (model X.prog X.w) X.A (letOwnedTupleGo tg (.ref it) v) (fun _ s2 => wpAny (model X.prog X.w) X.A (assign tg ce v) (fun _ s3 => step ce D (fun s4 => ∃ m, m < n ∧ J m s4) s3) noE s2) noE s1) noE s) →
    ∀ n s, J n s → codeAny (model X.prog X.w) X.A (.compLoop e 0 (.ref it) (.ref D) ce) R s
  mono : ∀ ce D (K K' : Shared → Prop) s, step ce D K s → (∀ s, K s → K' s) → step ce D K' s
abbrev TSt := Addr → L2.St → Hp → (Hp → Prop) → Prop
/-- the reading: D the new thing, o0 what it is at first, t a turn's body -/
def tCm (wi : TI) (gt : TG) (o0 : Addr → HO) (t : TSt) (vs : List Nat) : TE := fun σ H Q => wi σ H fun J H1 => ∀ D, H1 D = none → ∃ W : Nat → Nat → Hp → Prop, (∃ m, W 0 m (upd H1 D (o0 D))) ∧ ∀ i m H2, W i m H2 →
  (J.stop i H2 ∧ Q (.ref D) H2) ∨ (J.go i H2 ∧ ∃ Nx : Hp → Prop, (∀ H3, Nx H3 → ∃ m', m' < m ∧ W (i + 1) m' H3) ∧ ∀ x H3, J.yld i H2 x H3 → gt x (wipe σ vs) H3 fun σ4 H4 => wipe σ4 vs = wipe σ vs ∧ t D σ4 H4 Nx)
/-- a turn's body -/
def PB (Y : Cx) (step : StepK) (t : TSt) : Prop := ∀ (pins : List (Addr × Obj)) (D : Addr) (s : Shared) (σ : L2.St) (H : Hp) (Nx : Hp → Prop), Inv Y pins σ H s → t D σ H Nx → step Y.env D (fun s' => ∃ H', Inv Y pins σ H' s' ∧ Nx H') s
theorem comp_core {X : Cx} {pins : List (Addr × Obj)} {s : Shared} {σ : L2.St} {H : Hp} {Q : VK} {e tg iter : Expr} {scope : Scope} {own : List (Str × Nat)} {pos' : Pos} {wi : TI} {gt : TG} {mk : Sem Value} {ob : Obj} {step : StepK} {o0 : Addr → HO} {t : TSt}
    (K : Comps X e tg iter mk ob step) (fresh : ∀ (H2 : Hp) (s2 : Shared), Inv X pins σ H2 s2 → ObjOk X.prog X.w (upd H2 s2.heap.objs.size (o0 s2.heap.objs.size)) (s2.heap.push ob) s2.heap.objs.size (o0 s2.heap.objs.size)) (hob : ob.isFreed = false)
    (hc : X.calm = true) (hN : X.N.Nodup) (I : Inv X pins σ H s) (hi : PI X tg iter wi) (ok : BlkOk X.N X.env.scope scope own) (hg : InB X scope fun Y => PG Y tg gt) (hb : InB X scope fun Y => PB Y step t) (hs : ∀ x, foldedSetIterable iter X.env x = pure x)
    (h : tCm wi gt o0 t (own.map (·.2)) σ H Q) :
    wpAny (model X.prog X.w) X.A (comprehension e scope X.env pos' mk false (eval iter X.env) none) (EP X pins σ Q) X.xe s := by
  have cls : closureFor scope X.env = pure (cloFrom X.env.cells scope.names []) := closure_ok fun y hy e => (ok.free y hy e).elim (fun k => I.ok.has _ (.inl k)) fun k => I.ok.has _ (.inr k)
  refine wpAny_comprehension_free (use := none) K.cl hs cls ok.kind (fun y hy e => (ok.uniq y hy).trans (by rw [e])) (thn (hi.run pins s σ H _ I h) fun xv s1 hx => thn hx ?_)
  rintro itv s2 ⟨it, fp, tn, J, H2, rfl, I2, T, st2, f2, q⟩
  refine K.made s2 _ _ (newEnv_comp ?_)
  obtain ⟨D, hD⟩ : ∃ D, s2.heap.objs.size = D := ⟨_, rfl⟩
  have none2 : H2 D = none := I2.hok.fresh (Nat.le_of_eq hD)
  obtain ⟨Wm, ⟨m0, w0⟩, turn⟩ := q D none2
  obtain ⟨s3, es3⟩ : ∃ s3 : Shared, { s2 with heap := s2.heap.push ob } = s3 := ⟨_, rfl⟩
  have hp3 : s3.heap = s2.heap.push ob := by rw [← es3]
  obtain ⟨H3, eH3⟩ : ∃ H3, upd H2 D (o0 D) = H3 := ⟨_, rfl⟩
  have I3 : Inv X pins σ H3 s3 := by
    rw [← es3, ← eH3]
    refine I2.laid (t' := s2.toks) (fun b o k => Heap.get?_push_of_some _ k) (Nat.le_of_eq hD) ?_
    rw [← hD]
    exact fresh H2 s2 I2
  have lt2 : ∀ b ∈ fp, b < s2.heap.objs.size := fun b hb => let ⟨_, k, _⟩ := T.obj _ _ st2 b hb; Heap.lt_size k
  have f3 : ∀ b ∈ fp, FpOk X pins H3 b ∧ b < s3.heap.objs.size := fun b hb => by
    refine ⟨⟨?_, (f2 b hb).2⟩, by rw [hp3, Heap.size_push]; exact Nat.lt_succ_of_lt (lt2 b hb)⟩
    rw [← eH3, upd_ne (by rw [← hD]; exact Nat.ne_of_lt (lt2 b hb))]
    exact (f2 b hb).1
  have I4 := block_start I3 ok hN f3
  have pg := hg s3 H3 s3.heap.objs.size (cellsFrom (s3.heap.objs.size + 1) scope.names (cloFrom X.env.cells scope.names [])) fp
  have pb := hb s3 H3 s3.heap.objs.size (cellsFrom (s3.heap.objs.size + 1) scope.names (cloFrom X.env.cells scope.names [])) fp
  rw [es3, hD]
  obtain ⟨ce, hce⟩ : ∃ ce, compEnvC scope (cellsFrom (s3.heap.objs.size + 1) scope.names (cloFrom X.env.cells scope.names [])) s3.heap.objs.size X.env = ce := ⟨_, rfl⟩
  have cL : ce.locals = s3.heap.objs.size := by rw [← hce]; rfl
  rw [hce] at I4 pg pb
  obtain ⟨Y, hY⟩ : ∃ Y : Cx, X.blk s3 H3 scope ce fp = Y := ⟨_, rfl⟩
  obtain ⟨s4, es4⟩ : ∃ s4 : Shared, { s3 with heap := pushCells (s3.heap.push { cls := .type "dict", data := .dict #[] }) scope.names } = s4 := ⟨_, rfl⟩
  show codeAny _ _ (.compStart e 0 (.ref it) (.ref D) (compEnvC scope (cellsFrom (s3.heap.objs.size + 1) scope.names (cloFrom X.env.cells scope.names [])) s3.heap.objs.size X.env)) (compPost (model X.prog X.w) X.A X.xe none (EP X pins σ Q) (.ref D) s3.heap.objs.size) { s3 with heap := pushCells (s3.heap.push { cls := .type "dict", data := .dict #[] }) scope.names }
  rw [es4] at I4 ⊢
  rw [hce]
  have st4 : tn 0 s4.heap := T.keep _ _ _ st2 fun b _ o k => by
    rw [← es4]
    exact pushCells_keeps _ _ _ _ (Heap.get?_push_of_some _ (by rw [hp3]; exact Heap.get?_push_of_some _ k))
  have free3 : ∀ b ∈ fp, H3 b = none := fun b hb => (f3 b hb).1.1
  rw [hY] at I4 pg pb
  have Yx : Y.xe = noE := by rw [← hY]
  have Yp : Y.prog = X.prog ∧ Y.w = X.w ∧ Y.A = X.A ∧ Y.env = ce ∧ Y.K = X.K ∧ Y.calm = X.calm := by rw [← hY]; exact ⟨rfl, rfl, rfl, rfl, rfl, rfl⟩
  have fpY : ∀ {σ' : L2.St} {H' : Hp} {s' : Shared}, Inv Y [] σ' H' s' → (∀ b ∈ fp, H' b = none) → ∀ b ∈ fp, FpOk Y [] H' b := fun {σ' H' s'} I' hn b hb => by
    rw [← hY] at I' ⊢
    exact ⟨hn b hb, (I'.ok.exf b hb).1, I'.ok.exfs b hb, .inl hb, fun x c k => (I'.ok.exf b hb).2 x c k, fun p hp => absurd (show p ∈ ([] : List (Addr × Obj)) ++ [] from hp) (by simp)⟩
  refine K.start ce D it _ s4 ?_ fun Q' E' hq => T.self X.A 0 _ _ _ st4 hq
  refine K.loop ce D it _ (fun n s' => ∃ i H', Inv Y [] (wipe σ (own.map (·.2))) H' s' ∧ tn i s'.heap ∧ (∀ b ∈ fp, H' b = none) ∧ Wm i n H') ?_ m0 s4 ⟨0, H3, I4, st4, free3, by rw [← eH3]; exact w0⟩
  rintro n s5 ⟨i, H5, I5, st5, n5, w5⟩
  rcases turn i n H5 w5 with ⟨stop, qq⟩ | ⟨go, Nx, hNx, turn1⟩
  · refine thn (T.done Y Yp.1 Yp.2.1 Yp.2.2.2.2.1 (Yp.2.2.2.2.2.trans hc) i [] s5 _ H5 noE I5 (fpY I5 n5) st5 stop |> fun z => ?_) fun r s6 (z : r = none ∧ Inv Y [] (wipe σ (own.map (·.2))) H5 s6) => .inl ⟨z.1, ?_⟩
    · rw [Yp.2.2.1] at z
      exact z
    · have I6 := z.2
      have I7 : Inv X pins σ H5 s6 := by
        rw [← hY] at I6
        exact I3.call' (ch := fp) I6.os I6.base I6.hok I6.bare fun b hb => ⟨(f3 b hb).1.2.2.2.1, (f3 b hb).1.2.1, (f3 b hb).1.2.2.2.2.1, (f3 b hb).1.2.2.2.2.2⟩
      obtain ⟨m, hn, _⟩ := I6.loc
      rw [Yp.2.2.2.1, cL] at hn
      have fC : FpOk X pins H5 s3.heap.objs.size := I3.fpOk (Nat.le_refl _) (by
        have k : H5 Y.env.locals = none := I6.free
        rw [Yp.2.2.2.1, cL] at k
        exact k)
      obtain ⟨f0, f1, f2', f4, f5, f6⟩ := fC
      exact ⟨m, hn, fun h'' sb => ⟨.ref D, H5, I7.turned (t' := s6.toks) (fun b o hb k => (sb.2 b hb).trans k) f0 f1 f4 f5 f6, rfl, qq⟩⟩
  · have z := T.item Y Yp.1 Yp.2.1 Yp.2.2.2.2.1 (Yp.2.2.2.2.2.trans hc) i [] s5 _ H5 noE I5 (fpY I5 n5) st5 go
    rw [Yp.2.2.1] at z
    refine thn z fun r s6 ⟨u, hr, h6⟩ => .inr ⟨u, hr, thn h6 fun _ s7 ⟨x, H7, I7, r7, y7, st7, n7⟩ => ?_⟩
    have I8 := I7.pinned (fpY I7 n7) (T.obj _ _ st7)
    have a8 := pg.run _ s7 _ H7 x u _ I8 r7 (turn1 x H7 y7)
    rw [Yp.1, Yp.2.1, Yp.2.2.1, Yp.2.2.2.1, Yx] at a8
    refine thn a8 fun _ s8 ⟨σ8, H8, I9, hw8, q8⟩ => ?_
    have b8 := pb _ D s8 σ8 H8 Nx I9 q8
    rw [Yp.2.2.2.1] at b8
    refine K.mono _ _ _ _ _ b8 fun s9 ⟨H9, I10, nx⟩ => ?_
    obtain ⟨m', hm, w'⟩ := hNx H9 nx
    have kept : ∀ b ∈ fp, ∀ o, s7.heap.get? b = some o → s9.heap.get? b = some o ∧ H9 b = none := fun b hb o k =>
      let z := I10.pin (b, o) (List.mem_append_right _ (List.mem_append_right _ (mem_pinsAt hb k)))
      ⟨z.1, z.2.1⟩
    refine ⟨m', hm, i + 1, H9, (I10.unpinned (pins := [])).weak (by rw [← hw8, wipe_length]) (fun j v k => ?_), T.keep _ _ _ st7 fun b hb o k => (kept b hb o k).1, fun b hb => ?_, w'⟩
    · rw [← hw8] at k
      exact (wipe_some k).1
    · obtain ⟨o, k, _⟩ := T.obj _ _ st7 b hb
      exact (kept b hb o k).2
end My
/-! CoH: dict comprehensions by data. -/
namespace My
open PySem PySem.Spec PyProof.Rows L2 StX
theorem comp_read {g : Gc} {W : Wd} {ds : Ds} {gt : TG} {vs : List Nat} {n : Nat} {f : Nat → Ds → Ds} (L : W.Loc) {o0 : Addr → HO} {t : TSt} {d : Da} (Od : Addr → Nat → HO → Hp → Prop)
    (keepO : ∀ D i o H H', Ex (W.o1 D o).B H H' → Od D i o H → Od D i o H') (h0 : ∀ D H, Od D 0 (o0 D) H)
    (ht : ∀ i, i < n → ∀ D o σ H Nx, W.Off D → Pre g (W.o1 D o) (f i (wipeD ds vs)) σ H → Od D i o H → (∀ o' H', W.M H' → Ex (W.o1 D o).B H H' → H' D = some o' → Od D (i + 1) o' H' → Nx H') → t D σ H Nx)
    (hd : ∀ D o H, ¬ W.B D → H D = some o → Od D n o H → DV g W.B H (.ref D) d) {σ : L2.St} {H : Hp} {Q : VK} (p : Pre g W ds σ H) (q : ∀ v H2, W.M H2 → Ex W.B H H2 → DV g W.B H2 v d → Q v H2) :
    tCm (tI g W ds gt vs n f) gt o0 t vs σ H Q := by
  refine ⟨p, fun J H1 m1 e1 src D hD => ?_⟩
  have fr : ∀ a o, H1 a = some o → a ≠ D := fun a o e z => nn (by rw [← z]; exact e) hD
  have hB : ∀ a, (W.o1 D (o0 D)).B a → W.B a ∨ H1 a = none := fun a z => (ownB_or z).imp id fun z => by rw [z]; exact hD
  obtain ⟨Kp, so, k1⟩ := src _ hB
  have exK : ∀ {H' : Hp}, Ex W.B H1 H' → Ex (W.o1 D (o0 D)).B H1 H' := fun e => e.mono fun a z => .inl z
  have nb : ¬ W.B D := Wd.fresh m1 hD
  refine ⟨fun i m H' => m = n - i ∧ i ≤ n ∧ ∃ o, H' D = some o ∧ W.M H' ∧ Ex W.B H1 H' ∧ Od D i o H', ⟨n, by simp, Nat.zero_le _, o0 D, upd_same, W.mono (same_new hD) m1, .of (same_new hD), h0 D _⟩, ?_⟩
  rintro i m H' ⟨rfl, hi, o, at1, m2, e2, od⟩
  have kp := so.keep _ _ (exK e2) k1
  by_cases hlt : i < n
  · refine .inr ⟨so.go i H' hlt kp, fun H'' => ∃ o, H'' D = some o ∧ W.M H'' ∧ Ex W.B H1 H'' ∧ Od D (i + 1) o H'', fun H'' z => ⟨n - (i + 1), by omega, rfl, hlt, z⟩, fun x H3 y => ?_⟩
    obtain ⟨sm, tu⟩ := so.turn i H' x H3 hlt kp y
    have s2 : Sl g (W.o1 D (o0 D)).B H3 (wipe σ vs) (wipeD ds vs) := (((p.2.keep e1).ban hB).keep (exK (e2.trans (.of sm)))).wipe vs
    refine tu (wipe σ vs) _ _ s2 fun σ4 s4 hw => ⟨by rw [hw, wipe_sub fun v hv => hv], ?_⟩
    have s5 : Sl g (W.o1 D o).B H3 σ4 (f i (wipeD ds vs)) := s4
    refine ht i hlt D o σ4 H3 _ (L.off m1 hD) ⟨o1_mk (W.mono sm m2) (sm _ _ at1), s5⟩ (keepO D i o _ _ (.of sm) od) fun o' H5 m5 e5 at5 od5 => ?_
    exact ⟨o', at5, m5, fun a u na h => e5 a u (fun z => (ownB_or z).elim na (fr a u h)) ((e2.trans (.of sm)) a u na h), od5⟩
  · have e : i = n := by omega
    subst e
    exact .inl ⟨so.stop _ kp, q _ _ m2 (e1.trans e2) (hd D o H' nb at1 od)⟩

/-! ### dicts -/
section
variable {X : Cx}
def stepD (X : Cx) (kx vx : Expr) : StepK := fun ce D K s => wpAny (model X.prog X.w) X.A (eval kx ce) (fun kv s1 => wpAny (model X.prog X.w) X.A (eval vx ce) (fun vv s2 => wpAny (model X.prog X.w) X.A (dictSet D kv vv) (fun _ s3 => K s3) noE s2) noE s1) noE s
theorem comps_dict {kx vx tg iter : Expr} {scope : Scope} {pos : Pos} : Comps X (.DictComp kx vx [⟨tg, iter, [], 0⟩] scope pos) tg iter newDict { cls := .type "dict", data := .dict #[] } (stepD X kx vx) where
  cl := rfl
  made := fun s Q E h => wpAny_newObj_type h
  start := fun ce D it R s h q => codeAny_compStart_dict h (q _ _ h)
  loop := fun ce D it R J turn n s h => compLoop_anyD J (fun n s j => thnF (turn n s j) fun r s1 h1 => by
    rcases h1 with ⟨rfl, h1⟩ | ⟨v, rfl, h1⟩
    · exact h1
    · exact thnF h1 fun _ s2 h2 => thnF h2 fun _ s3 h3 => wpAny_tests_nil (by
        rw [if_pos rfl]
        exact thnF h3 fun _ s4 h4 => thnF h4 fun _ s5 h5 => thnF h5 fun _ s6 h6 => h6)) n h
  mono := fun ce D K K' s h k => thn h fun _ _ h1 => thn h1 fun _ _ h2 => thn h2 fun _ s3 h3 => k s3 h3
/-- k into a dict of tuples -/
theorem t_dictSet {pins : List (Addr × Obj)} {σ : L2.St} {H : Hp} {s : Shared} {E : Value → Shared → Prop} {D b : Addr} {kvs : List (List Key × V)} {k : List Key} {v : V} {r : Value} {Q : Unit → Shared → Prop} (hu : X.A.units + 1 < cLine) (I : Inv X pins σ H s) (hD : H D = some (.dT kvs)) (hb : H b = some (.tup (k.map kV))) (hz : kvs.length < sizeLine)
    (rv : RelV v r) (h : ∀ s', Inv X pins σ (upd H D (.dT (putK kvs k v))) s' → Q () s') : wpAny (model X.prog X.w) X.A (dictSet D (.ref b) r) Q E s := by
  obtain ⟨z, nd, xs, rel, dd⟩ := dt_of I.hok hD
  have hl : (putK kvs k v).length ≤ sizeLine := Nat.le_trans (length_putK kvs k v) hz
  refine wpAny_dictSet_heap (knd := tupleKind (mixKind X.prog X.w)) (show X.A.units < cLine by omega) (key_of I.hok hb) dd (fun h2 dd2 hs => h _ ?_) (by rw [← Paired.length rel]; exact z)
  obtain ⟨q, es, ep, hq, p2, p3, p4, _, p5⟩ := dd2
  refine d_write I (by rw [hD]; exact True.intro) hs ⟨q, hq⟩ ⟨hl, nd, _, (rel.put k hb rv).keeps fun c ys ec => ?_, q, es, ep, hq, p2, p3, p4, p5⟩
  rw [upd_ne (ne_of ec hD fun z => nomatch z)]
  exact ec
end
theorem putK_new {κ : Type} [DecidableEq κ] {kvs : List (κ × V)} {k : κ} {v : V} (h : k ∉ kvs.map (·.1)) : putK kvs k v = kvs ++ [(k, v)] := by
  unfold putK
  rw [if_neg]
  intro e
  obtain ⟨p, hp, q⟩ := List.any_eq_true.mp e
  exact h (List.mem_map.mpr ⟨p, hp, of_decide_eq_true q⟩)
theorem kV_ints (t : List Int) : (t.map Sum.inl : List Key).map kV = t.map V.int := by
  rw [List.map_map]
  rfl
section
variable {g : Gc} {X : Cx} {W : Wd} {ds : Ds} {e kx vx : Expr} {scope : Scope} {y : Str} {pos p2 : Pos}
/-- {y: v for y in tuple}, the tuple's items tuples of ints -/
theorem ve_dcT (j : Nat) {k : Nat} (ts : List (List Int)) (c : PyData) (hr : Room k X.A) (hN : X.N.Nodup) (L : W.Loc) (hn : ts.Nodup) (hl : ts.length ≤ sizeLine) (he : VE g X W ds e (.py (QT ts)))
    (hk : ∀ t, t ∈ ts → ∀ D o, InB X scope fun Y => VE g Y (W.o1 D o) ((wipeD ds [j]).set j (some (.py (TD t)))) kx (.py (TD t)))
    (hv : ∀ t, t ∈ ts → ∀ D o, InB X scope fun Y => VE g Y (W.o1 D o) ((wipeD ds [j]).set j (some (.py (TD t)))) vx (.py c))
    (ok : blkB X.N X.env.scope scope [(y, j)] = true := by rfl) (hc : X.calm = true := by rfl) (hyi : X.N[j]? = some y := by rfl) (hyl : scope.names.lookup y = some .local ∨ scope.names.lookup y = some .cell := by first | exact Or.inl rfl | exact Or.inr rfl)
    (hs : ∀ x, foldedSetIterable e X.env x = pure x := by intro _; rfl) : VE g X W ds (.DictComp kx vx [⟨.Name y p2, e, [], 0⟩] scope pos) (.dT (ts.map fun t => t.map Sum.inl)) := by
  have hgetD : ∀ i (h : i < ts.length), (ts.map TD).getD i .none = TD ts[i] := fun i h => map_getD h
  let t : TSt := fun D σ H Nx => ∃ i o kvs, i < ts.length ∧ o = HO.dT kvs ∧ Pre g (W.o1 D o) ((wipeD ds [j]).set j (some (.py (TD (ts.getD i []))))) σ H ∧ kvs.length < sizeLine ∧ (ts.getD i []).map Sum.inl ∉ kvs.map (·.1) ∧
    ∀ v H', W.M H' → Ex (W.o1 D o).B H H' → (∀ a, H' a ≠ none ∨ True) → Nx (upd H' D (.dT (kvs ++ [((ts.getD i []).map Sum.inl, v)])))
  have hb : InB X scope fun Y => PB Y (stepD X kx vx) t := by
    intro s H C cl fp pins D s' σ' H' Nx I ⟨i, o, kvs, hi, ho, p, hz, hnew, q⟩
    have hti : ts.getD i [] ∈ ts := by
      rw [List.getD_eq_getElem?_getD, List.getElem?_eq_getElem hi]
      exact List.getElem_mem hi
    refine thn ((hk _ hti D o s H C cl fp).run pins s' σ' H' _ I ⟨p, fun v1 H2 m2 e2 d2 => (⟨m2, e2, d2⟩ : (W.o1 D o).M H2 ∧ Ex (W.o1 D o).B H' H2 ∧ DV g (W.o1 D o).B H2 v1 (.py (TD (ts.getD i []))))⟩) fun u1 s2 ⟨v1, H2, I2, r1, m2, e2, d2⟩ => ?_
    refine thn ((hv _ hti D o s H C cl fp).run pins s2 σ' H2 _ I2 ⟨p.go m2 e2, fun v2 H3 m3 e3 d3 => (⟨m3, e3⟩ : (W.o1 D o).M H3 ∧ Ex (W.o1 D o).B H2 H3)⟩) fun u2 s3 ⟨v2, H3, I3, r2, m3, e3⟩ => ?_
    have d2 := DV.keep e3 d2
    cases d2 with
    | @tup b us _ nb hA da =>
      have eu := DqAll.ints_eq da
      subst eu
      cases r1
      have hD : H3 D = some (.dT kvs) := by rw [← ho]; exact o1_at m3
      refine t_dictSet (X := X.blk s H scope (compEnvC scope cl C X.env) fp) (v := v2) (by have := hr.un; show X.A.units + 1 < cLine; omega) I3 hD (by rw [kV_ints]; exact hA) hz r2 fun s4 I4 => ⟨_, I4, ?_⟩
      rw [putK_new hnew]
      exact q v2 H3 m3.1 (e2.trans e3) fun _ => .inr trivial
  refine ⟨fun pins s σ H Q I ⟨p, q⟩ => ?_⟩
  rw [arm_eval_DictComp]
  refine comp_core (own := [(y, j)]) (o0 := fun _ => .dT []) (t := t) comps_dict (fun H2 s2 I2 => dt_empty s2.heap I2.big) rfl hc hN I (vi_tup (W := W) (ds := ds) (j := j) he) (blk_of ok) (pgI hN hyi hyl) hb hs ?_
  refine comp_read (d := .dT (ts.map fun t => t.map Sum.inl)) L (fun D i o H => i ≤ ts.length ∧ ∃ kvs : List (List Key × V), o = .dT kvs ∧ kvs.map (·.1) = (ts.take i).map fun t => t.map Sum.inl) (fun D i o H H' _ h => h) (fun D H => ⟨Nat.zero_le _, [], rfl, by simp⟩) ?_ ?_ p q
  · rintro i hi D o σ' H' Nx off p' ⟨_, kvs, rfl, ek⟩ nx
    rw [List.length_map] at hi
    have et : ts.getD i [] = ts[i] := by rw [List.getD_eq_getElem?_getD, List.getElem?_eq_getElem hi]; rfl
    have kl : kvs.length = i := by
      have := congrArg List.length ek
      rw [List.length_map, List.length_map, List.length_take, Nat.min_eq_left (Nat.le_of_lt hi)] at this
      exact this
    refine ⟨i, _, kvs, hi, rfl, ?_, by omega, ?_, fun v H2 m2 e2 _ => ?_⟩
    · rw [et, ← hgetD i hi]
      exact p'
    · rw [ek, et]
      intro h
      obtain ⟨t', ht', e'⟩ := List.mem_map.mp h
      have et' : t' = ts[i] := List.map_inj_right (fun a b h => Sum.inl.inj h) |>.mp e'
      rw [et'] at ht'
      obtain ⟨m, hm, em⟩ := List.mem_iff_getElem.mp ht'
      rw [List.getElem_take] at em
      rw [List.length_take] at hm
      have := (List.getElem_inj hn).mp em
      omega
    · refine nx _ _ (off _ _ m2) (fun a u na h => ?_) upd_same ⟨hi, _, rfl, ?_⟩
      · rw [upd_ne fun z => na (by rw [z]; exact ownB_at)]
        exact e2 a u na h
      · rw [List.map_append, ek, et, List.take_add_one, List.getElem?_eq_getElem hi, List.map_append]
        rfl
  · rintro D o H' nb at1 ⟨_, kvs, rfl, ek⟩
    refine ⟨D, kvs, rfl, nb, at1, ?_⟩
    rw [ek, List.length_map, List.take_length]
end
end My
/-! CoI: dicts by data; pairs of names. -/
namespace My
open PySem PySem.Spec PyProof.Rows L2 StX
section
variable {g : Gc} {X : Cx} {W : Wd} {ds : Ds} {e a b o c kx vx : Expr} {scope : Scope} {y z x : Str} {pos p p2 p3 p4 p5 apos : Pos} {k : Nat}
/-- t not in d, d a dict whose keys are tuples of ints -/
theorem vt_dnin {t : List Int} {ts : List (List Int)} (hr : Room k X.A) (ha : VE g X W ds a (.py (TD t))) (hb : VE g X W ds b (.dT (ts.map fun t => t.map Sum.inl))) (hm : behindInMarks .NotIn b = false := by first | rfl | with_unfolding_all rfl) : VT g X W ds (.Compare a [.NotIn] [b] pos) (!decide (t ∈ ts)) :=
  PT.imp (pt_cmp (pc_dnotin (by have := hr.un; omega) ha hb) hm) fun _ _ Q ⟨p, q⟩ => ⟨p, fun v H1 m1 e1 d1 => ⟨p.go m1 e1, fun u H2 m2 e2 ⟨A, ps, h1, h2, h3, h4⟩ => by
    have d1 := DV.keep e2 d1
    cases d1 with
    | @tup B us _ nb hA da =>
      have eu := DqAll.ints_eq da
      subst eu
      refine ⟨A, _, h1, .inr ⟨ps, t.map Sum.inl, B, .inl h3, rfl, by rw [kV_ints]; exact hA, rfl⟩, _, rfl, ?_⟩
      have ev : (valV ps (t.map Sum.inl)).isSome = decide (t ∈ ts) := by
        rw [← valV_any]
        by_cases h : t ∈ ts
        · rw [decide_eq_true h]
          have : t.map Sum.inl ∈ ps.map (·.1) := by rw [h4]; exact List.mem_map.mpr ⟨t, h, rfl⟩
          obtain ⟨kv, hk, ek⟩ := List.mem_map.mp this
          exact List.any_eq_true.mpr ⟨kv, hk, decide_eq_true ek⟩
        · rw [decide_eq_false h]
          refine List.any_eq_false.mpr fun kv hk ek => h ?_
          have ek := of_decide_eq_true ek
          have : t.map Sum.inl ∈ ps.map (·.1) := List.mem_map.mpr ⟨kv, hk, ek⟩
          rw [h4] at this
          obtain ⟨t', ht', et⟩ := List.mem_map.mp this
          have : t' = t := (List.map_inj_right fun a b h => Sum.inl.inj h).mp et
          exact this ▸ ht'
      rw [ev]
      exact q H2 m2 (e1.trans e2)⟩⟩
def lkp (kvs : List (Int × PyData)) (i : Int) : Option PyData := (kvs.find? fun kv => decide (kv.1 = i)).map (·.2)
theorem lkp_val {B : Addr → Prop} {H : Hp} {ps : List (L2.Key × V)} {kvs : List (Int × PyData)} (h : Paired (fun (p : L2.Key × V) (q : Int × PyData) => p.1 = Sum.inl q.1 ∧ Dq B H p.2 q.2) ps kvs) (i : Int) :
    (valV ps (Sum.inl i) = none ∧ lkp kvs i = none) ∨ ∃ v d, valV ps (Sum.inl i) = some v ∧ lkp kvs i = some d ∧ Dq B H v d := by
  induction h with
  | nil => exact .inl ⟨rfl, rfl⟩
  | @cons p q ps kvs h t ih =>
    by_cases e : q.1 = i
    · refine .inr ⟨p.2, q.2, ?_, ?_, h.2⟩
      · exact valV_pos (by rw [h.1, e])
      · unfold lkp
        rw [List.find?_cons_of_pos (by simpa using e)]
        rfl
    · have e1 : valV (p :: ps) (Sum.inl i) = valV ps (Sum.inl i) := valV_neg fun z => e (by rw [h.1] at z; exact Sum.inl.inj z)
      have e2 : lkp (q :: kvs) i = lkp kvs i := by
        unfold lkp
        rw [List.find?_cons_of_neg (by simpa using e)]
      rw [e1, e2]
      exact ih
/-- d.get(i, z), d a dict with int keys -/
theorem ve_dget2 {i : Int} {kvs : List (Int × PyData)} {dz : PyData} (hr : Room k X.A) (ho : VE g X W ds o (.dK kvs)) (he : VE g X W ds e (.py (.int i))) (hf : VE g X W ds c (.py dz)) (m : M2 X o "get" apos e c pos := by exact ⟨rfl, rfl, rfl, rfl⟩) :
    VE g X W ds (.Call (.Attribute o "get" apos) [e, c] [] pos) (.py ((lkp kvs i).getD dz)) :=
  PE.imp (pe_dget2 (by have := hr.un; omega) ho he hf m) fun _ _ Q ⟨p, q⟩ => ⟨p, fun v H1 m1 e1 ⟨A, ps, h1, h2, h3, h4⟩ => ⟨A, h1, .inl ⟨ps, .inl h3⟩, p.go m1 e1, fun u H2 m2 e2 d2 => ⟨p.go m2 (e1.trans e2), fun w H3 m3 e3 d3 => by
    have h3' : H3 A = some (.dK ps) := (e2.trans e3) _ _ h2 h3
    have h4' := L2.Paired.mapP h4 fun p q z => (⟨z.1, Dq.keep (e2.trans e3) _ _ z.2⟩ : p.1 = Sum.inl q.1 ∧ Dq W.B H3 p.2 q.2)
    cases d2
    refine ⟨_, .inl ⟨ps, Sum.inl i, .inl h3', rfl, rfl⟩, ?_⟩
    rcases lkp_val h4' i with ⟨k1, k2⟩ | ⟨v', d', k1, k2, k3⟩
    · rw [k1]
      rw [k2] at q
      exact q _ H3 m3 ((e1.trans e2).trans e3) d3
    · rw [k1]
      rw [k2] at q
      exact q _ H3 m3 ((e1.trans e2).trans e3) k3⟩⟩⟩
/-- {kx: vx for y, z in enumerate(list)}: the keys ints that differ -/
theorem ve_dcK (j l : Nat) {α : Type} (cc : α → PyData) (L' : List α) (kf : Nat → Int) (vf : Nat → PyData) (hjl : j ≠ l) (hN : X.N.Nodup) (L : W.Loc) (hl : L'.length ≤ sizeLine) (hm : X.mg "enumerate" = none) (he : VE g X W ds e (.py (.list (L'.map cc)))) (hnd : ∀ i i', i < i' → i' < L'.length → kf i ≠ kf i')
    (hk : ∀ i (h : i < L'.length), ∀ D o, InB X scope fun Y => VE g Y (W.o1 D o) (((wipeD ds [j, l]).set j (some (.py (.int (i : Nat))))).set l (some (.py (cc L'[i])))) kx (.py (.int (kf i))))
    (hv : ∀ i (h : i < L'.length), ∀ D o, InB X scope fun Y => VE g Y (W.o1 D o) (((wipeD ds [j, l]).set j (some (.py (.int (i : Nat))))).set l (some (.py (cc L'[i])))) vx (.py (vf i)))
    (ok : blkB X.N X.env.scope scope [(y, j), (z, l)] = true := by rfl) (hc : X.calm = true := by rfl) (hyi : X.N[j]? = some y := by rfl) (hzi : X.N[l]? = some z := by rfl)
    (hyl : scope.names.lookup y = some .local ∨ scope.names.lookup y = some .cell := by first | exact Or.inl rfl | exact Or.inr rfl) (hzl : scope.names.lookup z = some .local ∨ scope.names.lookup z = some .cell := by first | exact Or.inl rfl | exact Or.inr rfl)
    (hgr : Gl X "enumerate" := by rfl) (hst : starEach [e] X.env = [(false, eval e X.env)] := by rfl) {kt : Nat}
    (hs : ∀ x, foldedSetIterable (.Call (.Name "enumerate" p) [e] [] p5) X.env x = pure x := by intro _; rfl) :
    VE g X W ds (.DictComp kx vx [⟨.Tuple [.Name y p2, .Name z p3] kt p4, .Call (.Name "enumerate" p) [e] [] p5, [], 0⟩] scope pos) (.dK ((List.range L'.length).map fun i => (kf i, vf i))) := by
  let t : TSt := fun D σ H Nx => ∃ i o kvs, i < L'.length ∧ o = HO.dK kvs ∧ Pre g (W.o1 D o) (((wipeD ds [j, l]).set j (some (.py (.int (i : Nat))))).set l (some (.py ((L'.map cc).getD i .none)))) σ H ∧ kvs.length < sizeLine ∧ Sum.inl (kf i) ∉ kvs.map (·.1) ∧
    ∀ v H', W.M H' → Ex (W.o1 D o).B H H' → Dq (W.o1 D o).B H' v (vf i) → Nx (upd H' D (.dK (kvs ++ [(Sum.inl (kf i), v)])))
  have hb : InB X scope fun Y => PB Y (stepD X kx vx) t := by
    intro s H C cl fp pins D s' σ' H' Nx I ⟨i, o, kvs, hi, ho, p, hz, hnew, q⟩
    rw [map_getD hi] at p
    refine thn ((hk i hi D o s H C cl fp).run pins s' σ' H' _ I ⟨p, fun v1 H2 m2 e2 d2 => (⟨m2, e2, d2⟩ : (W.o1 D o).M H2 ∧ Ex (W.o1 D o).B H' H2 ∧ DV g (W.o1 D o).B H2 v1 (.py (.int (kf i))))⟩) fun u1 s2 ⟨v1, H2, I2, r1, m2, e2, d2⟩ => ?_
    refine thn ((hv i hi D o s H C cl fp).run pins s2 σ' H2 _ I2 ⟨p.go m2 e2, fun v2 H3 m3 e3 d3 => (⟨m3, e3, d3⟩ : (W.o1 D o).M H3 ∧ Ex (W.o1 D o).B H2 H3 ∧ DV g (W.o1 D o).B H3 v2 (.py (vf i)))⟩) fun u2 s3 ⟨v2, H3, I3, r2, m3, e3, d3⟩ => ?_
    have e1 := dv_int d2
    subst e1
    have hD : H3 D = some (.dK kvs) := by rw [← ho]; exact o1_at m3
    refine d_dictSet (X := X.blk s H scope (compEnvC scope cl C X.env) fp) (k := Sum.inl (kf i)) (v := v2) I3 hD hz r1 r2 fun s4 I4 => ⟨_, I4, ?_⟩
    rw [putK_new hnew]
    exact q v2 H3 m3.1 (e2.trans e3) d3
  refine ⟨fun pins s σ H Q I ⟨p, q⟩ => ?_⟩
  rw [arm_eval_DictComp]
  refine comp_core (own := [(y, j), (z, l)]) (o0 := fun _ => .dK []) (t := t) comps_dict (fun H2 s2 I2 => dk_empty s2.heap I2.big) rfl hc hN I (vi_enum (W := W) (ds := ds) (j := j) (k := l) (K' := X.K) hgr hm hjl he hst) (blk_of ok) (pgI2 hc hN hyi hzi hyl hzl) hb hs ?_
  refine comp_read (d := .dK ((List.range L'.length).map fun i => (kf i, vf i))) L (fun D i o H => i ≤ L'.length ∧ ∃ kvs : List (L2.Key × V), o = .dK kvs ∧ Paired (fun (p : L2.Key × V) (q : Int × PyData) => p.1 = Sum.inl q.1 ∧ Dq (W.o1 D o).B H p.2 q.2) kvs ((List.range i).map fun i => (kf i, vf i)))
    (fun D i o H H' e ⟨h1, kvs, h2, h3⟩ => ⟨h1, kvs, h2, L2.Paired.mapP h3 fun p q z => ⟨z.1, Dq.keep e _ _ z.2⟩⟩) (fun D H => ⟨Nat.zero_le _, [], rfl, .nil⟩) ?_ ?_ p q
  · rintro i hi D o σ' H' Nx off p' ⟨_, kvs, rfl, ek⟩ nx
    rw [List.length_map] at hi
    have kl : kvs.length = i := by
      have := Paired.length ek
      rw [List.length_map, List.length_range] at this
      exact this
    refine ⟨i, _, kvs, hi, rfl, p', by omega, ?_, fun v H2 m2 e2 dv => ?_⟩
    · intro h
      have key : ∀ {kvs : List (L2.Key × V)} {qs : List (Int × PyData)}, Paired (fun (p : L2.Key × V) (q : Int × PyData) => p.1 = Sum.inl q.1 ∧ Dq (W.o1 D (HO.dK kvs)).B H' p.2 q.2) kvs qs → kvs.map (·.1) = qs.map fun q => Sum.inl q.1 := by
        intro kvs qs h
        generalize (W.o1 D (HO.dK kvs)).B = B at h
        induction h with
        | nil => rfl
        | cons a b ih => rw [List.map_cons, List.map_cons, a.1, ih]
      rw [key ek, List.map_map] at h
      obtain ⟨i', h1, h2⟩ := List.mem_map.mp h
      exact hnd i' i (List.mem_range.mp h1) hi (Sum.inl.inj h2)
    · have e3 : Ex (W.o1 D (HO.dK kvs)).B H2 (upd H2 D (.dK (kvs ++ [(Sum.inl (kf i), v)]))) := fun a u na h => by
        rw [upd_ne fun z => na (by rw [z]; exact ownB_at)]
        exact h
      refine nx _ _ (off _ _ m2) (e2.trans e3) upd_same ⟨hi, _, rfl, ?_⟩
      rw [List.range_succ, List.map_append]
      exact paired_app (L2.Paired.mapP ek fun p q z => ⟨z.1, Dq.keep (e2.trans e3) _ _ z.2⟩) (.cons ⟨rfl, Dq.keep e3 _ _ dv⟩ .nil)
  · rintro D o H' nb at1 ⟨_, kvs, rfl, ek⟩
    rw [List.length_map] at ek
    exact ⟨D, kvs, rfl, nb, at1, L2.Paired.mapP ek fun p q z => ⟨z.1, Dq.weak (fun a z => .inl z) _ _ z.2⟩⟩
end

/-! ### a, b = c, d where a name is captured -/
section
variable {g : Gc} {X : Cx} {W : Wd} {ds : Ds} {a b : Expr} {rest : List Stmt} {pos px py pt pt2 p : Pos} {N : SH} {R : V → Hp → Prop} {d1 d2 : Da} {x y : Str} {kt k2 : Nat}
theorem hs_parC (i j : Nat) (hN : X.N.Nodup) (ha : VA g X W ds [a, b] [d1, d2]) (h : HS X (Pre g W ((ds.set i (some d1)).set j (some d2))) rest N R) (hc : X.calm = true := by rfl)
    (hi : X.N[i]? = some x := by rfl) (hj : X.N[j]? = some y := by rfl) (hx : Loc X.env.scope x := by first | exact Or.inl rfl | exact Or.inr rfl) (hy : Loc X.env.scope y := by first | exact Or.inl rfl | exact Or.inr rfl)
    (hs : swapsWithSole [.Tuple [.Name x px, .Name y py] kt pt] (.Tuple [a, b] k2 pt2) pos.line X.env = pure false := by rfl) (hw : swappedStores [.Tuple [.Name x px, .Name y py] kt pt] (.Tuple [a, b] k2 pt2) X.env = pure none := by rfl)
    (hf : X.fn x = true ∨ X.env.scope.names.lookup x = some .local := by first | exact .inl rfl | exact .inr rfl) (hf2 : X.fn y = true ∨ X.env.scope.names.lookup y = some .local := by first | exact .inl rfl | exact .inr rfl)
    (h1 : (assignEach [.Tuple [.Name x px, .Name y py] kt pt] X.env).map (·.2) = [assign (.Tuple [.Name x px, .Name y py] kt pt) X.env] := by rfl) :
    HS X (Pre g W ds) (.Assign [.Tuple [.Name x px, .Name y py] kt pt] (.Tuple [a, b] k2 pt2) pos :: rest) N R :=
  hs_cons (PS.imp (ps_asg (pe_tup ha) (pg_tup (n := 2) hc (pgs_cons (pg_name hN hi hx hf) (pgs_cons (pg_name hN hj hy hf2) pgs_nil rfl) rfl) rfl rfl) hs hw h1) fun D σ H ⟨p, n, _⟩ => ⟨p, fun vs H2 m e dv => ⟨by rw [dv.length]; exact (by decide : 2 ≤ sizeLine), fun r hr => by
    have s := same_new (o := .tup vs) hr
    cases dv with
    | cons q1 q =>
      cases q with
      | cons q2 q =>
        cases q
        exact ⟨r, _, rfl, SqT.of upd_same, rfl, _, _, rfl, _, _, rfl, rfl, n _ _ ⟨W.mono s m, (((p.2.keep e).keep (.of s)).set (q1.keep (.of s))).set (q2.keep (.of s))⟩⟩⟩⟩) h
/-- a, x = e, [] where a name is captured -/
theorem hs_parOwnC (i j : Nat) (hN : X.N.Nodup) (hL : W.Loc) (ha : VE g X W ds a d1) (h : ∀ L, ¬ W.B L → W.Off L → HS X (Pre g (W.o1 L (.lst [])) ((ds.set i (some d1)).set j (some (.own L [] [])))) rest N R) (hc : X.calm = true := by rfl)
    (hi : X.N[i]? = some x := by rfl) (hj : X.N[j]? = some y := by rfl) (hx : Loc X.env.scope x := by first | exact Or.inl rfl | exact Or.inr rfl) (hy : Loc X.env.scope y := by first | exact Or.inl rfl | exact Or.inr rfl)
    (hs : swapsWithSole [.Tuple [.Name x px, .Name y py] kt pt] (.Tuple [a, .List [] p] k2 pt2) pos.line X.env = pure false := by rfl) (hw : swappedStores [.Tuple [.Name x px, .Name y py] kt pt] (.Tuple [a, .List [] p] k2 pt2) X.env = pure none := by rfl)
    (hf : X.fn x = true ∨ X.env.scope.names.lookup x = some .local := by first | exact .inl rfl | exact .inr rfl) (hf2 : X.fn y = true ∨ X.env.scope.names.lookup y = some .local := by first | exact .inl rfl | exact .inr rfl)
    (h1 : (assignEach [.Tuple [.Name x px, .Name y py] kt pt] X.env).map (·.2) = [assign (.Tuple [.Name x px, .Name y py] kt pt) X.env] := by rfl)
    (hst : starEach [a, .List [] p] X.env = (false, eval a X.env) :: starEach [.List [] p] X.env := by rfl) (hst2 : starEach [.List [] p] X.env = (false, eval (.List [] p) X.env) :: starEach [] X.env := by rfl) :
    HS X (Pre g W ds) (.Assign [.Tuple [.Name x px, .Name y py] kt pt] (.Tuple [a, .List [] p] k2 pt2) pos :: rest) N R := by
  refine hs_cons (N1 := fun σ H => ∃ L, (¬ W.B L ∧ W.Off L) ∧ Pre g (W.o1 L (.lst [])) ((ds.set i (some d1)).set j (some (.own L [] []))) σ H) (PS.imp (ps_asg (pe_tup (pa_cons ha (pa_cons (pe_lst pa_nil) pa_nil hst2) hst)) (pg_tup (n := 2) hc (pgs_cons (pg_name hN hi hx hf) (pgs_cons (pg_name hN hj hy hf2) pgs_nil rfl) rfl) rfl rfl) hs hw h1) ?_) (hs_ex fun L => hs_pure fun z => h L z.1 z.2)
  rintro D σ H ⟨p, n, _⟩
  refine ⟨p, fun v H2 m e dv => ⟨Nat.zero_le _, fun r hr => ⟨(by decide : 2 ≤ sizeLine), fun r2 hr2 => ⟨r2, _, rfl, SqT.of upd_same, rfl, _, _, rfl, _, _, rfl, rfl, ?_⟩⟩⟩⟩
  have s := (same_new (o := .lst []) hr).trans (same_new (o := .tup [v, .ref r]) hr2)
  have nb := Wd.fresh m hr
  have hb : ∀ a, (W.o1 r (.lst [])).B a → W.B a ∨ H2 a = none := fun a z => (ownB_or z).imp id fun z => by rw [z]; exact hr
  have ne : r ≠ r2 := fun z => by
    rw [← z, upd_same] at hr2
    cases hr2
  refine n _ _ ⟨r, ⟨nb, hL.off m hr⟩, o1_mk (W.mono s m) (by rw [upd_ne ne]; exact upd_same), ?_⟩
  have k := ((p.2.keep e).ban hb).keep (.of s)
  exact (k.set ((dv.ban hb).keep (.of s))).set (d := .own r [] []) ⟨rfl, .nil⟩
end
end My
/-! CoJ: fewer facts; small words for loops. -/
namespace My
open PySem PySem.Spec PyProof.Rows L2 StX
/-- ds' says no more than ds -/
inductive LD : Ds → Ds → Prop
  | nil : LD [] []
  | eq {o : Option Da} {a b : Ds} : LD a b → LD (o :: a) (o :: b)
  | no {o : Option Da} {a b : Ds} : LD a b → LD (none :: a) (o :: b)
theorem LD.len {a b : Ds} (h : LD a b) : a.length = b.length := by
  induction h with
  | nil => rfl
  | eq _ ih => rw [List.length_cons, List.length_cons, ih]
  | no _ ih => rw [List.length_cons, List.length_cons, ih]
theorem LD.get {a b : Ds} (h : LD a b) : ∀ (i : Nat) d, a[i]? = some (some d) → b[i]? = some (some d) := by
  induction h with
  | nil => intro i d e; exact e
  | eq _ ih =>
    intro i d e
    cases i with
    | zero => exact e
    | succ i => exact ih i d (by simpa using e)
  | no _ ih =>
    intro i d e
    cases i with
    | zero => simp at e
    | succ i => exact ih i d (by simpa using e)
theorem Pre.less {g : Gc} {W : Wd} {ds ds' : Ds} {σ : L2.St} {H : Hp} (p : Pre g W ds σ H) (h : LD ds' ds) : Pre g W ds' σ H := ⟨p.1, p.2.less h.len h.get⟩
theorem Pre.torel {g : Gc} {W : Wd} {ds : Ds} {σ : L2.St} {H : Hp} (p : Pre g W ds σ H) : Pre g (W.rel H) ds σ H := ⟨⟨p.1, .refl H⟩, p.2⟩
theorem Pre.unrel {g : Gc} {W : Wd} {ds : Ds} {σ : L2.St} {H H1 : Hp} (p : Pre g (W.rel H1) ds σ H) : Pre g W ds σ H := ⟨p.1.1, p.2⟩
end My
/-! CoK: a list of lists of one's own. -/
namespace My
open PySem PySem.Spec PyProof.Rows L2 StX
/-- the outer list at A, the inner ones at as, c q the q-th one's items -/
def smt (A : Addr) (as : List Addr) (c : Nat → List Int) : Addr → HO := fun a => if a = A then .lst (as.map .ref) else .lst ((c (as.idxOf a)).map V.int)
theorem smt_A {A : Addr} {as : List Addr} {c : Nat → List Int} : smt A as c A = .lst (as.map .ref) := if_pos rfl
theorem smt_a {A : Addr} {as : List Addr} {c : Nat → List Int} (hn : as.Nodup) (hA : A ∉ as) {q : Nat} (h : q < as.length) : smt A as c as[q] = .lst ((c q).map V.int) := by
  unfold smt
  rw [if_neg fun e => hA (by rw [← e]; exact List.getElem_mem h), hn.idxOf_getElem q h]
structure Fresh (W : Wd) (A : Addr) (as : List Addr) : Prop where
  nd : as.Nodup
  nA : A ∉ as
  nb : ∀ a ∈ A :: as, ¬ W.B a
  off : ∀ a ∈ A :: as, W.Off a
section
variable {g : Gc} {X : Cx} {W : Wd} {ds : Ds} {e a : Expr} {scope : Scope} {x y z : Str} {pos p p2 p3 p4 p5 px py pt pt2 : Pos} {rest : List Stmt} {N : SH} {R : V → Hp → Prop} {d1 : Da} {kt k2 : Nat}
/-- [[] for z in range(e)] -/
theorem pe_fresh (j : Nat) (k : Int) (hN : X.N.Nodup) (hm : X.mg "range" = none) (hk : k ≤ 100000) (he : VE g X W ds e (.py (.int k))) (hk0 : -100000 ≤ k := by omega)
    (ok : blkB X.N X.env.scope scope [(z, j)] = true := by rfl) (hc : X.calm = true := by rfl) (hyi : X.N[j]? = some z := by rfl) (hyl : scope.names.lookup z = some .local ∨ scope.names.lookup z = some .cell := by first | exact Or.inl rfl | exact Or.inr rfl) (hgr : Gl X "range" := by rfl)
    (hst : starEach [e] X.env = [(false, eval e X.env)] := by rfl) (hs : ∀ x, foldedSetIterable (.Call (.Name "range" p2) [e] [] p3) X.env x = pure x := by intro _; rfl) :
    PE X (.ListComp (.List [] p) [⟨.Name z p4, .Call (.Name "range" p2) [e] [] p3, [], 0⟩] scope pos) fun σ H Q => Pre g W ds σ H ∧ ∀ (A : Addr) (as : List Addr) (H1 H2 : Hp), W.M H1 → Ex W.B H H1 → as.Nodup → A ∉ as → as.length = k.toNat → H1 A = none → (∀ a ∈ as, H1 a = none) → Same H1 H2 → H2 A = some (.lst (as.map .ref)) → (∀ a ∈ as, H2 a = some (.lst [])) → Q (.ref A) H2 := by
  refine PE.imp (pe_lc (own := [(z, j)]) hc hN (vi_rng1 (W := W) (ds := ds) (j := j) hgr hm he (by omega) hst) (blk_of ok) (pgI hN hyi hyl) (fun _ _ _ _ _ => pts_nil) (fun _ _ _ _ _ => pe_lst pa_nil) hs) ?_
  rintro σ H Q ⟨p, q⟩
  refine ⟨p, fun J H1 m1 e1 src D hD => ?_⟩
  obtain ⟨Kp, so, k1⟩ := src (fun _ => False) fun a h => h.elim
  have hsz : k.toNat ≤ sizeLine := Nat.le_trans (show k.toNat ≤ 100000 by omega) (by decide)
  refine ⟨fun i m H' => m = k.toNat - i ∧ i ≤ k.toNat ∧ Same H1 H' ∧ ∃ as : List Addr, as.length = i ∧ as.Nodup ∧ D ∉ as ∧ (∀ a ∈ as, H1 a = none ∧ H' a = some (.lst [])) ∧ H' D = some (.lst (as.map .ref)), ⟨k.toNat, by simp, Nat.zero_le _, same_new hD, [], rfl, List.nodup_nil, by simp, (fun a h => by cases h), upd_same⟩, ?_⟩
  rintro i m H' ⟨rfl, hi, sm, as, h1, h2, h3, h4, h5⟩
  have kp := so.keep _ _ (Ex.of sm) k1
  by_cases hlt : i < k.toNat
  · refine .inr ⟨so.go i H' hlt kp, fun H'' => Same H1 H'' ∧ ∃ as : List Addr, as.length = i + 1 ∧ as.Nodup ∧ D ∉ as ∧ (∀ a ∈ as, H1 a = none ∧ H'' a = some (.lst [])) ∧ H'' D = some (.lst (as.map .ref)), fun H'' z => ⟨k.toNat - (i + 1), by omega, rfl, hlt, z⟩, fun x H2 y => ?_⟩
    obtain ⟨s2, tu⟩ := so.turn i H' x H2 hlt kp y
    refine tu (wipe σ [j]) (List.replicate (wipe σ [j]).length none) _ ⟨by rw [List.length_replicate], fun i d h => by
      rw [List.getElem?_replicate] at h
      split at h <;> cases h⟩ fun σ2 _ hw => ⟨by
        show wipe σ2 [j] = wipe σ [j]
        rw [hw, wipe_sub fun v hv => hv], ?_⟩
    unfold tYes
    dsimp only
    rw [if_pos rfl]
    refine ⟨Nat.zero_le _, fun r hr => ⟨as.map .ref, ?_, ?_, ?_⟩⟩
    · rw [upd_ne (ne_of_none (s2 _ _ h5) hr)]
      exact s2 _ _ h5
    · rw [List.length_map, h1]
      exact Nat.lt_of_lt_of_le hlt hsz
    · have hrD : r ≠ D := fun z => nn (s2 _ _ h5) (by rw [← z]; exact hr)
      have hra : r ∉ as := fun z => nn (s2 _ _ (h4 r z).2) hr
      refine ⟨fun b o hb => ?_, as ++ [r], by rw [List.length_append, h1]; rfl, ?_, ?_, fun a ha => ?_, ?_⟩
      · have hb2 := s2 _ _ (sm b o hb)
        rw [upd_ne fun z => nn hb (by rw [z]; exact hD), upd_ne (ne_of_none hb2 hr)]
        exact hb2
      · rw [List.nodup_append]
        exact ⟨h2, by simp, fun a ha b hb e => hra (by rw [← List.mem_singleton.mp hb, ← e]; exact ha)⟩
      · intro z
        rcases List.mem_append.mp z with z | z
        · exact h3 z
        · exact hrD (List.mem_singleton.mp z).symm
      · rcases List.mem_append.mp ha with z | z
        · refine ⟨(h4 a z).1, ?_⟩
          rw [upd_ne fun e => h3 (by rw [← e]; exact z), upd_ne fun e => hra (by rw [← e]; exact z)]
          exact s2 _ _ (h4 a z).2
        · have e := List.mem_singleton.mp z
          subst e
          refine ⟨?_, by rw [upd_ne hrD]; exact upd_same⟩
          cases eo : H1 a with
          | none => rfl
          | some o => exact (nn (s2 _ _ (sm a o eo)) hr).elim
      · rw [upd_same, List.map_append]
        rfl
  · have e : i = k.toNat := by omega
    subst e
    exact .inl ⟨so.stop _ kp, q D as H1 H' m1 e1 h2 h3 h1 hD (fun a ha => (h4 a ha).1) sm h5 fun a ha => (h4 a ha).2⟩
/-- x, y = a, [[] for z in range(e)] -/
theorem hs_parFresh (i j l : Nat) (k : Int) (hN : X.N.Nodup) (hL : W.Loc) (hm : X.mg "range" = none) (hk : k ≤ 100000) (ha : VE g X W ds a d1) (he : VE g X W ds e (.py (.int k)))
    (h : ∀ A as, as.length = k.toNat → Fresh W A as → HS X (Pre g (W.own (A :: as) (smt A as fun _ => [])) ((ds.set i (some d1)).set j (some (.raw (.ref A))))) rest N R) (hk0 : -100000 ≤ k := by omega)
    (ok : blkB X.N X.env.scope scope [(z, l)] = true := by rfl) (hc : X.calm = true := by rfl) (hzi : X.N[l]? = some z := by rfl) (hzl : scope.names.lookup z = some .local ∨ scope.names.lookup z = some .cell := by first | exact Or.inl rfl | exact Or.inr rfl) (hgr : Gl X "range" := by rfl)
    (hi : X.N[i]? = some x := by rfl) (hj : X.N[j]? = some y := by rfl) (hx : Loc X.env.scope x := by first | exact Or.inl rfl | exact Or.inr rfl) (hy : Loc X.env.scope y := by first | exact Or.inl rfl | exact Or.inr rfl)
    (hs : swapsWithSole [.Tuple [.Name x px, .Name y py] kt pt] (.Tuple [a, .ListComp (.List [] p) [⟨.Name z p4, .Call (.Name "range" p2) [e] [] p3, [], 0⟩] scope p5] k2 pt2) pos.line X.env = pure false := by rfl)
    (hw : swappedStores [.Tuple [.Name x px, .Name y py] kt pt] (.Tuple [a, .ListComp (.List [] p) [⟨.Name z p4, .Call (.Name "range" p2) [e] [] p3, [], 0⟩] scope p5] k2 pt2) X.env = pure none := by rfl)
    (hf : X.fn x = true ∨ X.env.scope.names.lookup x = some .local := by first | exact .inl rfl | exact .inr rfl) (hf2 : X.fn y = true ∨ X.env.scope.names.lookup y = some .local := by first | exact .inl rfl | exact .inr rfl)
    (h1 : (assignEach [.Tuple [.Name x px, .Name y py] kt pt] X.env).map (·.2) = [assign (.Tuple [.Name x px, .Name y py] kt pt) X.env] := by rfl)
    (hst0 : starEach [e] X.env = [(false, eval e X.env)] := by rfl) (hsf : ∀ x, foldedSetIterable (.Call (.Name "range" p2) [e] [] p3) X.env x = pure x := by intro _; rfl)
    (hst : starEach [a, .ListComp (.List [] p) [⟨.Name z p4, .Call (.Name "range" p2) [e] [] p3, [], 0⟩] scope p5] X.env = (false, eval a X.env) :: starEach [.ListComp (.List [] p) [⟨.Name z p4, .Call (.Name "range" p2) [e] [] p3, [], 0⟩] scope p5] X.env := by rfl)
    (hst2 : starEach [.ListComp (.List [] p) [⟨.Name z p4, .Call (.Name "range" p2) [e] [] p3, [], 0⟩] scope p5] X.env = (false, eval (.ListComp (.List [] p) [⟨.Name z p4, .Call (.Name "range" p2) [e] [] p3, [], 0⟩] scope p5) X.env) :: starEach [] X.env := by rfl) :
    HS X (Pre g W ds) (.Assign [.Tuple [.Name x px, .Name y py] kt pt] (.Tuple [a, .ListComp (.List [] p) [⟨.Name z p4, .Call (.Name "range" p2) [e] [] p3, [], 0⟩] scope p5] k2 pt2) pos :: rest) N R := by
  refine hs_cons (N1 := fun σ H => ∃ A as, (as.length = k.toNat ∧ Fresh W A as) ∧ Pre g (W.own (A :: as) (smt A as fun _ => [])) ((ds.set i (some d1)).set j (some (.raw (.ref A)))) σ H)
    (PS.imp (ps_asg (pe_tup (pa_cons ha (pa_cons (pe_fresh (W := W) (ds := ds) l k hN hm hk he hk0 ok hc hzi hzl hgr hst0 hsf) pa_nil hst2) hst)) (pg_tup (n := 2) hc (pgs_cons (pg_name hN hi hx hf) (pgs_cons (pg_name hN hj hy hf2) pgs_nil rfl) rfl) rfl rfl) hs hw h1) ?_) (hs_ex fun A => hs_ex fun as => hs_pure fun z => h A as z.1 z.2)
  rintro D σ H ⟨p, n, _⟩
  refine ⟨p, fun v H2 m e dv => ⟨p.go m e, fun A as H3 H4 m3 e3 k1 k2 k3 k4 k5 k6 k7 k8 => ⟨(by decide : 2 ≤ sizeLine), fun r hr => ⟨r, _, rfl, SqT.of upd_same, rfl, _, _, rfl, _, _, rfl, rfl, ?_⟩⟩⟩⟩
  have hA : ∀ a ∈ A :: as, H3 a = none := fun a ha => (List.mem_cons.mp ha).elim (fun z => by rw [z]; exact k4) (k5 a)
  have hO : ∀ a ∈ A :: as, H4 a = some (smt A as (fun _ => []) a) := fun a ha => by
    rcases List.mem_cons.mp ha with z | z
    · rw [z, smt_A]
      exact k7
    · obtain ⟨q, hq, rfl⟩ := List.mem_iff_getElem.mp z
      rw [smt_a k1 k2 hq]
      exact k8 _ z
  have s5 := k6.trans (same_new (o := .tup [v, .ref A]) hr)
  have hb : ∀ a, (W.own (A :: as) (smt A as fun _ => [])).B a → W.B a ∨ H3 a = none := fun a z => z.imp id (hA a)
  refine n _ _ ⟨A, as, ⟨k3, k1, k2, fun a ha => Wd.fresh m3 (hA a ha), fun a ha => hL.off m3 (hA a ha)⟩, ⟨W.mono s5 m3, fun a ha => ?_⟩, ?_⟩
  · rw [upd_ne (ne_of_none (hO a ha) hr)]
    exact hO a ha
  · have kk := (((p.2.keep e).keep e3).ban hb).keep (.of s5)
    exact (kk.set (((dv.keep e3).ban hb).keep (.of s5))).set (d := .raw (.ref A)) rfl
/-- shared[q].append(k) -/
theorem hs_appIx (i : Nat) {A : Addr} {as : List Addr} {c : Nat → List Int} {q : Nat} {k : Int} {W1 W2 : Wd} {b : Expr} (hd : ds[i]? = some (some (.raw (.ref A)))) (hn : as.Nodup) (hA : A ∉ as) (hq : q < as.length)
    (hat : ∀ H, W1.M H → ∀ a ∈ A :: as, H a = some (smt A as c a)) (hc : Chg W1 W2 (as[q]) (smt A as c as[q]) (smt A as (fun r => if r = q then c r ++ [k] else c r) as[q])) (hb : VE g X W1 ds b (.py (.int (q : Nat)))) (he : VE g X W1 ds e (.py (.int k))) (hl : (c q).length < sizeLine)
    (h : HS X (Pre g W2 ds) rest N R)
    (hi : X.N[i]? = some x := by rfl) (hv : Vis X.env.scope x := by first | exact Or.inl rfl | exact Or.inr (Or.inl rfl) | exact Or.inr (Or.inr rfl)) (hg : (x == ("__debug__" : Str)) = false := by decide) (hcd : (x == ("__classdict__" : Str)) = false := by decide) (hix : PlainIx b := by intro _ _; rfl)
    (hs : swapsWith (.Call (.Attribute (.Subscript (.Name x p2) b p4) "append" p3) [e] [] p) none pos.line X.env = pure false := by rfl)
    (hbase : attributeBase (.Subscript (.Name x p2) b p4) "append" X.env (eval (.Subscript (.Name x p2) b p4) X.env) = eval (.Subscript (.Name x p2) b p4) X.env := by rfl) (hline : (p3.endLine == p.line) = true := by rfl)
    (hst : starEach [e] X.env = (false, eval e X.env) :: starEach [] X.env := by rfl)
    (hfew : ((backTo p (starEach [e] X.env)).all (fun x => !x.1) && (backToKw p (keywordEach [] X.env)).all (fun x => x.1.isSome)
      && decide ([e].length + ([] : List Keyword).length + (if ([] : List Keyword).isEmpty then 0 else 1) < 30)) = true := by rfl)
    (hplain : (backTo p (starEach [] X.env)).any (·.1) = false := by rfl) :
    HS X (Pre g W1 ds) (.Expr (.Call (.Attribute (.Subscript (.Name x p2) b p4) "append" p3) [e] [] p) pos :: rest) N R := by
  refine hs_cons (N1 := Pre g W2 ds) (PS.imp (ps_expr (pe_bm PySem.F.plainAttrs_list PySem.F.slot_list_append PySem.F.type_list_append mt_append (pe_ix ix_list (ve_var (g := g) (W := W1) i hd hi hv hg hcd) hb hix) (pa_cons he pa_nil hst) hbase hfew hline hst hplain) hs) ?_) h
  rintro D σ H ⟨p, n, _⟩
  refine ⟨p, fun v H2 m e dv => ⟨p.go m e, fun u H3 m3 e3 du => ?_⟩⟩
  have dv : v = .ref A := dv
  have eu := dv_int du
  subst eu dv
  have o1 := hat H3 m3 A List.mem_cons_self
  rw [smt_A] at o1
  have oq := hat H3 m3 (as[q]) (List.mem_cons_of_mem _ (List.getElem_mem hq))
  rw [smt_a hn hA hq] at oq
  refine ⟨A, _, (q : Nat), .ref as[q], rfl, rfl, SqL.of o1, atI_nat (by rw [List.getElem?_map, List.getElem?_eq_getElem hq]; rfl), tyV_list (SqL.of oq), p.go m3 (e.trans e3), fun w H4 m4 e4 dw => ?_⟩
  have ew := dv_int dw
  subst ew
  have oq4 := hat H4 m4 (as[q]) (List.mem_cons_of_mem _ (List.getElem_mem hq))
  rw [smt_a hn hA hq] at oq4
  refine ⟨as[q], _, _, rfl, rfl, oq4, by rw [List.length_map]; exact hl, n _ _ ?_⟩
  have r := hc.pre (p.go m4 ((e.trans e3).trans e4))
  rw [smt_a hn hA hq, if_pos rfl, List.map_append] at r
  exact r
/-- all of it is data from now on -/
theorem freezeS {A : Addr} {as : List Addr} {c : Nat → List Int} {j : Nat} {σ : L2.St} {H : Hp} (F : Fresh W A as) (hj : ds[j]? = some (some (.raw (.ref A)))) (p : Pre g (W.own (A :: as) (smt A as c)) ds σ H) : Pre g W (ds.set j (some (.py (.list ((List.range as.length).map fun q => LI (c q)))))) σ H := by
  refine ⟨p.1.1, ?_⟩
  obtain ⟨v, h1, h2⟩ := p.2.2 j _ hj
  have h2 : v = .ref A := h2
  have qs : Sl g W.B H σ ds := p.2.weak fun a z => .inl z
  have oA := p.1.2 A List.mem_cons_self
  rw [smt_A] at oA
  have r := qs.set (i := j) (v := v) (d := .py (.list ((List.range as.length).map fun q => LI (c q)))) (by
    rw [h2]
    refine .lst (F.nb A List.mem_cons_self) oA (DqAll.of_get (by simp) fun i u d hu hd => ?_)
    rw [List.getElem?_map] at hu hd
    by_cases hi : i < as.length
    · rw [List.getElem?_eq_getElem hi] at hu
      rw [List.getElem?_range hi] at hd
      cases hu
      cases hd
      have oq := p.1.2 (as[i]) (List.mem_cons_of_mem _ (List.getElem_mem hi))
      rw [smt_a F.nd F.nA hi] at oq
      exact .lst (F.nb _ (List.mem_cons_of_mem _ (List.getElem_mem hi))) oq (DqAll.ints _)
    · rw [List.getElem?_eq_none (by omega)] at hu
      cases hu)
  rw [set_same h1] at r
  exact r
end
end My
/-! CoL: calls by keywords alone. -/
namespace My
open PySem PySem.Spec PyProof.Rows L2 StX
/-- a def's promise, to be called by the keywords ks -/
def PnK (P : Program) (w : World) (K : PySem.W.Frag) (mg : Str → Option Value) (base : Heap) (k : Nat) (x : Str) (ks : List Str) (gV : List V → List V → List V) (sp : Sp) : Prop :=
  ∃ (f : Addr) (fd : FuncData) (ps : List Str) (gU : List Value → List Value → List Value), FnOk P w K mg base (L2.CX P w) k f fd ps sp ∧ Nm K mg x f ∧ KBn K fd ps 0 ks gU gV
section
variable {g : Gc} {X : Cx} {W : Wd} {ds : Ds} {e : Expr} {kws : List Keyword} {d : Da} {pos p kpos : Pos} {as bs : List Da} {k j n : Nat} {x : Str} {nm : Option Str} {ks : List Str} {gV : List V → List V → List V} {R : List Da → Da → Prop}
def VKs (g : Gc) (X : Cx) (W : Wd) (ds : Ds) (kws : List Keyword) (as : List Da) : Prop := PK X kws (tA g W ds as)
theorem PK.imp {ta ta' : TA} (h : PK X kws ta) (q : ∀ σ H Q, ta' σ H Q → ta σ H Q) : PK X kws ta' := ⟨fun pos pins s σ H Q I w => h.run pos pins s σ H Q I (q σ H Q w)⟩
theorem vk_nil : VKs g X W ds [] [] := PK.imp pk_nil fun _ H _ ⟨p, q⟩ => q [] H p.1 (.refl H) .nil
theorem vk_cons (ha : VE g X W ds e d) (hr : VKs g X W ds kws as) : VKs g X W ds (⟨nm, e, kpos⟩ :: kws) (d :: as) :=
  PK.imp (pk_cons ha hr) fun _ _ _ ⟨p, q⟩ => ⟨p, fun _ H1 m1 e1 v1 => ⟨p.go m1 e1, fun _ H2 m2 e2 v2 => q _ H2 m2 (e1.trans e2) (.cons (v1.keep e2) v2)⟩⟩
/-- f(k = e, ..) -/
theorem ve_callK (c : PnK X.prog X.w X.K X.mg X.base k x ks gV (spR g n R)) (hr : Room j X.A) (vk : VKs g X W ds kws as) (hp : ∀ B H zs, DVs g B H zs as → DVs g B H (gV [] zs) bs) (hR : R bs d) (hkj : k ≤ j := by decide) (hn : bs.length = n := by rfl) (hl : as.length = ks.length := by rfl)
    (hg : Gl X x := by rfl) (hdb : (x == ("__debug__" : Str)) = false := by decide) (hall : (backToKw pos (keywordEach kws X.env)).all (·.1.isSome) = true := by rfl) (hks : (backToKw pos (keywordEach kws X.env)).filterMap (·.1) = ks := by rfl)
    (hpl : ((backTo pos (starEach [] X.env)).any (·.1) || (backToKw pos (keywordEach kws X.env)).any (·.1.isNone)) = false := by rfl) :
    VE g X W ds (.Call (.Name x p) [] kws pos) d := by
  obtain ⟨f, fd, ps, gU, F, nm, hb⟩ := c
  refine ⟨fun pins s σ H Q I ⟨p, q⟩ => wpAny_Call_Name_kw (ld_glob I hg nm.mgx (PySem.W.callWith_KW0 (h₀ := X.base) I.ok.mod.kin nm.kp hall ?_ hpl) hdb)⟩
  refine thn (vk.run _ pins s σ H (fun zs H2 => W.M H2 ∧ Ex W.B H H2 ∧ DVs g W.B H2 zs as) I ⟨p, fun zs H2 m e dv => ⟨m, e, dv⟩⟩) fun ws s2 ⟨zs, H2, I2, rz, m, e, dv⟩ => ⟨I2.kIn, ?_⟩
  rw [hks]
  refine run_fnN (us := []) (vs := []) (F.mono hkj) hr hb passL I2 .nil rz rfl (dv.length.trans hl) ?_
  exact ⟨W.B, bs, d, W.al m, hn, hp _ _ _ dv, hR, fun v H3 s3 v3 => q v H3 (W.mono s3 m) (e.trans (.of s3)) v3⟩
end
end My
/-! CoM: expressions that change the bag. -/
namespace My
open PySem PySem.Spec PyProof.Rows L2 StX
/-- an expression that leads from one world to another (of the same B) -/
def tX (g : Gc) (W W' : Wd) (ds : Ds) (S : Da → Prop) : TE := fun σ H Q => Pre g W ds σ H ∧ ∀ v H2 d, S d → W'.M H2 → Ex W.B H H2 → DV g W.B H2 v d → Q v H2
def VX (g : Gc) (X : Cx) (W W' : Wd) (ds : Ds) (e : Expr) (S : Da → Prop) : Prop := PE X e (tX g W W' ds S)
def tXT (g : Gc) (W W' : Wd) (ds : Ds) (S : Bool → Prop) : TT := fun σ H Q => Pre g W ds σ H ∧ ∀ b H2, S b → W'.M H2 → Ex W.B H H2 → Q b H2
def VXT (g : Gc) (X : Cx) (W W' : Wd) (ds : Ds) (e : Expr) (S : Bool → Prop) : Prop := PT X e (tXT g W W' ds S)
theorem Pre.hop {g : Gc} {W W' : Wd} {ds : Ds} {σ : L2.St} {H H' : Hp} (p : Pre g W ds σ H) (m : W'.M H') (e : Ex W.B H H') (hB : W'.B = W.B) : Pre g W' ds σ H' := ⟨m, by rw [hB]; exact p.2.keep e⟩
section
variable {g : Gc} {X : Cx} {W W1 W2 W' : Wd} {ds : Ds} {e a b c : Expr} {es : List Expr} {pos p p2 p3 px : Pos} {d d1 d2 : Da} {S S' : Da → Prop} {rest sts : List Stmt} {N : SH} {R : V → Hp → Prop} {x y : Str}
theorem vx_of (h : VE g X W ds e d) : VX g X W W ds e (fun x => x = d) := PE.imp h fun _ _ _ ⟨p, q⟩ => ⟨p, fun v H2 m e dv => q v H2 d rfl m e dv⟩
theorem vx_imp (h : VX g X W W' ds e S) (i : ∀ d, S d → S' d) : VX g X W W' ds e S' := PE.imp h fun _ _ _ ⟨p, q⟩ => ⟨p, fun v H2 d z m e dv => q v H2 d (i d z) m e dv⟩
/-- a op b, b changes the bag -/
theorem vx_op {op : Operator} {r : R2} {f : Da → Da} (ho : OpR X (binaryOp op) r) (hB : W'.B = W.B) (ha : VE g X W ds a d1) (hb : VX g X W W' ds b S) (h : ∀ d, S d → OpD g r d1 d (f d)) : VX g X W W' ds (.BinOp a op b pos) (fun x => ∃ d, S d ∧ x = f d) :=
  PE.imp (pe_op ho ha hb) fun _ _ Q ⟨p, q⟩ => ⟨p, fun u H1 m1 e1 v1 => ⟨p.go m1 e1, fun v H2 d z m2 e2 v2 => h d z W.B H2 u v Q (by rw [← hB]; exact W'.al m2) (v1.keep e2) v2 fun w H3 s3 v3 => q w H3 _ ⟨d, z, rfl⟩ (W'.mono s3 m2) ((e1.trans e2).trans (.of s3)) v3⟩⟩
/-- a == b as a test, a changes the bag -/
theorem vxt_cmp {op : CmpOp} {r : R2} {f : Da → Bool} (ho : OpR X (compareOp op) r) (hB : W'.B = W.B) (ha : VX g X W W' ds a S) (hb : VE g X W' ds b d2) (h : ∀ d, S d → OpD g r d d2 (.py (.bool (f d)))) (hm : behindInMarks op b = false := by first | exact nomark _ | rfl | with_unfolding_all rfl) :
    VXT g X W W' ds (.Compare a [op] [b] pos) (fun k => ∃ d, S d ∧ k = f d) :=
  PT.imp (pt_cmpR ho ha hb hm) fun _ _ Q ⟨p, q⟩ => ⟨p, fun u H1 d z m1 e1 v1 => ⟨p.hop m1 e1 hB, fun v H2 m2 e2 v2 => by
    rw [hB] at e2 v2
    exact h d z W.B H2 u v _ (by rw [← hB]; exact W'.al m2) (v1.keep e2) v2 fun w H3 s3 v3 => by
      cases v3
      exact ⟨_, rfl, q _ H3 ⟨d, z, rfl⟩ (W'.mono s3 m2) ((e1.trans e2).trans (.of s3))⟩⟩⟩
theorem vxt_val {S : Bool → Prop} (h : VX g X W W' ds e (fun x => ∃ k, S k ∧ x = .py (.bool k))) (he : ∀ whole, isTrue e X.env whole = (do let v ← whole; standAt e.pos; holding [v] (truthy v)) := by intro _; rfl) : VXT g X W W' ds e S :=
  PT.imp (pt_val h he) fun _ _ _ ⟨p, q⟩ => ⟨p, fun v H2 d ⟨k, z, ed⟩ m e dv => by
    subst ed
    cases dv
    exact ⟨k, rfl, q k H2 z m e⟩⟩
theorem vxt_not {S : Bool → Prop} (h : VXT g X W W' ds e S) : VXT g X W W' ds (.UnaryOp .Not e pos) (fun k => ∃ j, S j ∧ k = !j) := PT.imp (pt_not h) fun _ _ _ ⟨p, q⟩ => ⟨p, fun j H2 z m e => q (!j) H2 ⟨j, z, rfl⟩ m e⟩
/-- name = e -/
theorem hs_setX (i : Nat) (hN : X.N.Nodup) (hB : W'.B = W.B) (he : VX g X W W' ds e S) (h : ∀ d, S d → HS X (Pre g W' (ds.set i (some d))) rest N R) (hi : X.N[i]? = some x := by rfl) (hx : Loc X.env.scope x := by first | exact Or.inl rfl | exact Or.inr rfl)
    (hs : swapsWith e (some (.Name x px)) pos.line X.env = pure false := by rfl) (hf : X.fn x = true ∨ X.env.scope.names.lookup x = some .local := by first | exact .inl rfl | exact .inr rfl) :
    HS X (Pre g W ds) (.Assign [.Name x px] e pos :: rest) N R :=
  hs_cons (N1 := fun σ H => ∃ d, S d ∧ Pre g W' (ds.set i (some d)) σ H) (PS.imp (ps_set hN hi hx he hs hf) fun D σ H ⟨p, n, _⟩ => ⟨p, fun v H2 d z m e dv => n _ _ ⟨d, z, m, by rw [hB]; exact (p.2.keep e).set dv⟩⟩) (hs_ex fun d => hs_pure fun z => h d z)
theorem hs_retX (he : VX g X W W' ds e S) (hB : W'.B = W.B) (q : ∀ σ v H d, S d → Pre g W' ds σ H → DV g W.B H v d → R v H) : HS X (Pre g W ds) (.Return (some e) pos :: rest) N R :=
  hs_cons (N1 := fun _ _ => False) (PS.imp (ps_ret he) fun D σ H ⟨p, _, r⟩ => ⟨p, fun v H2 d z m e dv => r v H2 (q σ v H2 d z (p.hop m e hB) dv)⟩) hs_false
theorem h1_ifX {c : Expr} {S : Bool → Prop} {els : List Stmt} (hB : W'.B = W.B) (hc : VXT g X W W' ds c S) (ha : S true → HS X (Pre g W' ds) sts N R) (hb : S false → HS X (Pre g W' ds) els N R) : H1 X (Pre g W ds) (.If c sts els pos) N R :=
  PS.imp (ps_if hc (PSs.cond (p := S true) ha) (PSs.cond (p := S false) hb)) fun D σ H ⟨p, n, r⟩ => ⟨p, fun k H2 z m e => by
    cases k with
    | true => exact iteT ⟨z, p.hop m e hB, n, r⟩
    | false => exact iteF ⟨z, p.hop m e hB, n, r⟩⟩
theorem hs_ifRX {c : Expr} {S : Bool → Prop} (hB : W'.B = W.B) (hc : VXT g X W W' ds c S) (ha : S true → HS X (Pre g W' ds) sts (fun _ _ => False) R) (hb : S false → HS X (Pre g W' ds) rest N R) : HS X (Pre g W ds) (.If c sts [] pos :: rest) N R :=
  hs_cons (N1 := fun σ H => S false ∧ Pre g W' ds σ H) (h1_ifX hB hc (fun z => hs_post (ha z) fun _ _ f => f.elim) fun z => hs_nil fun _ _ p => ⟨z, p⟩) (hs_pure hb)
end

/-! ### the bag -/
structure Bag (bag cells : Addr) (cs : List Int) (c : Nat) (H : Hp) : Prop where
  ne : cells ≠ bag
  at_ : ∃ i r : Nat, i ≤ c ∧ H bag = some (.lst [.ref cells, .int (i : Nat), .int (r : Nat)])
  ce : H cells = some (.lst (cs.map .int))
abbrev Ofs (bag : Addr) : Addr → Prop := fun a => a = bag
theorem Bag.same {bag cells : Addr} {cs : List Int} {c : Nat} {H H' : Hp} (b : Bag bag cells cs c H) (s : Same H H') : Bag bag cells cs c H' := ⟨b.ne, let ⟨i, r, h, e⟩ := b.at_; ⟨i, r, h, s _ _ e⟩, s _ _ b.ce⟩
/-- as it was at H0 but for the bag, which has been asked at most c times -/
def Wd.bg (B : Addr → Prop) (H0 : Hp) (hB : ∀ a, B a → H0 a ≠ none) (bag cells : Addr) (cs : List Int) (c : Nat) : Wd where
  B := fun a => B a ∨ a = bag
  M := fun H => Ex (Ofs bag) H0 H ∧ Bag bag cells cs c H
  mono := fun s h => ⟨h.1.trans (.of s), h.2.same s⟩
  al := fun {H} h a z => by
    rcases z with z | z
    · by_cases e : a = bag
      · obtain ⟨i, r, _, q⟩ := h.2.at_
        rw [e]
        exact nn2 q
      · cases q : H0 a with
        | none => exact (hB a z q).elim
        | some o => exact nn2 (h.1 a o e q)
    · obtain ⟨i, r, _, q⟩ := h.2.at_
      rw [z]
      exact nn2 q
theorem loc_bg {B : Addr → Prop} {H0 : Hp} {hB : ∀ a, B a → H0 a ≠ none} {bag cells : Addr} {cs : List Int} {c : Nat} : (Wd.bg B H0 hB bag cells cs c).Loc := by
  refine ⟨fun a => a = bag ∨ a = cells ∨ H0 a ≠ none, fun H q a z => ?_, fun H H' k q => ⟨fun a o nb e => ?_, q.2.ne, ?_, ?_⟩⟩
  · obtain ⟨i, r, _, hb⟩ := q.2.at_
    rcases z with z | z | z
    · rw [z]
      exact nn2 hb
    · rw [z]
      exact nn2 q.2.ce
    · by_cases e : a = bag
      · rw [e]
        exact nn2 hb
      · cases e2 : H0 a with
        | none => exact (z e2).elim
        | some o => exact nn2 (q.1 a o e e2)
  · rw [k a (.inr (.inr (nn2 e)))]
    exact q.1 a o nb e
  · obtain ⟨i, r, h, hb⟩ := q.2.at_
    exact ⟨i, r, h, by rw [k bag (.inl rfl)]; exact hb⟩
  · rw [k cells (.inr (.inl rfl))]
    exact q.2.ce
/-- what a def promises that asks the bag at most n times -/
def spB (g : Gc) (n δ : Nat) (R : List Da → (Da → Prop) → Prop) : Sp := fun vs H Q _ => ∃ (B : Addr → Prop) (bag cells : Addr) (cs : List Int) (c : Nat) (us : List V) (as : List Da) (S : Da → Prop), vs = .ref bag :: us ∧ (∀ a, B a → H a ≠ none) ∧ B bag ∧ Bag bag cells cs c H ∧ c + δ ≤ 400 ∧ as.length = n ∧ DVs g B H us as ∧ R as S ∧
  ∀ v H' d, S d → Ex (Ofs bag) H H' → Bag bag cells cs (c + δ) H' → DV g B H' v d → Q v H'
/-- the world W with a bag that has been asked at most c times -/
structure HasBag (W : Nat → Wd) (bag cells : Addr) (cs : List Int) : Prop where
  b : ∀ c, (W c).B = (W 0).B
  bb : (W 0).B bag
  hg : ∀ c H, (W c).M H → Bag bag cells cs c H
  up : ∀ c c' H H', (W c).M H → Ex (Ofs bag) H H' → Bag bag cells cs c' H' → (W c').M H'
section
variable {g : Gc} {X : Cx} {ds : Ds} {e a b o : Expr} {es rest : List Expr} {d d1 d2 d3 : Da} {pos p : Pos} {as : List Da} {k j n δ c : Nat} {x : Str} {dvs : List V} {R : List Da → (Da → Prop) → Prop} {W : Nat → Wd} {bag cells : Addr} {cs : List Int} {S : Da → Prop}
theorem vx_call (hW : HasBag W bag cells cs) (f : Pn X.prog X.w X.K X.mg X.base k x [] (spB g n δ R)) (hr : Room j X.A) (va : VA g X (W c) ds (e :: es) (.raw (.ref bag) :: as)) (hR : R as S) (hc : c + δ ≤ 400 := by omega) (hkj : k ≤ j := by decide) (hn : as.length = n := by rfl)
    (hg : Gl X x := by rfl) (hdb : (x == ("__debug__" : Str)) = false := by decide) (he : starEach (e :: es) X.env = (false, eval e X.env) :: starEach es X.env := by rfl) (hpl : (backTo pos (starEach es X.env)).any (·.1) = false := by rfl) :
    VX g X (W c) (W (c + δ)) ds (.Call (.Name x p) (e :: es) [] pos) S := by
  obtain ⟨fa, fd, ps, us, F, nm, hb, hv⟩ := f
  refine PE.imp (pe_call F (hr.mono hkj) hg nm.mgx nm.kp hb hv passL va hdb he hpl) ?_
  rintro σ H Q ⟨p, q⟩
  refine ⟨p, fun vs H2 m e dv => ?_⟩
  cases dv with
  | @cons v _ vs' _ h1 h2 =>
    have h1 : v = .ref bag := h1
    refine ⟨(W c).B, bag, cells, cs, c, vs', as, S, by rw [h1, List.append_nil], (W c).al m, by rw [hW.b]; exact hW.bb, hW.hg c H2 m, hc, hn, h2, hR, fun u H3 d z e3 b3 dv3 => ?_⟩
    exact q u H3 d z (hW.up c (c + δ) H2 H3 m e3 b3) (e.trans (e3.mono fun a z => by rw [z, hW.b]; exact hW.bb)) dv3
theorem hasbag_bg {B : Addr → Prop} {H0 : Hp} {hB : ∀ a, B a → H0 a ≠ none} : HasBag (Wd.bg B H0 hB bag cells cs) bag cells cs where
  b := fun _ => rfl
  bb := .inr rfl
  hg := fun c H m => m.2
  up := fun c c' H H' m e b => ⟨m.1.trans e, b⟩
theorem HasBag.rel {W : Nat → Wd} (h : HasBag W bag cells cs) (H1 : Hp) : HasBag (fun c => (W c).rel H1) bag cells cs where
  b := h.b
  bb := h.bb
  hg := fun c H m => h.hg c H m.1
  up := fun c c' H H' m e b => ⟨h.up c c' H H' m.1 e b, by
    show Ex (W c').B H1 H'
    rw [h.b c', ← h.b c]
    exact m.2.trans (e.mono fun a z => by rw [z, h.b]; exact h.bb)⟩
theorem HasBag.o1 {W : Nat → Wd} (h : HasBag W bag cells cs) {D : Addr} {o : HO} (hD : D ≠ bag) : HasBag (fun c => (W c).o1 D o) bag cells cs where
  b := fun c => by
    show (fun a => (W c).B a ∨ a ∈ [D]) = _
    rw [h.b c]
    rfl
  bb := .inl h.bb
  hg := fun c H m => h.hg c H m.1
  up := fun c c' H H' m e b => o1_mk (h.up c c' H H' m.1 e b) (e D o hD (o1_at m))
end
section
variable {P : Program} {w : World} {K : PySem.W.Frag} {mg : Str → Option Value} {base : Heap} {g : Gc} {k : Nat} {x qual : Str} {st : Stmt} {dvs : List V} {f : Addr} {fd : FuncData} {N ps : List Str} {R : List Da → (Da → Prop) → Prop}
/-- THE RULE for a def that asks the bag -/
theorem bg_body {n δ : Nat} (F : FunS K x qual st dvs f fd) (S : FnScope N ps (defScope st)) (hn : ps.length = n + 1)
    (hb : ∀ (cdv : Value) (A : Around) (outer : List Env) (s : Shared) (H : Hp) (E : XK) (B : Addr → Prop) (hB : ∀ a, B a → H a ≠ none) (bag cells : Addr) (cs : List Int) (c : Nat) (as : List Da) (S : Da → Prop), Room k (A.deeper (envOfC qual (defScope st) s.heap.objs.size f cdv)) → B bag → Bag bag cells cs c H → c + δ ≤ 400 → as.length = n → R as S →
      HS (cxM P w K mg base N qual st f cdv A outer s H E) (Pre g (Wd.bg B H hB bag cells cs c) (some (.raw (.ref bag)) :: (as.map some ++ List.replicate (N.length - (as.length + 1)) none))) (defBody st) (fun _ _ => False) (fun v H' => ∃ d, S d ∧ Ex (Ofs bag) H H' ∧ Bag bag cells cs (c + δ) H' ∧ DV g B H' v d)) :
    FnOk P w K mg base (L2.CX P w) (k + 1) f fd ps (spB g n δ R) := by
  refine F.ok S (fun vs H Q E h => ?_) (fun cdv A outer s H vs Q E hr h => ?_)
  · obtain ⟨B, bag, cells, cs, c, us, as, S, rfl, _, _, _, _, hl, hv, _⟩ := h
    rw [List.length_cons, hv.length, hl, hn]
  · obtain ⟨B, bag, cells, cs, c, us, as, S, rfl, hB, bb, bg, hc, hl, hv, hR, q⟩ := h
    refine ⟨_, hb cdv A outer s H E B hB bag cells cs c as S hr bb bg hc hl hR, ⟨⟨?_, ?_⟩, fun _ _ z => z.elim, fun v H' ⟨d, z, e, b, dv⟩ => q v H' d z e b dv⟩⟩
    · exact ⟨.refl H, bg⟩
    · have z := start_sl (g := g) (B := (Wd.bg B H hB bag cells cs c).B) (H := H) (N := N) (vs := .ref bag :: us) (as := .raw (.ref bag) :: as) (.cons rfl (L2.Paired.mapP hv fun _ _ z => z.ban fun a z => .inl (z.elim id fun z => by rw [z]; exact bb)))
      exact z
end
end My
/-! CoO: a list by its items. -/
namespace My
open PySem PySem.Spec PyProof.Rows L2 StX
/-- all as at H0, but for the object at L, which is o -/
def Wd.gb (H0 : Hp) (L : Addr) (o : HO) : Wd where
  B := fun a => a = L
  M := fun H => Ex (Ofs L) H0 H ∧ H L = some o
  mono := fun s h => ⟨h.1.trans (.of s), s _ _ h.2⟩
  al := fun h a z => by
    rw [z]
    exact nn2 h.2
theorem Chg.gb {H0 : Hp} {L : Addr} (o o' : HO) : Chg (Wd.gb H0 L o) (Wd.gb H0 L o') L o o' where
  bl := rfl
  b1 := fun _ z => z
  b2 := fun _ z => z
  at_ := fun H m => m.2
  up := fun H m => ⟨fun a u na e => by
    rw [upd_ne na]
    exact m.1 a u na e, upd_same⟩
section
variable {g : Gc} {X : Cx} {W W2 : Wd} {ds : Ds} {e b : Expr} {pos p p2 p3 p4 : Pos} {x : Str} {L : Addr} {us : List V} {k z : Int} {v : V} {d : Da} {rest : List Stmt} {N : SH} {R : V → Hp → Prop} {j : Nat}
theorem ve_rawIx (i : Nat) (hd : ds[i]? = some (some (.raw (.ref L)))) (at_ : ∀ H, W.M H → H L = some (.lst us)) (hb : VE g X W ds b (.py (.int k))) (hu : atI us k = some v) (hv : ∀ H, W.M H → DV g W.B H v d)
    (hi : X.N[i]? = some x := by rfl) (hvs : Vis X.env.scope x := by first | exact Or.inl rfl | exact Or.inr (Or.inl rfl) | exact Or.inr (Or.inr rfl)) (hg : (x == ("__debug__" : Str)) = false := by decide) (hcd : (x == ("__classdict__" : Str)) = false := by decide) (hs : PlainIx b := by intro _ _; rfl) : VE g X W ds (.Subscript (.Name x p) b pos) d :=
  PE.imp (pe_ix ix_list (ve_var (g := g) (W := W) i hd hi hvs hg hcd) hb hs) fun σ H Q ⟨p, q⟩ => ⟨p, fun w H1 m1 e1 dw => ⟨p.go m1 e1, fun u H2 m2 e2 du => by
    have dw : w = .ref L := dw
    have du := dv_int du
    subst dw du
    exact ⟨L, us, k, v, rfl, rfl, SqL.of (at_ H2 m2), hu, q v H2 m2 (e1.trans e2) (hv H2 m2)⟩⟩⟩
/-- x[k] = e, e an int -/
theorem hs_rawSet (i : Nat) {jj : Nat} (hd : ds[i]? = some (some (.raw (.ref L)))) (he : VE g X W ds e (.py (.int z))) (hj : ixN us.length k = some j) (hc : Chg W W2 L (.lst us) (.lst (us.set j (.int z)))) (h : HS X (Pre g W2 ds) rest N R)
    (hi : X.N[i]? = some x := by rfl) (hvs : Vis X.env.scope x := by first | exact Or.inl rfl | exact Or.inr (Or.inl rfl) | exact Or.inr (Or.inr rfl)) (hg : (x == ("__debug__" : Str)) = false := by decide) (hcd : (x == ("__classdict__" : Str)) = false := by decide)
    (hs : swapsWithSole [.Subscript (.Name x p2) (.Constant (.int k) jj p4) p3] e pos.line X.env = pure false := by rfl) (hw : swappedStores [.Subscript (.Name x p2) (.Constant (.int k) jj p4) p3] e X.env = pure none := by rfl) (h1 : (assignEach [.Subscript (.Name x p2) (.Constant (.int k) jj p4) p3] X.env).map (·.2) = [assign (.Subscript (.Name x p2) (.Constant (.int k) jj p4) p3) X.env] := by rfl) :
    HS X (Pre g W ds) (.Assign [.Subscript (.Name x p2) (.Constant (.int k) jj p4) p3] e pos :: rest) N R :=
  hs_cons (PS.imp (ps_asg he (pg_sub (ve_var (g := g) (W := W) i hd hi hvs hg hcd) ve_int set_list) hs hw h1) fun D σ H ⟨p, n, _⟩ => ⟨p, fun y H1 m1 e1 dy => ⟨p.go m1 e1, fun w H2 m2 e2 dw => ⟨p.go m2 (e1.trans e2), fun u H3 m3 e3 du => by
    have dy := dv_int dy
    have dw : w = .ref L := dw
    have du := dv_int du
    subst dy dw du
    exact ⟨L, us, k, j, rfl, rfl, hc.at_ _ m3, hj, n _ _ (hc.pre (p.go m3 ((e1.trans e2).trans e3)))⟩⟩⟩⟩) h
end
end My
/-! CoP: loops and comprehensions that ask the bag. -/
namespace My
open PySem PySem.Spec PyProof.Rows L2 StX
/-- a source whose reading changes the bag -/
def tIX (g : Gc) (W W' : Wd) (ds : Ds) (gt : TG) (vs : List Nat) (S : Nat → Prop) (f : Nat → Ds → Ds) : TI := fun σ H R => Pre g W ds σ H ∧ ∀ J H1 n, S n → W'.M H1 → Ex W.B H H1 →
  (∀ B' : Addr → Prop, (∀ a, B' a → W.B a ∨ H1 a = none) → ∃ Kp, SrcOk g B' gt vs n f J Kp ∧ Kp H1) → R J H1
def VIX (g : Gc) (X : Cx) (W W' : Wd) (ds : Ds) (tg iter : Expr) (gt : TG) (vs : List Nat) (S : Nat → Prop) (f : Nat → Ds → Ds) : Prop := PI X tg iter (tIX g W W' ds gt vs S f)
section
variable {g : Gc} {X : Cx} {W W' : Wd} {ds : Ds} {a b tg iter : Expr} {pos p px py pt pt2 : Pos} {rest body : List Stmt} {N : SH} {R : V → Hp → Prop} {gt : TG} {vs : List Nat} {f : Nat → Ds → Ds} {x y : Str}
theorem vix_of {n : Nat} (h : VI g X W ds tg iter gt vs n f) : VIX g X W W ds tg iter gt vs (fun k => k = n) f := PI.imp h fun _ _ R ⟨p, q⟩ => ⟨p, fun J H1 m e src => q J H1 n rfl m e src⟩
theorem vix_rng1 {j : Nat} {S : Da → Prop} (hg : Gl X "range") (hm : X.mg "range" = none) (h : VX g X W W' ds a S) (hS : ∀ d, S d → ∃ k : Int, d = .py (.int k) ∧ -(2 ^ 62) ≤ k ∧ k < 2 ^ 62) (hs : starEach [a] X.env = [(false, eval a X.env)] := by rfl) (hs2 : starEach [a] X.env = (false, eval a X.env) :: starEach [] X.env := by rfl) :
    VIX g X W W' ds tg (.Call (.Name "range" p) [a] [] pos) (gName j) [j] (fun n => ∃ k : Int, S (.py (.int k)) ∧ n = k.toNat) (fun i ds' => ds'.set j (some (.py (.int (i : Nat))))) :=
  PI.imp (pi_range1 hg hm (pa_cons h pa_nil hs2) hs) fun σ H R ⟨p, q⟩ => ⟨p, fun v H1 d z m e dv => by
    obtain ⟨k, rfl, h1, h2⟩ := hS d z
    have := dv_int dv
    subst this
    refine ⟨k, rfl, h1, h2, q _ H1 k.toNat ⟨k, z, rfl⟩ m e fun B' hB => ⟨fun _ => True, ?_, trivial⟩⟩
    have s := src_rng (g := g) (B := B') (lo := 0) (n := k.toNat) (j := j)
    simpa only [Int.zero_add] using s⟩
/-- for, the states told by a word -/
theorem hs_forO {Z : Type} {S : Nat → Prop} (Wz : Hp → Nat → Nat → Z → Wd) (dz : Hp → Nat → Nat → Z → Ds) (ok : Nat → Nat → Z → Prop) (hi : VIX g X W W' ds tg iter gt vs S f) (hB : W'.B = W.B) (hg : PG X tg gt)
    (hl : ∀ H1 n i z, Lp W H1 (Wz H1 n i z))
    (h0 : ∀ σ H1 n, S n → Pre g W' ds σ H1 → ∃ z, ok n 0 z ∧ Pre g (Wz H1 n 0 z) (dz H1 n 0 z) σ H1)
    (hb : ∀ H1 n i z, W'.M H1 → S n → i < n → ok n i z → HS X (Pre g (Wz H1 n i z) (f i (dz H1 n i z))) body (fun σ H => ∃ z', ok n (i + 1) z' ∧ Pre g (Wz H1 n (i + 1) z') (dz H1 n (i + 1) z') σ H) R)
    (hr : ∀ H1 n z, W'.M H1 → S n → ok n n z → HS X (Pre g (Wz H1 n n z) (dz H1 n n z)) rest N R)
    (hp : PassesOwn (model X.prog X.w) X.A X.env X.xe := by exact PassesOwn.leaving) (hc : X.calm = true := by rfl)
    (hs : ∀ x, foldedSetIterable iter X.env x = pure x := by intro _; rfl) : HS X (Pre g W ds) (.For tg iter body [] pos :: rest) N R := by
  refine hs_cons (N1 := fun σ H => ∃ H1 n z, (W'.M H1 ∧ S n ∧ ok n n z) ∧ Pre g (Wz H1 n n z) (dz H1 n n z) σ H) ?_ (hs_ex fun H1 => hs_ex fun n => hs_ex fun z => hs_pure fun m => hr H1 n z m.1 m.2.1 m.2.2)
  have hbody : PSs X body fun D σ H => ∃ H1 n i z, (W'.M H1 ∧ S n ∧ i < n ∧ ok n i z) ∧ Pre g (Wz H1 n i z) (f i (dz H1 n i z)) σ H ∧ (∀ σ' H', (∃ z', ok n (i + 1) z' ∧ Pre g (Wz H1 n (i + 1) z') (dz H1 n (i + 1) z') σ' H') → D.nx σ' H') ∧ ∀ v H', R v H' → D.rt v H' :=
    ⟨fun pins s σ H D I ⟨H1, n, i, z, h, w⟩ => (hb H1 n i z h.1 h.2.1 h.2.2.1 h.2.2.2).run pins s σ H D I w⟩
  refine PS.imp (ps_for hp hc hi hg hbody hs) ?_
  rintro D σ H ⟨p, nx, rt⟩
  refine ⟨p, fun J H1 n hS m1 e1 src => ?_⟩
  obtain ⟨z0, k0, p0⟩ := h0 σ H1 n hS (p.hop m1 e1 hB)
  refine ⟨fun i m σ' H' => m = n - i ∧ i ≤ n ∧ ∃ z, ok n i z ∧ Pre g (Wz H1 n i z) (dz H1 n i z) σ' H', ⟨n, by simp, Nat.zero_le _, z0, k0, p0⟩, ?_⟩
  rintro i m σ' H' ⟨rfl, hi, z, kz, q⟩
  obtain ⟨Kp, so, k1⟩ := src _ (hl H1 n i z).b
  have kp := so.keep _ _ ((hl H1 n i z).ex H' q.1) k1
  by_cases hlt : i < n
  · refine .inr ⟨so.go i H' hlt kp, fun σ2 H2 => ∃ z', ok n (i + 1) z' ∧ Pre g (Wz H1 n (i + 1) z') (dz H1 n (i + 1) z') σ2 H2, fun σ2 H2 z' => ⟨n - (i + 1), by omega, rfl, hlt, z'⟩, fun y H2 hy => ?_⟩
    obtain ⟨sm, tu⟩ := so.turn i H' y H2 hlt kp hy
    refine tu σ' _ _ (q.2.keep (.of sm)) fun σ2 s2 _ => ?_
    exact ⟨H1, n, i, z, ⟨m1, hS, hlt, kz⟩, ⟨(Wz H1 n i z).mono sm q.1, s2⟩, fun _ _ h => h, rt⟩
  · have e : i = n := by omega
    subst e
    exact .inl ⟨so.stop _ kp, nx _ _ ⟨H1, _, z, ⟨m1, hS, kz⟩, q⟩⟩
/-- x, y = a, b, a changes the bag, a name is captured -/
theorem hs_parXC (i j : Nat) {S : Da → Prop} {d2 : Da} {kt k2 : Nat} (hN : X.N.Nodup) (hB : W'.B = W.B) (ha : VX g X W W' ds a S) (hb : VE g X W' ds b d2) (h : ∀ d, S d → HS X (Pre g W' ((ds.set i (some d)).set j (some d2))) rest N R) (hc : X.calm = true := by rfl)
    (hi : X.N[i]? = some x := by rfl) (hj : X.N[j]? = some y := by rfl) (hx : Loc X.env.scope x := by first | exact Or.inl rfl | exact Or.inr rfl) (hy : Loc X.env.scope y := by first | exact Or.inl rfl | exact Or.inr rfl)
    (hs : swapsWithSole [.Tuple [.Name x px, .Name y py] kt pt] (.Tuple [a, b] k2 pt2) pos.line X.env = pure false := by rfl) (hw : swappedStores [.Tuple [.Name x px, .Name y py] kt pt] (.Tuple [a, b] k2 pt2) X.env = pure none := by rfl)
    (hf : X.fn x = true ∨ X.env.scope.names.lookup x = some .local := by first | exact .inl rfl | exact .inr rfl) (hf2 : X.fn y = true ∨ X.env.scope.names.lookup y = some .local := by first | exact .inl rfl | exact .inr rfl)
    (h1 : (assignEach [.Tuple [.Name x px, .Name y py] kt pt] X.env).map (·.2) = [assign (.Tuple [.Name x px, .Name y py] kt pt) X.env] := by rfl)
    (hst : starEach [a, b] X.env = (false, eval a X.env) :: starEach [b] X.env := by rfl) (hst2 : starEach [b] X.env = (false, eval b X.env) :: starEach [] X.env := by rfl) :
    HS X (Pre g W ds) (.Assign [.Tuple [.Name x px, .Name y py] kt pt] (.Tuple [a, b] k2 pt2) pos :: rest) N R := by
  refine hs_cons (N1 := fun σ H => ∃ d, S d ∧ Pre g W' ((ds.set i (some d)).set j (some d2)) σ H) (PS.imp (ps_asg (pe_tup (pa_cons ha (pa_cons hb pa_nil hst2) hst)) (pg_tup (n := 2) hc (pgs_cons (pg_name hN hi hx hf) (pgs_cons (pg_name hN hj hy hf2) pgs_nil rfl) rfl) rfl rfl) hs hw h1) ?_) (hs_ex fun d => hs_pure fun z => h d z)
  rintro D σ H ⟨p, n, _⟩
  refine ⟨p, fun v H2 d z m e dv => ⟨p.hop m e hB, fun u H3 m3 e3 du => ⟨(by decide : 2 ≤ sizeLine), fun r hr => ⟨r, _, rfl, SqT.of upd_same, rfl, _, _, rfl, _, _, rfl, rfl, n _ _ ⟨d, z, ?_⟩⟩⟩⟩⟩
  have s := same_new (o := .tup [v, u]) hr
  have k := p.hop m e hB
  refine ⟨W'.mono s m3, ?_⟩
  have dv' : DV g W'.B H2 v d := by rw [hB]; exact dv
  exact (((k.2.keep e3).keep (.of s)).set ((dv'.keep e3).keep (.of s))).set (du.keep (.of s))
end
/-! comprehensions whose tests ask the bag -/
structure Fam (Wf : Nat → Wd) : Prop where
  b : ∀ i, (Wf i).B = (Wf 0).B
  loc : ∀ i, (Wf i).Loc
  more : ∀ i H, (Wf i).M H → (Wf (i + 1)).M H
theorem Fam.up {Wf : Nat → Wd} (h : Fam Wf) : ∀ i H, (Wf 0).M H → (Wf i).M H
  | 0, _, m => m
  | i + 1, H, m => h.more i H (h.up i H m)
section
variable {g : Gc} {X : Cx} {ds : Ds} {elt tg iter : Expr} {ifs : List Expr} {scope : Scope} {own : List (Str × Nat)} {pos : Pos} {gt : TG} {n : Nat} {f : Nat → Ds → Ds} {S : Nat → Bool → Prop} {el : Nat → PyData} {Wf : Nat → Wd}
def tXcT (g : Gc) (Wf : Nat → Wd) (ds : Ds) (vs : List Nat) (n : Nat) (f : Nat → Ds → Ds) (S : Nat → Bool → Prop) : TT := fun σ H Q => ∃ i D acc, (i < n ∧ (∃ o, ∀ H, ((Wf 0).o1 D o).M H → True) ∧ ¬ (Wf 0).B D) ∧ tXT g ((Wf i).o1 D (.lst acc)) ((Wf (i + 1)).o1 D (.lst acc)) (f i (wipeD ds vs)) (S i) σ H Q
def tXcE (g : Gc) (Wf : Nat → Wd) (ds : Ds) (vs : List Nat) (n : Nat) (f : Nat → Ds → Ds) (S : Nat → Bool → Prop) (el : Nat → PyData) : TE := fun σ H Q => ∃ i D acc, (i < n ∧ S i true) ∧ tE g ((Wf (i + 1)).o1 D (.lst acc)) (f i (wipeD ds vs)) (.py (el i)) σ H Q
theorem lcX_read (F : Fam Wf) (hl : n ≤ sizeLine) {σ : L2.St} {H : Hp} {Q : VK} {vs : List Nat} (p : Pre g (Wf 0) ds σ H) (q : ∀ v H2 d, (∃ p : Nat → Bool, (∀ i, i < n → S i (p i)) ∧ d = Da.py (.list (((List.range n).filter p).map el))) → (Wf n).M H2 → Ex (Wf 0).B H H2 → DV g (Wf 0).B H2 v d → Q v H2) :
    tLc (tI g (Wf 0) ds gt vs n f) gt (tXcT g Wf ds vs n f S) (tXcE g Wf ds vs n f S el) vs σ H Q := by
  refine ⟨p, fun J H1 m1 e1 src D hD => ?_⟩
  have mk : ∀ i o, (Wf i).M (upd H1 D o) := fun i o => (Wf i).mono (same_new hD) (F.up i H1 m1)
  have fr : ∀ a o, H1 a = some o → a ≠ D := fun a o e z => nn (by rw [← z]; exact e) hD
  have hB' : ∀ a, ((Wf 0).o1 D (.lst [])).B a → (Wf 0).B a ∨ H1 a = none := fun a z => (ownB_or z).imp id fun z => by rw [z]; exact hD
  obtain ⟨Kp, so, k1⟩ := src _ hB'
  have nb : ¬ (Wf 0).B D := Wd.fresh m1 hD
  have exK : ∀ {H' : Hp}, Ex (Wf 0).B H1 H' → Ex ((Wf 0).o1 D (.lst [])).B H1 H' := fun e => e.mono fun a z => .inl z
  have bi : ∀ i (acc : List V), ((Wf i).o1 D (.lst acc)).B = ((Wf 0).o1 D (.lst [])).B := fun i acc => by
    show (fun a => (Wf i).B a ∨ a ∈ [D]) = _
    rw [F.b i]
    rfl
  refine ⟨fun i m H' => m = n - i ∧ i ≤ n ∧ ∃ acc pp, H' D = some (.lst acc) ∧ (Wf i).M H' ∧ Ex (Wf 0).B H1 H' ∧ (∀ k, k < i → S k (pp k)) ∧ DqAll ((Wf 0).o1 D (.lst [])).B H' acc (((List.range i).filter pp).map el), ⟨n, by simp, Nat.zero_le _, [], fun _ => true, upd_same, mk 0 _, .of (same_new hD), fun k hk => absurd hk (Nat.not_lt_zero _), .nil⟩, ?_⟩
  rintro i m H' ⟨rfl, hi, acc, pp, at_, mw, ex, okp, all⟩
  have kp := so.keep _ _ (exK ex) k1
  by_cases hlt : i < n
  · refine .inr ⟨so.go i H' hlt kp, fun H'' => ∃ acc pp, H'' D = some (.lst acc) ∧ (Wf (i + 1)).M H'' ∧ Ex (Wf 0).B H1 H'' ∧ (∀ k, k < i + 1 → S k (pp k)) ∧ DqAll ((Wf 0).o1 D (.lst [])).B H'' acc (((List.range (i + 1)).filter pp).map el), fun H'' z => ⟨n - (i + 1), by omega, rfl, hlt, z⟩, fun x H2 y => ?_⟩
    obtain ⟨sm, tu⟩ := so.turn i H' x H2 hlt kp y
    have s2 : Sl g ((Wf 0).o1 D (.lst [])).B H2 (wipe σ vs) (wipeD ds vs) := (((p.2.keep e1).ban hB').keep (exK (ex.trans (.of sm)))).wipe vs
    refine tu (wipe σ vs) (wipeD ds vs) _ s2 fun σ2 s3 hw => ⟨by rw [hw, wipe_sub fun v hv => hv], ?_⟩
    refine ⟨i, D, acc, ⟨hlt, ⟨.lst [], fun _ _ => trivial⟩, nb⟩, ⟨o1_mk ((Wf i).mono sm mw) (sm _ _ at_), by rw [bi]; exact s3⟩, fun b H3 hS m3 e3 => ?_⟩
    rw [bi] at e3
    have hD3 : H3 D = some (.lst acc) := o1_at m3
    have ex3 : Ex (Wf 0).B H1 H3 := fun a u na h => e3 a u (fun z => (ownB_or z).elim na (fr a u h)) ((ex.trans (.of sm)) a u na h)
    have all3 := DqAll.keep e3 _ _ (DqAll.keep (.of sm) _ _ all)
    have ok3 : ∀ k, k < i + 1 → S k (if k = i then b else pp k) := fun k hk => by
      by_cases z : k = i
      · rw [if_pos z, z]
        exact hS
      · rw [if_neg z]
        exact okp k (by omega)
    have ff : (List.range (i + 1)).filter (fun k => if k = i then b else pp k) = (List.range i).filter pp ++ (if b = true then [i] else []) := by
      rw [range_filter_succ, filter_congr_lt (q := pp) fun k hk => if_neg (Nat.ne_of_lt hk)]
      simp
    cases b with
    | false =>
      refine iteF ⟨acc, _, hD3, m3.1, ex3, ok3, ?_⟩
      rw [ff, if_neg Bool.false_ne_true, List.append_nil]
      exact all3
    | true =>
      refine iteT ⟨i, D, acc, ⟨hlt, hS⟩, ⟨m3, by rw [bi]; exact s3.keep e3⟩, fun v H4 m4 e4 dv => ?_⟩
      rw [bi] at e4 dv
      have hD4 : H4 D = some (.lst acc) := o1_at m4
      have lacc : acc.length ≤ i := by
        rw [all.length, List.length_map]
        exact Nat.le_trans (List.length_filter_le _ _) (by rw [List.length_range]; exact Nat.le_refl _)
      have k4 : Ex ((Wf 0).o1 D (.lst [])).B H4 (upd H4 D (.lst (acc ++ [v]))) := fun a u na h => by
        rw [upd_ne fun z => na (by rw [z]; exact ownB_at)]
        exact h
      refine ⟨acc, hD4, Nat.lt_of_le_of_lt lacc (Nat.lt_of_lt_of_le hlt hl), acc ++ [v], _, upd_same, (F.loc (i + 1)).off (F.up (i + 1) H1 m1) hD _ _ m4.1, fun a u na h => ?_, ok3, ?_⟩
      · rw [upd_ne (fr a u h)]
        exact e4 a u (fun z => (ownB_or z).elim na (fr a u h)) (ex3 a u na h)
      · rw [ff, if_pos rfl, List.map_append]
        exact DqAll.append (DqAll.keep k4 _ _ (DqAll.keep e4 _ _ all3)) (DqAll.keep k4 _ _ (.cons dv .nil))
  · have e : i = n := by omega
    subst e
    refine .inl ⟨so.stop _ kp, q _ _ _ ⟨pp, okp, rfl⟩ mw (e1.trans ex) ?_⟩
    exact .lst nb at_ (DqAll.weak (fun a z => .inl z) _ _ all)
theorem vx_lc (F : Fam Wf) (hN : X.N.Nodup) (hl : n ≤ sizeLine) (hi : VI g X (Wf 0) ds tg iter gt (own.map (·.2)) n f) (ok : BlkOk X.N X.env.scope scope own) (hg : InB X scope fun Y => PG Y tg gt)
    (ht : ∀ i, i < n → ∀ D acc, ¬ (Wf 0).B D → InB X scope fun Y => PTs Y ifs (tXT g ((Wf i).o1 D (.lst acc)) ((Wf (i + 1)).o1 D (.lst acc)) (f i (wipeD ds (own.map (·.2)))) (S i)))
    (he : ∀ i, i < n → S i true → ∀ D acc, InB X scope fun Y => VE g Y ((Wf (i + 1)).o1 D (.lst acc)) (f i (wipeD ds (own.map (·.2)))) elt (.py (el i)))
    (hc : X.calm = true := by rfl) (hs : ∀ x, foldedSetIterable iter X.env x = pure x := by intro _; rfl) :
    VX g X (Wf 0) (Wf n) ds (.ListComp elt [⟨tg, iter, ifs, 0⟩] scope pos) (fun d => ∃ p : Nat → Bool, (∀ i, i < n → S i (p i)) ∧ d = .py (.list (((List.range n).filter p).map el))) := by
  refine PE.imp (pe_lc hc hN hi ok hg (tt := tXcT g Wf ds (own.map fun x : Str × Nat => x.2) n f S) (te := tXcE g Wf ds (own.map fun x : Str × Nat => x.2) n f S el)
    (fun s H C cl fp => PTs.exs fun i => PTs.exs fun D => PTs.exs fun acc => PTs.cond fun h => ht i h.1 D acc h.2.2 s H C cl fp)
    (fun s H C cl fp => PE.exs fun i => PE.exs fun D => PE.exs fun acc => PE.cond fun h => he i h.1 h.2 D acc s H C cl fp) hs) fun σ H Q ⟨p, q⟩ => lcX_read F hl p fun v H2 d z m e dv => q v H2 d z m e dv
end
end My
/-! Ta: tables of sets up to 2048 slots: a search meets every slot. -/
namespace My
open PySem PySem.Spec PyProof.Rows L2 StX
/-- the masks up to 1228 items -/
def BigM (m : Nat) : Prop := m = 7 ∨ m = 31 ∨ m = 127 ∨ m = 511 ∨ m = 2047
/-- no power of 5 below the period is 1 -/
def noOne (m : Nat) : Bool := (List.range m).all fun d => 5 ^ (d + 1) % (4 * (m + 1)) != 1
theorem no7 : noOne 7 = true := by decide +kernel
theorem no31 : noOne 31 = true := by decide +kernel
theorem no127 : noOne 127 = true := by decide +kernel
theorem no511 : noOne 511 = true := by decide +kernel
theorem no2047 : noOne 2047 = true := by decide +kernel
theorem BigM.one {m : Nat} (h : BigM m) : noOne m = true := by
  rcases h with e | e | e | e | e <;> rw [e]
  · exact no7
  · exact no31
  · exact no127
  · exact no511
  · exact no2047
theorem BigM.two {m : Nat} (h : BigM m) : ∃ e, 4 * (m + 1) = 2 ^ e := by
  rcases h with e | e | e | e | e <;> rw [e]
  · exact ⟨5, rfl⟩
  · exact ⟨7, rfl⟩
  · exact ⟨9, rfl⟩
  · exact ⟨11, rfl⟩
  · exact ⟨13, rfl⟩
theorem lcg_pow (m i : Nat) : ∀ k, (4 * lcgI m i k + 1) % (4 * (m + 1)) = (5 ^ k * (4 * i + 1)) % (4 * (m + 1))
  | 0 => by
    show (4 * i + 1) % _ = (5 ^ 0 * (4 * i + 1)) % _
    rw [Nat.pow_zero, Nat.one_mul]
  | k + 1 => by
    have ih := lcg_pow m i k
    show (4 * ((lcgI m i k * 5 + 1) % (m + 1)) + 1) % (4 * (m + 1)) = _
    rw [← Nat.mul_mod_mul_left, Nat.mod_add_mod]
    have e : 4 * (lcgI m i k * 5 + 1) + 1 = 5 * (4 * lcgI m i k + 1) := by omega
    have e2 : 5 ^ (k + 1) * (4 * i + 1) = 5 * (5 ^ k * (4 * i + 1)) := by rw [Nat.pow_succ, Nat.mul_comm (5 ^ k) 5, Nat.mul_assoc]
    rw [e, e2, Nat.mul_mod, ih, ← Nat.mul_mod]
theorem lcg_sep {m i : Nat} (hm : BigM m) {a d : Nat} (hd : a + (d + 1) ≤ m) : lcgI m i a ≠ lcgI m i (a + (d + 1)) := fun e => by
  have h1 := lcg_pow m i a
  have h2 := lcg_pow m i (a + (d + 1))
  rw [← e, h1] at h2
  obtain ⟨z, ez⟩ := hm.two
  rw [ez] at h2
  have e3 : 5 ^ (a + (d + 1)) * (4 * i + 1) = (5 ^ a * (4 * i + 1)) * 5 ^ (d + 1) := by
    rw [Nat.pow_add, Nat.mul_assoc, Nat.mul_comm (5 ^ (d + 1)), Nat.mul_assoc]
  rw [e3] at h2
  obtain ⟨p, ep⟩ : ∃ p, 5 ^ a * (4 * i + 1) = p := ⟨_, rfl⟩
  rw [ep] at h2
  have hp : 1 ≤ 5 ^ (d + 1) := Nat.one_le_pow _ _ (by decide)
  have odd : p % 2 = 1 := by
    rw [← ep, Nat.mul_mod, Nat.pow_mod]
    have : (4 * i + 1) % 2 = 1 := by omega
    rw [this]
    show (1 ^ a % 2) * 1 % 2 = 1
    rw [Nat.one_pow]
  have dv : 2 ^ z ∣ p * (5 ^ (d + 1) - 1) := by
    have k : (p * 5 ^ (d + 1) - p) % 2 ^ z = 0 := Nat.sub_mod_eq_zero_of_mod_eq h2.symm
    have k2 : p * (5 ^ (d + 1) - 1) = p * 5 ^ (d + 1) - p := by rw [Nat.mul_sub, Nat.mul_one]
    rw [k2]
    exact Nat.dvd_of_mod_eq_zero k
  have cp : Nat.Coprime (2 ^ z) p := by
    refine Nat.Coprime.pow_left z ?_
    show Nat.gcd 2 p = 1
    rw [Nat.gcd_rec, odd]
    rfl
  have dv2 := cp.dvd_of_dvd_mul_left dv
  have no := List.all_eq_true.mp hm.one d (List.mem_range.mpr (by omega))
  rw [ez] at no
  have : 5 ^ (d + 1) % 2 ^ z = 1 := by
    obtain ⟨q, hq⟩ := dv2
    have e5 : 5 ^ (d + 1) = 2 ^ z * q + 1 := by omega
    rw [e5, Nat.mul_add_mod]
    have : 1 < 2 ^ z := by
      rw [← ez]
      omega
    exact Nat.mod_eq_of_lt this
  rw [this] at no
  exact absurd no (by decide)
theorem lcgI_le (m : Nat) {i : Nat} (hi : i ≤ m) : ∀ k, lcgI m i k ≤ m
  | 0 => hi
  | k + 1 => Nat.le_of_lt_succ (Nat.mod_lt _ (Nat.succ_pos _))
/-- from anywhere every slot is met -/
theorem lcg_meets {m : Nat} (hm : BigM m) {i j : Nat} (hi : i ≤ m) (hj : j ≤ m) : ∃ k, k ≤ m ∧ lcgI m i k = j := by
  refine Classical.byContradiction fun z => ?_
  have nd : ((List.range (m + 1)).map (lcgI m i)).Nodup := by
    refine List.pairwise_map.mpr (List.Pairwise.imp_of_mem (R := fun a b => a < b) ?_ List.pairwise_lt_range)
    intro a b ha hb hab
    have hb := List.mem_range.mp hb
    obtain ⟨d, rfl⟩ : ∃ d, b = a + (d + 1) := ⟨b - a - 1, by omega⟩
    exact lcg_sep hm (by omega)
  have nj : j ∉ (List.range (m + 1)).map (lcgI m i) := fun h => by
    obtain ⟨k, hk, e⟩ := List.mem_map.mp h
    exact z ⟨k, Nat.le_of_lt_succ (List.mem_range.mp hk), e⟩
  have := nat_nodup_len (j :: (List.range (m + 1)).map (lcgI m i)) (List.range (m + 1)) (List.nodup_cons.mpr ⟨nj, nd⟩) fun x hx => by
    rcases List.mem_cons.mp hx with e | hx
    · rw [e]
      exact List.mem_range.mpr (by omega)
    · obtain ⟨k, _, rfl⟩ := List.mem_map.mp hx
      exact List.mem_range.mpr (Nat.lt_succ_of_le (lcgI_le m hi k))
  rw [List.length_cons, List.length_map, List.length_range] at this
  omega
/-- a run begins at every slot, early enough -/
theorem run_at {m : Nat} (hm : BigM m) (h : Int) {j : Nat} (hj : j ≤ m) : ∃ n, n ≤ m + 12 ∧ runI m (SetTable.bits h) n = j := by
  obtain ⟨k, hk, e⟩ := lcg_meets hm (runI_le m (SetTable.bits h) 12) hj
  refine ⟨12 + k, by omega, ?_⟩
  rw [runI_tail (bits_lt h)]
  exact e
theorem way_at {m : Nat} (hm : BigM m) (h : Int) {j : Nat} (hj : j ≤ m) : ∃ k, k < 10 * SetTable.turns m ∧ way m h k = j := by
  obtain ⟨n, hn, e⟩ := run_at hm h hj
  obtain ⟨k, hk, e2⟩ := run_nth m (SetTable.bits h) n
  exact ⟨k, by unfold SetTable.turns; omega, by unfold way; rw [e2]; exact e⟩
theorem way_bd (m : Nat) (h : Int) (k : Nat) : way m h k ≤ m := by
  have hi : SetTable.bits h % (m + 1) ≤ m := Nat.le_of_lt_succ (Nat.mod_lt _ (Nat.succ_pos _))
  have r := runEnd_bd hi
  have q := nth_in (m := m) k (runAt m (SetTable.bits h % (m + 1)) (SetTable.bits h)) (by
    unfold runAt
    dsimp only
    omega)
  unfold way
  omega

/-! ### a table, only what is new put in -/
structure TabG (t : SetTable) (n : Nat) : Prop where
  up : Ris t.place.toList
  nodm : t.dummies = #[]
  many : t.place.size = n
  big : BigM t.mask
  inb : ∀ x ∈ t.place.toList, x ≤ t.mask
theorem BigM.odd {m : Nat} (h : BigM m) : m % 2 = 1 := by
  rcases h with e | e | e | e | e <;> rw [e]
theorem BigM.le {m : Nat} (h : BigM m) : m ≤ 2047 := by
  rcases h with e | e | e | e | e <;> rw [e] <;> decide
theorem TabG.gap {t : SetTable} {n : Nat} (T : TabG t n) (hn : n ≤ t.mask) (h : Int) : ∃ K, K < 10 * SetTable.turns t.mask ∧ way t.mask h K ∉ t.place.toList ∧ ∀ k, k < K → way t.mask h k ∈ t.place.toList := by
  obtain ⟨j, j1, j2⟩ := st_missing t.place.toList (t.mask + 1) (by
    rw [Array.length_toList, T.many]
    exact Nat.lt_succ_of_le hn)
  obtain ⟨k, k1, k2⟩ := way_at T.big h (Nat.le_of_lt_succ j1)
  obtain ⟨K, a, b, c⟩ := st_least (p := fun k => way t.mask h k ∉ t.place.toList) k (by
    show ¬ (way t.mask h k ∈ t.place.toList)
    rw [k2]
    exact j2)
  exact ⟨K, Nat.lt_of_le_of_lt a k1, b, fun k' hk => Classical.not_not.mp (c k' hk)⟩
theorem TabG.fit {t : SetTable} {n : Nat} (T : TabG t n) (hn : n ≤ t.mask) : t.fits n = true := by
  unfold SetTable.fits SetTable.fill
  rw [T.nodm, T.many]
  simp [hn]
theorem TabG.more {t : SetTable} {n j : Nat} (T : TabG t n) (hj : j ≤ t.mask) (hn : j ∉ t.place.toList) : SetTable.below t.place j ≤ n ∧ TabG (t.put j).1 (n + 1) ∧ (t.put j).1.fill = n + 1 := by
  have c1 := (below_cut T.up j).1
  have hpl : SetTable.below t.place j ≤ t.place.toList.length := by rw [Array.length_toList]; exact c1
  have ep := put_place t j
  have esz : (t.put j).1.place.size = n + 1 := by
    have z := congrArg List.length ep
    rw [len_ins _ hpl, Array.length_toList, Array.length_toList, T.many] at z
    exact z
  refine ⟨by rw [← T.many]; exact c1, ⟨ris_insert T.up fun z => hn (List.mem_of_getElem? (by rw [Array.getElem?_toList]; exact z)), put_dm T.nodm j, esz, T.big, fun x hx => ?_⟩, ?_⟩
  · rw [ep] at hx
    exact (mem_ins.1 hx).elim (fun z => by rw [z]; exact hj) (T.inb x)
  · unfold SetTable.fill
    rw [esz, put_dm T.nodm j]
    rfl

/-! ### all laid anew -/
structure OwnG (m n : Nat) (owner : Array (Option Nat)) : Prop where
  room : owner.size = m + 1
  has : ∀ k, k < n → ∃ j, j ≤ m ∧ oAt owner j = some k
  few : ∃ ps : List Nat, ps.length = n ∧ ∀ j, j ≤ m → oAt owner j ≠ none → j ∈ ps
theorem free_at {m : Nat} (hm : BigM m) (owner : Array (Option Nat)) (h : Int) {j : Nat} (hj : j ≤ m) (hf : oAt owner j = none) :
    ∃ K, SetTable.layClean.free m owner (SetTable.turns m) (SetTable.bits h % (m + 1)) (SetTable.bits h) = some (way m h K) ∧ oAt owner (way m h K) = none := by
  obtain ⟨n, hn, e⟩ := run_at hm h hj
  obtain ⟨o, eo⟩ : ∃ o, off m (SetTable.bits h % (m + 1)) (SetTable.bits h) n = o := ⟨_, rfl⟩
  have hw : way m h o = j := by
    unfold way
    rw [← eo, nth_off, itL_run]
    exact e
  obtain ⟨K, k1, k2, k3⟩ := st_least (p := fun k => oAt owner (way m h k) = none) o (by show oAt owner (way m h o) = none; rw [hw]; exact hf)
  have k2' : oAt owner (nth m (runAt m (SetTable.bits h % (m + 1)) (SetTable.bits h)) K).j = none := k2
  refine ⟨K, free_spec m owner _ n _ _ K (by unfold SetTable.turns; omega) (by rw [eo]; exact k1) (fun k hk => ?_) (by rw [k2']; rfl), k2⟩
  cases z : oAt owner (nth m (runAt m (SetTable.bits h % (m + 1)) (SetTable.bits h)) k).j with
  | none => exact (k3 k hk z).elim
  | some _ => rfl
theorem OwnG.next {m n : Nat} {owner : Array (Option Nat)} (hm : BigM m) (O : OwnG m n owner) (hn : n ≤ m) (h : Int) :
    ∃ o', stepF m (some (owner, n)) h = some (o', n + 1) ∧ OwnG m (n + 1) o' := by
  obtain ⟨ps, p1, p2⟩ := O.few
  obtain ⟨j, j1, j2⟩ := st_missing ps (m + 1) (by omega)
  have jn : oAt owner j = none := Classical.byContradiction fun z => j2 (p2 j (Nat.le_of_lt_succ j1) z)
  obtain ⟨K, e1, e2⟩ := free_at hm owner h (Nat.le_of_lt_succ j1) jn
  have le := way_bd m h K
  obtain ⟨i, ei⟩ : ∃ i, way m h K = i := ⟨_, rfl⟩
  rw [ei] at e1 e2 le
  have self := oAt_set_self (owner := owner) (some n) (show i < owner.size by rw [O.room]; omega)
  refine ⟨_, stepF_some e1, by rw [Array.size_setIfInBounds]; exact O.room, fun k hk => ?_, i :: ps, by rw [List.length_cons, p1], fun x hx nx => ?_⟩
  · rcases Nat.lt_or_ge k n with c | c
    · obtain ⟨y, y1, y2⟩ := O.has k c
      exact ⟨y, y1, by rw [oAt_set_ne _ fun z => by rw [z, e2] at y2; cases y2]; exact y2⟩
    · exact ⟨i, le, by rw [self, show k = n by omega]⟩
  · by_cases c : x = i
    · rw [c]
      exact List.mem_cons_self
    · rw [oAt_set_ne _ c] at nx
      exact List.mem_cons_of_mem _ (p2 x hx nx)
theorem lay_all {m : Nat} (hm : BigM m) : ∀ (rest : List Int) (n : Nat) (owner : Array (Option Nat)), OwnG m n owner → n + rest.length ≤ m → ∃ o', rest.foldl (stepF m) (some (owner, n)) = some (o', n + rest.length) ∧ OwnG m (n + rest.length) o'
  | [], n, owner, O, _ => ⟨owner, rfl, O⟩
  | h :: rest, n, owner, O, hl => by
    rw [List.length_cons] at hl
    obtain ⟨o1, e1, O1⟩ := O.next hm (by omega) h
    obtain ⟨o2, e2, O2⟩ := lay_all hm rest (n + 1) o1 O1 (by omega)
    have ez : n + 1 + rest.length = n + (h :: rest).length := by rw [List.length_cons]; omega
    rw [ez] at e2 O2
    exact ⟨o2, by rw [List.foldl_cons, e1]; exact e2, O2⟩
theorem relaidG (t : SetTable) {hs : Array Int} {wanted M : Nat} (hw : SetTable.sizeAbove wanted - 1 = M) (hM : BigM M) (hn : hs.size ≤ M) :
    ∃ t' order, t.relaid hs wanted = some (t', order) ∧ order.toList.Perm (List.range hs.size) ∧ TabG t' hs.size ∧ t'.mask = M ∧ t'.led = t.led ∧ t'.plain = t.plain := by
  obtain ⟨owner, f, O⟩ := lay_all hM hs.toList 0 (Array.replicate (M + 1) none) ⟨by simp, fun k hk => absurd hk (Nat.not_lt_zero _), [], rfl, fun j hj z => (z (oAt_init hj)).elim⟩ (by rw [Nat.zero_add]; exact hn)
  rw [Nat.zero_add] at f O
  have O : OwnG M hs.size owner := O
  have hr : t.relaid hs wanted = some (tabOf t M owner, ((liveOf M owner).map (·.2)).toArray) := by
    rw [relaid_eq, hw, layClean_eq, f]
    rfl
  obtain ⟨r1, r2⟩ := ris_live (fun j => owner.getD j none) (List.range (M + 1)) List.pairwise_lt_range
  have r1 : Ris ((liveOf M owner).map (·.1)) := r1
  have r2 : ∀ x ∈ (liveOf M owner).map (·.1), x ∈ List.range (M + 1) := r2
  have all : ∀ k, k < hs.size → k ∈ (liveOf M owner).map (·.2) := fun k hk => by
    obtain ⟨j, b1, b2⟩ := O.has k hk
    exact List.mem_map.mpr ⟨(j, k), (mem_live O.room).2 ⟨b1, b2⟩, rfl⟩
  have len : (liveOf M owner).length = hs.size := by
    obtain ⟨ps, p1, p2⟩ := O.few
    have dif : ((liveOf M owner).map (·.1)).Nodup := r1.imp fun z => Nat.ne_of_lt z
    have a := nat_nodup_len _ ps dif fun x hx => by
      obtain ⟨⟨y, k⟩, hq, e⟩ := List.mem_map.mp hx
      have e : y = x := e
      rw [← e]
      obtain ⟨b1, b2⟩ := (mem_live O.room).1 hq
      exact p2 y b1 fun z => by rw [b2] at z; cases z
    have b := nat_nodup_len (List.range hs.size) _ List.nodup_range fun k hk => all k (List.mem_range.mp hk)
    rw [List.length_map] at a b
    rw [List.length_range] at b
    omega
  refine ⟨_, _, hr, perm_range _ _ (by show ((liveOf M owner).map (·.2)).length = _; rw [List.length_map, len]) all, ⟨r1, rfl, ?_, hM, fun x hx => Nat.le_of_lt_succ (List.mem_range.mp (r2 x hx))⟩, rfl, rfl, rfl⟩
  show ((liveOf M owner).map (·.1)).toArray.size = hs.size
  rw [List.size_toArray, List.length_map, len]
end My
/-! Tb: a set of many tuples, each new one added. -/
namespace My
open PySem PySem.Spec PyProof.Rows L2 StX
/-- the c-th stand of a search -/
def stp (m : Nat) (h : Int) (c : Nat) : SetTable.Probe := nth m (runAt m (SetTable.bits h % (m + 1)) (SetTable.bits h)) c
theorem stp_add (m : Nat) (h : Int) (c q : Nat) : nth m (stp m h c) q = stp m h (c + q) := (nth_add m c _ q).symm
theorem nth_clean (m : Nat) : ∀ (n : Nat) (p : SetTable.Probe), p.dummy = none → (nth m p n).dummy = none
  | 0, _, h => h
  | n + 1, p, h => nth_clean m n (adv m p) (by
    unfold adv
    split
    · exact h
    · exact h)
/-- the set at a, its tuples L as its table has them -/
structure BigR (P : Program) (w : World) (h : Heap) (a : Addr) (L : List (Addr × List Int)) (o : Obj) (es : Array (Int × Value)) (ep : Nat) (t : SetTable) : Prop where
  at_ : h.get? a = some o
  ex : o.ExactSet
  dat : o.data = .set es ep t
  rws : es.toList = rowsOf P w L
  tb : TabG t L.length
  pln : t.plain = true
  ld : w.params.followText "set-order" = true ∨ t.led = true
  rm : L.length * 5 < t.mask * 3
def BigS (P : Program) (w : World) (a : Addr) (L : List (Addr × List Int)) (h : Heap) : Prop := ∃ o es ep t, BigR P w h a L o es ep t
theorem rows_size {P : Program} {w : World} {L : List (Addr × List Int)} {es : Array (Int × Value)} (h : es.toList = rowsOf P w L) : es.size = L.length := by
  rw [← Array.length_toList, h]
  unfold rowsOf
  rw [List.length_map]
section
variable {P : Program} {w : World} {A : Around} {E : Value → Shared → Prop} {s : Shared} {a : Addr} {L : List (Addr × List Int)} {o : Obj} {es : Array (Int × Value)} {ep : Nat} {t : SetTable}
theorem BigR.le (R : BigR P w s.heap a L o es ep t) : L.length ≤ t.mask := by
  have := R.rm
  omega
theorem BigR.ft (R : BigR P w s.heap a L o es ep t) : t.fits es.size = true := by
  rw [rows_size R.rws]
  exact R.tb.fit R.le
theorem BigR.row (R : BigR P w s.heap a L o es ep t) {i : Nat} {p : Addr × List Int} (h : L[i]? = some p) : es[i]? = some (thash P w p.2, Value.ref p.1) := by
  have e : es.toList[i]? = some (thash P w p.2, Value.ref p.1) := by
    rw [R.rws]
    unfold rowsOf
    rw [List.getElem?_map, h]
    rfl
  rw [← e, Array.getElem?_toList]
/-- the search for what is not there -/
theorem seekG (R : BigR P w s.heap a L o es ep t) (hL : ∀ p ∈ L, IsT P w s.heap p.2 p.1) {x : Addr} {k : List Int} (hx : IsT P w s.heap k x) (hk : k ∉ L.map (·.2)) (hu : A.units < cLine) {h : Int} {K : Nat} (hKf : K < 10 * SetTable.turns t.mask)
    (hK : way t.mask h K ∉ t.place.toList) (hb : ∀ c, c < K → way t.mask h c ∈ t.place.toList) {Q : SetFound → Shared → Prop} (q : Q (.free (way t.mask h K) false) s) :
    ∀ (f c : Nat) (stand : Option SetTable.Probe), stand.getD (t.probeStart h) = stp t.mask h c → c ≤ K → K - c < f → wpAny (model P w) A (setSearchFrom a (.ref x) h true f stand) Q E s
  | 0, _, _, _, _, hf => absurd hf (Nat.not_lt_zero _)
  | f + 1, c, stand, hst, hc, hf => by
    have gw : ¬ (t.gaveWay = true) := by
      unfold SetTable.gaveWay
      rw [R.tb.big.odd]
      decide
    rw [setSearchFrom_succ]
    refine wpAny_bind (wpAny_setState_of R.at_ R.dat R.ft ?_)
    dsimp only
    refine wp_if_neg gw ?_
    try refine wpAny_bind (wpAny_pure ?_)
    have e1 : ∀ q, (nth t.mask (stp t.mask h c) q).j = way t.mask h (c + q) := fun q => by
      rw [stp_add]
      rfl
    rcases go_spec t R.tb.up R.tb.nodm (fun i => (es[i]?.map (·.1)).getD 0) h (10 * SetTable.turns t.mask) (K - c) (stp t.mask h c) (nth_clean _ _ _ rfl) (by omega) (fun q hq => by
      rw [e1]
      exact hb _ (by omega)) (by
      rw [e1, show c + (K - c) = K by omega]
      exact hK) with ⟨q', i, hq, hi, -, -, hp⟩ | ⟨-, hp⟩
    · have hp' : t.probe (fun i => (es[i]?.map (·.1)).getD 0) h (stand.getD (t.probeStart h)) = some (.candidate (way t.mask h (c + q')) i (stp t.mask h (c + (q' + 1)))) := by
        rw [hst, ← e1, ← stp_add]
        exact hp
      rw [hp']
      dsimp only
      rw [e1] at hi
      have hil : i < L.length := by
        have z := (List.getElem?_eq_some_iff.mp hi).1
        rw [Array.length_toList, R.tb.many] at z
        exact z
      obtain ⟨p, ep⟩ : ∃ p, L[i] = p := ⟨_, rfl⟩
      have hp : L[i]? = some p := by rw [List.getElem?_eq_getElem hil, ep]
      have hm : p ∈ L := List.mem_of_getElem? hp
      have ne : p.2 ≠ k := fun z => hk (List.mem_map.mpr ⟨p, hm, z⟩)
      have rest : wpAny (model P w) A (searchRest a (.ref x) h true f es t (way t.mask h (c + q')) i (stp t.mask h (c + (q' + 1)))) Q E s := by
        unfold searchRest
        rw [R.row hp]
        dsimp only
        refine wpAny_bind (wpAny_holding (wpAny_eqBool_tuple hu (hL p hm) hx ?_))
        refine wpAny_bind (wpAny_setState_of R.at_ R.dat R.ft ?_)
        dsimp only
        rw [decide_eq_false ne]
        refine wp_if_neg (by simp) ?_
        try refine wpAny_bind (wpAny_pure ?_)
        rw [sameMem]
        dsimp only
        have hs : t.slot (way t.mask h (c + q')) = .live i := slot_live R.tb.up hi
        simp only [if_true, hs, R.row hp]
        refine wpAny_bind (wpAny_isSame_ref_self (wpAny_bind (wpAny_pure ?_)))
        simp only [if_true]
        refine wp_if_neg (by simp) ?_
        exact seekG R hL hx hk hu hKf hK hb q f (c + (q' + 1)) _ rfl (by omega) (by omega)
      by_cases hl : t.led = true
      · refine wp_if_neg (by rw [hl]; decide) ?_
        try refine wpAny_bind (wpAny_pure ?_)
        exact rest
      · refine wp_if_pos (by rw [Bool.not_eq_true] at hl; rw [hl]; rfl) ?_
        refine wpAny_bind (seen_tup hx (fun y hy => ?_) (wp_if_neg (by decide) ?_))
        · obtain ⟨e, he, ee⟩ := List.mem_map.mp hy
          have he1 : e ∈ es ∧ e.1 = h := by simpa using he
          have he2 : e ∈ rowsOf P w L := by rw [← R.rws]; simpa using he1.1
          obtain ⟨p2, hp2, e2⟩ := List.mem_map.mp he2
          exact ⟨p2.2, p2.1, by rw [← ee, ← e2], hL p2 hp2⟩
        · try refine wpAny_bind (wpAny_pure ?_)
          exact rest
    · have hp' : t.probe (fun i => (es[i]?.map (·.1)).getD 0) h (stand.getD (t.probeStart h)) = some (.empty (way t.mask h K) none) := by
        have e2 : way t.mask h K = (nth t.mask (stp t.mask h c) (K - c)).j := by rw [e1, show c + (K - c) = K by omega]
        rw [hst, e2]
        exact hp
      rw [hp']
      dsimp only
      exact wpAny_pure q
/-- all laid anew -/
theorem relayG (ho : s.heap.get? a = some o) (hx : o.ExactSet) (hd : o.data = .set es ep t) (hr : es.toList = rowsOf P w L) (hf : t.fits es.size = true) (pl : t.plain = true) (ld : w.params.followText "set-order" = true ∨ t.led = true) {wanted M : Nat}
    (hw : SetTable.sizeAbove wanted = M + 1) (hM : BigM M) (hn : L.length * 5 < M * 3) {Q : Unit → Shared → Prop}
    (hQ : ∀ h' L' o' es' ep' t', Heap.SameBut a s.heap h' → BigR P w h' a L' o' es' ep' t' → L'.Perm L → Q () { s with heap := h' }) : wpAny (model P w) A (setRelay a wanted) Q E s := by
  have sz := rows_size hr
  have bd := hM.le
  obtain ⟨t', order, e, pm, T, em, el, ep'⟩ := relaidG t (hs := es.map (·.1)) (wanted := wanted) (M := M) (by rw [hw]; rfl) hM (by rw [Array.size_map, sz]; omega)
  rw [Array.size_map, sz] at pm T
  obtain ⟨L2, r1, r2, -⟩ := order_rows L es order hr pm
  have sz2 : (order.filterMap (es[·]?)).size = L.length := by rw [rows_size r1, r2.length_eq]
  rw [setRelay_eq]
  refine wpAny_bind (wpAny_setState_of ho hd hf ?_)
  dsimp only
  refine wp_if_neg (by rw [hw, sizeLine_eq]; omega) ?_
  try refine wpAny_bind (wpAny_pure ?_)
  rw [e]
  dsimp only
  refine wpAny_bind (wp_if_neg (by rw [sz2, sz]; simp) ?_)
  try refine wpAny_bind (wpAny_pure ?_)
  refine wpAny_pure ?_
  dsimp only
  refine wpAny_storeSet_of ho hd ?_ (by rw [sz2, sizeLine_eq]; omega)
  exact hQ _ L2 _ (order.filterMap (es[·]?)) (ep + 1) t' (Heap.SameBut.update ..) ⟨store_at ho hd, ⟨hx.1, hx.2.1, hx.2.2⟩, rfl, r1, by rw [r2.length_eq]; exact T, ep'.trans pl, by rw [el]; exact ld, by rw [r2.length_eq, em]; exact hn⟩ r2
theorem size5 : SetTable.sizeAbove (SetTable.grown 5) = 31 + 1 := by decide +kernel
theorem size19 : SetTable.sizeAbove (SetTable.grown 19) = 127 + 1 := by decide +kernel
theorem size77 : SetTable.sizeAbove (SetTable.grown 77) = 511 + 1 := by decide +kernel
theorem size307 : SetTable.sizeAbove (SetTable.grown 307) = 2047 + 1 := by decide +kernel
/-- a new one added -/
theorem addG (R : BigR P w s.heap a L o es ep t) (hL : ∀ p ∈ L, IsT P w s.heap p.2 p.1) {x : Addr} {k : List Int} (hx : IsT P w s.heap k x) (hk : k ∉ L.map (·.2)) (hu : A.units < cLine) (hl : L.length < 1228) {Q : Bool → Shared → Prop}
    (hQ : ∀ h' L' o' es' ep' t', Heap.SameBut a s.heap h' → BigR P w h' a L' o' es' ep' t' → L'.Perm ((x, k) :: L) → Q true { s with heap := h' }) :
    wpAny (model P w) A (setAddHashed a (.ref x) (thash P w k)) Q E s := by
  obtain ⟨h, eh⟩ : ∃ h, thash P w k = h := ⟨_, rfl⟩
  obtain ⟨K, hKf, hK, hb⟩ := R.tb.gap R.le h
  have rm := R.rm
  have bd := R.tb.big.le
  rw [eh]
  unfold setAddHashed
  refine wpAny_holding ?_
  rw [show (100000 : Nat) = 99999 + 1 from rfl, setAddHashedIn_succ]
  refine wpAny_bind (wpAny_setState_of R.at_ R.dat R.ft ?_)
  dsimp only
  refine wp_if_neg (by simp [byScan, Value.scannable]) ?_
  try refine wpAny_bind (wpAny_pure ?_)
  unfold setSearch
  refine wpAny_bind (seekG R hL hx hk hu hKf hK hb ?_ 100000 0 none rfl (Nat.zero_le _) (by unfold SetTable.turns at hKf; omega))
  dsimp only
  refine wpAny_bind (wpAny_setState_of R.at_ R.dat R.ft ?_)
  dsimp only
  obtain ⟨j, ej⟩ : ∃ j, way t.mask h K = j := ⟨_, rfl⟩
  have hj := way_bd t.mask h K
  rw [ej] at hK hj ⊢
  obtain ⟨q1, T1, fl⟩ := R.tb.more hj hK
  have pl1 : (t.put j).1.plain = true := R.pln
  have ld1 : w.params.followText "set-order" = true ∨ (t.put j).1.led = true := R.ld
  have mk1 : (t.put j).1.mask = t.mask := rfl
  have pb : (t.put j).2 = SetTable.below t.place j := rfl
  generalize t.put j = pt at T1 fl pl1 ld1 mk1 pb ⊢
  obtain ⟨t1, p⟩ := pt
  dsimp only at T1 fl pl1 ld1 mk1 pb ⊢
  subst pb
  generalize SetTable.below t.place j = p at q1 ⊢
  first
    | refine wp_if_pos pl1 (wpAny_bind (hashBy_tup hx ?_))
    | refine wpAny_bind (wp_if_pos pl1 (hashBy_tup hx ?_))
  simp only [if_true]
  have hin : (SetTable.insertAt es p (h, Value.ref x)).toList = rowsOf P w (L.take p ++ (x, k) :: L.drop p) := by
    rw [SetTable.toList_insertAt, R.rws, rows_put, eh]
  have pm := put_perm L p (x, k)
  generalize SetTable.insertAt es p (h, Value.ref x) = es1 at hin ⊢
  generalize L.take p ++ (x, k) :: L.drop p = L1 at pm hin
  have n1 : L1.length = L.length + 1 := pm.length_eq
  have z1 : es1.size = L.length + 1 := by rw [rows_size hin, n1]
  refine wpAny_bind (wpAny_storeSet_of R.at_ R.dat ?_ (by rw [z1, sizeLine_eq]; omega))
  have sb := Heap.SameBut.update s.heap a (Obj.putSet es1 t1)
  have o1 := store_at (es' := es1) (t' := t1) R.at_ R.dat
  generalize s.heap.update a (Obj.putSet es1 t1) = h1 at sb o1 ⊢
  have xs := R.ex
  have ft1 : t1.fits es1.size = true := by rw [z1]; exact T1.fit (by rw [mk1]; omega)
  by_cases hf : t1.tooFull = true
  · have full : (L.length + 1) * 5 ≥ t.mask * 3 := by
      unfold SetTable.tooFull at hf
      rw [decide_eq_true_eq, fl, mk1] at hf
      exact hf
    have go : ∀ M, SetTable.sizeAbove (SetTable.grown (L.length + 1)) = M + 1 → BigM M → (L.length + 1) * 5 < M * 3 → wpAny (model P w) A (setRelay a (SetTable.grown (es.size + 1))) (fun _ s' => wpAny (model P w) A (pure true) Q E s') E { s with heap := h1 } := fun M g1 g2 g3 => by
      rw [rows_size R.rws]
      exact relayG (s := { s with heap := h1 }) o1 ⟨xs.1, xs.2.1, xs.2.2⟩ rfl hin ft1 pl1 ld1 g1 g2 (by rw [n1]; exact g3) fun h2 L2 o2 es2 ep2 t2 sb2 R2 pm2 => wpAny_pure (hQ h2 L2 o2 es2 ep2 t2 (sb.trans sb2) R2 (pm2.trans pm))
    have big : wpAny (model P w) A (setRelay a (SetTable.grown (es.size + 1))) (fun _ s' => wpAny (model P w) A (pure true) Q E s') E { s with heap := h1 } := by
      rcases R.tb.big with e | e | e | e | e <;> rw [e] at full rm
      · exact go 31 (by rw [show L.length + 1 = 5 by omega]; exact size5) (.inr (.inl rfl)) (by omega)
      · exact go 127 (by rw [show L.length + 1 = 19 by omega]; exact size19) (.inr (.inr (.inl rfl))) (by omega)
      · exact go 511 (by rw [show L.length + 1 = 77 by omega]; exact size77) (.inr (.inr (.inr (.inl rfl)))) (by omega)
      · exact go 2047 (by rw [show L.length + 1 = 307 by omega]; exact size307) (.inr (.inr (.inr (.inr rfl)))) (by omega)
      · omega
    first
      | (refine wpAny_bind ?_; refine wp_if_pos (by rw [hf]; rfl) ?_; exact big)
      | (refine wp_if_pos (by rw [hf]; rfl) ?_; refine wpAny_bind ?_; exact big)
  · first
      | refine wp_if_neg (by simp [hf]) ?_
      | (refine wpAny_bind ?_; refine wp_if_neg (by simp [hf]) ?_; refine wpAny_pure ?_)
    refine wpAny_pure (hQ h1 L1 _ es1 (ep + 1) t1 sb ⟨o1, ⟨xs.1, xs.2.1, xs.2.2⟩, rfl, hin, by rw [n1]; exact T1, pl1, ld1, ?_⟩ pm)
    unfold SetTable.tooFull at hf
    rw [decide_eq_true_eq, fl, mk1] at hf
    rw [n1, mk1]
    omega
end
end My
/-! CoS: len of a set comprehension of tuples. -/
namespace My
open PySem PySem.Spec PyProof.Rows L2 StX
def bigO (P : Program) (w : World) (a : Addr) (L : List (Addr × List Int)) : HO := .ext (BigS P w a L)
theorem bigO_new {P : Program} {w : World} {H : Hp} {h : Heap} {a : Addr} {L : List (Addr × List Int)} (R : BigS P w a L h) : ObjOk P w H h a (bigO P w a L) := by
  obtain ⟨o, es, ep, t, r⟩ := id R
  exact ⟨R, ⟨o, r.at_⟩, fun h1 h2 ⟨o, es, ep, t, r⟩ k => ⟨o, es, ep, t, k o r.at_, r.ex, r.dat, r.rws, r.tb, r.pln, r.ld, r.rm⟩⟩
def freshS (w : World) : Obj := { cls := .type "set", dict := none, data := .set #[] 0 (.fresh 0 0 (!w.params.followText "set-order")) }
theorem big_empty (P : Program) (w : World) (h : Heap) : BigS P w h.objs.size [] (h.push (freshS w)) :=
  ⟨_, #[], 0, _, Heap.get?_push_size _ rfl, ⟨rfl, rfl, rfl⟩, rfl, rfl, ⟨List.Pairwise.nil, rfl, rfl, .inl rfl, fun x hx => by cases hx⟩, rfl, by
    show _ ∨ (!w.params.followText "set-order") = true
    cases w.params.followText "set-order"
    · exact .inr rfl
    · exact .inl rfl, by
    show 0 * 5 < 7 * 3
    decide⟩
section
variable {P : Program} {w : World} {A : Around} {E : Value → Shared → Prop} {s : Shared} {a : Addr} {L : List (Addr × List Int)}
/-- the call of add, what is added new -/
theorem addC (R : BigS P w a L s.heap) (hL : ∀ p ∈ L, IsT P w s.heap p.2 p.1) {x : Addr} {k : List Int} (hx : IsT P w s.heap k x) (hk : k ∉ L.map (·.2)) (hu : A.in1.units < cLine) (hl : L.length < 1228) {Q : Value → Shared → Prop}
    (hQ : ∀ h' L' tk, Heap.SameBut a s.heap h' → BigS P w a L' h' → L'.Perm ((x, k) :: L) → Q .none { s with heap := h', toks := tk }) : wpAny (model P w) A (call (.builtin "set.add") [.ref a, .ref x]) Q E s := by
  obtain ⟨o, es, ep, t, r⟩ := R
  refine wpAny_call_entry F.slot_set_add (⟨o, r.at_, r.ex.1⟩ : s.TypeIs (.ref a) "set") F.entry_set_add (?_ : wpAny _ A.in1 _ _ _ _) (F.args_set_add_2 _ _)
  unfold Builtin.«set.add» Builtin.Frozenset.oneOther Builtin.Frozenset.addrOf
  simp only [List.isEmpty_nil, bind_assoc]
  unfold setAdd
  refine wpAny_bind (wpAny_pure ?_)
  try dsimp only
  refine wpAny_bind (wpAny_pure ?_)
  try dsimp only
  refine wpAny_bind (wpAny_holding (wpAny_bind (wpAny_pyHash_tuple hu hx ?_)))
  refine addG (s := { s with toks := s.toks + (k.length + 1) }) r hL hx hk hu hl fun h' L' o' es' ep' t' sb r' pm => ?_
  show wpAny _ _ (ret Value.none) _ _ _
  exact wpAny_pure ⟨_, rfl, hQ h' L' _ sb ⟨o', es', ep', t', r'⟩ pm⟩
end
def stepS (X : Cx) (elt : Expr) : StepK := fun ce D K s => wpAny (model X.prog X.w) X.A (eval elt ce) (fun v s1 => wpAny (model X.prog X.w) X.A (call (.builtin "set.add") [.ref D, v]) (fun _ s2 => K s2) noE s1) noE s
theorem comps_set {X : Cx} {elt tg iter : Expr} {scope : Scope} {pos : Pos} : Comps X (.SetComp elt [⟨tg, iter, [], 0⟩] scope pos) tg iter (newSet (.type "set")) (freshS X.w) (stepS X elt) where
  cl := rfl
  made := fun s Q E h => PpSet.newSet_ok h
  start := fun ce D it R s h q => PpSet.codeAny_compStart_set h (q _ _ h)
  loop := fun ce D it R J turn n s h => PpSet.compLoopS_any J (fun n s j => thnF (turn n s j) fun r s1 h1 => by
    rcases h1 with ⟨rfl, h1⟩ | ⟨v, rfl, h1⟩
    · exact h1
    · exact thnF h1 fun _ s2 h2 => thnF h2 fun _ s3 h3 => wpAny_tests_nil (by
        rw [if_pos rfl]
        exact thnF h3 fun _ s4 h4 => thnF h4 fun _ s5 h5 => h5)) n h
  mono := fun ce D K K' s h k => thn h fun _ _ h1 => thn h1 fun _ s2 h2 => k s2 h2
/-- as comp_read, the end free -/
theorem comp_readX {g : Gc} {W : Wd} {ds : Ds} {gt : TG} {vs : List Nat} {n : Nat} {f : Nat → Ds → Ds} (L : W.Loc) {o0 : Addr → HO} {t : TSt} (Od : Addr → Nat → HO → Hp → Prop)
    (keepO : ∀ D i o H H', Ex (W.o1 D o).B H H' → Od D i o H → Od D i o H') (h0 : ∀ D H, Od D 0 (o0 D) H)
    (ht : ∀ i, i < n → ∀ D o σ H Nx, W.Off D → Pre g (W.o1 D o) (f i (wipeD ds vs)) σ H → Od D i o H → (∀ o' H', W.M H' → Ex (W.o1 D o).B H H' → H' D = some o' → Od D (i + 1) o' H' → Nx H') → t D σ H Nx)
    {σ : L2.St} {H : Hp} {Q : VK} (p : Pre g W ds σ H) (q : ∀ D o H2, W.M H2 → Ex W.B H H2 → H2 D = some o → Od D n o H2 → Q (.ref D) H2) :
    tCm (tI g W ds gt vs n f) gt o0 t vs σ H Q := by
  refine ⟨p, fun J H1 m1 e1 src D hD => ?_⟩
  have fr : ∀ a o, H1 a = some o → a ≠ D := fun a o e z => nn (by rw [← z]; exact e) hD
  have hB : ∀ a, (W.o1 D (o0 D)).B a → W.B a ∨ H1 a = none := fun a z => (ownB_or z).imp id fun z => by rw [z]; exact hD
  obtain ⟨Kp, so, k1⟩ := src _ hB
  have exK : ∀ {H' : Hp}, Ex W.B H1 H' → Ex (W.o1 D (o0 D)).B H1 H' := fun e => e.mono fun a z => .inl z
  refine ⟨fun i m H' => m = n - i ∧ i ≤ n ∧ ∃ o, H' D = some o ∧ W.M H' ∧ Ex W.B H1 H' ∧ Od D i o H', ⟨n, by simp, Nat.zero_le _, o0 D, upd_same, W.mono (same_new hD) m1, .of (same_new hD), h0 D _⟩, ?_⟩
  rintro i m H' ⟨rfl, hi, o, at1, m2, e2, od⟩
  have kp := so.keep _ _ (exK e2) k1
  by_cases hlt : i < n
  · refine .inr ⟨so.go i H' hlt kp, fun H'' => ∃ o, H'' D = some o ∧ W.M H'' ∧ Ex W.B H1 H'' ∧ Od D (i + 1) o H'', fun H'' z => ⟨n - (i + 1), by omega, rfl, hlt, z⟩, fun x H3 y => ?_⟩
    obtain ⟨sm, tu⟩ := so.turn i H' x H3 hlt kp y
    have s2 : Sl g (W.o1 D (o0 D)).B H3 (wipe σ vs) (wipeD ds vs) := (((p.2.keep e1).ban hB).keep (exK (e2.trans (.of sm)))).wipe vs
    refine tu (wipe σ vs) _ _ s2 fun σ4 s4 hw => ⟨by rw [hw, wipe_sub fun v hv => hv], ?_⟩
    have s5 : Sl g (W.o1 D o).B H3 σ4 (f i (wipeD ds vs)) := s4
    refine ht i hlt D o σ4 H3 _ (L.off m1 hD) ⟨o1_mk (W.mono sm m2) (sm _ _ at1), s5⟩ (keepO D i o _ _ (.of sm) od) fun o' H5 m5 e5 at5 od5 => ?_
    exact ⟨o', at5, m5, fun a u na h => e5 a u (fun z => (ownB_or z).elim na (fr a u h)) ((e2.trans (.of sm)) a u na h), od5⟩
  · have e : i = n := by omega
    subst e
    exact .inl ⟨so.stop _ kp, q D o _ m2 (e1.trans e2) at1 od⟩
section
variable {g : Gc} {X : Cx} {W : Wd} {ds : Ds} {e elt : Expr} {scope : Scope} {y : Str} {pos p p2 p3 : Pos} {k : Nat}
def tBig (g : Gc) (P : Program) (w : World) (W : Wd) (ds : Ds) (n : Nat) : TE := fun σ H Q => Pre g W ds σ H ∧ ∀ D L H2, W.M H2 → Ex W.B H H2 → H2 D = some (bigO P w D L) → L.length = n → Q (.ref D) H2
theorem pe_big (j : Nat) (ts : List (List Int)) (hr : Room k X.A) (hN : X.N.Nodup) (L : W.Loc) (hn : ts.Nodup) (hl : ts.length ≤ 1228)
    (hi : VI g X W ds (.Name y p2) e (gName j) [j] (ts.map TD).length (fun i ds' => ds'.set j (some (.py ((ts.map TD).getD i .none)))))
    (hk : ∀ t, t ∈ ts → ∀ D o, InB X scope fun Y => VE g Y (W.o1 D o) ((wipeD ds [j]).set j (some (.py (TD t)))) elt (.py (TD t)))
    (ok : blkB X.N X.env.scope scope [(y, j)] = true) (hc : X.calm = true) (hyi : X.N[j]? = some y) (hyl : scope.names.lookup y = some .local ∨ scope.names.lookup y = some .cell)
    (hs : ∀ x, foldedSetIterable e X.env x = pure x) : PE X (.SetComp elt [⟨.Name y p2, e, [], 0⟩] scope p3) (tBig g X.prog X.w W ds ts.length) := by
  let t : TSt := fun D σ H Nx => ∃ i o K, i < ts.length ∧ o = bigO X.prog X.w D K ∧ Pre g (W.o1 D o) ((wipeD ds [j]).set j (some (.py (TD (ts.getD i []))))) σ H ∧ K.length < 1228 ∧ ts.getD i [] ∉ K.map (·.2) ∧ (∀ p ∈ K, ¬ (W.o1 D o).B p.1 ∧ H p.1 = some (.tup (p.2.map V.int))) ∧
    ∀ x K' H', W.M H' → Ex (W.o1 D o).B H H' → ¬ (W.o1 D o).B x → H' x = some (.tup ((ts.getD i []).map V.int)) → K'.Perm ((x, ts.getD i []) :: K) → Nx (upd H' D (bigO X.prog X.w D K'))
  have hb : InB X scope fun Y => PB Y (stepS X elt) t := by
    intro s H C cl fp pins D s' σ' H' Nx I ⟨i, o, K, hi, ho, p, hz, hnew, hK, q⟩
    have hti : ts.getD i [] ∈ ts := by
      rw [List.getD_eq_getElem?_getD, List.getElem?_eq_getElem hi]
      exact List.getElem_mem hi
    refine thn ((hk _ hti D o s H C cl fp).run pins s' σ' H' _ I ⟨p, fun v1 H2 m2 e2 d2 => (⟨m2, e2, d2⟩ : (W.o1 D o).M H2 ∧ Ex (W.o1 D o).B H' H2 ∧ DV g (W.o1 D o).B H2 v1 (.py (TD (ts.getD i []))))⟩) fun u1 s2 ⟨v1, H2, I2, r1, m2, e2, d2⟩ => ?_
    cases d2 with
    | @tup b us _ nb hA da =>
      have eu := DqAll.ints_eq da
      subst eu
      cases r1
      have hD : H2 D = some (bigO X.prog X.w D K) := by rw [← ho]; exact o1_at m2
      have R : BigS X.prog X.w D K s2.heap := (I2.hok D _ hD).1
      refine addC R (fun p hp => Inv.isT (X := X.blk s H scope (compEnvC scope cl C X.env) fp) I2 (SqT.of (e2 _ _ (hK p hp).1 (hK p hp).2))) (Inv.isT (X := X.blk s H scope (compEnvC scope cl C X.env) fp) I2 (SqT.of hA)) hnew (by have := hr.un; show X.A.units + 1 < cLine; omega) hz fun h3 K' tk sb R3 pm => ?_
      refine ⟨_, d_write (X := X.blk s H scope (compEnvC scope cl C X.env) fp) (ob := bigO X.prog X.w D K') I2 (by rw [hD]; exact True.intro) sb ?_ (bigO_new R3), q b K' H2 m2.1 e2 nb hA pm⟩
      obtain ⟨o3, _, _, _, r3⟩ := R3
      exact ⟨o3, r3.at_⟩
  refine ⟨fun pins s σ H Q I ⟨p, q⟩ => ?_⟩
  rw [arm_eval_SetComp]
  refine comp_core (own := [(y, j)]) (o0 := fun D => bigO X.prog X.w D []) (t := t) comps_set (fun H2 s2 I2 => bigO_new (big_empty X.prog X.w s2.heap)) rfl hc hN I hi (blk_of ok) (pgI hN hyi hyl) hb hs ?_
  refine comp_readX L (fun D i o H => i ≤ ts.length ∧ ∃ K, o = bigO X.prog X.w D K ∧ K.length = i ∧ (∀ p ∈ K, p.2 ∈ ts.take i) ∧ ∀ p ∈ K, ¬ (W.o1 D o).B p.1 ∧ H p.1 = some (.tup (p.2.map V.int)))
    (fun D i o H H' ex ⟨h1, K, h2, h3, h4, h5⟩ => ⟨h1, K, h2, h3, h4, fun p hp => ⟨(h5 p hp).1, ex _ _ (h5 p hp).1 (h5 p hp).2⟩⟩) (fun D H => ⟨Nat.zero_le _, [], rfl, rfl, (fun p hp => by cases hp), fun p hp => by cases hp⟩) ?_ p ?_
  · rintro i hi D o σ' H' Nx off p' ⟨_, K, rfl, h3, h4, h5⟩ nx
    rw [List.length_map] at hi
    have et : ts.getD i [] = ts[i] := by rw [List.getD_eq_getElem?_getD, List.getElem?_eq_getElem hi]; rfl
    have tk1 : ts.take (i + 1) = ts.take i ++ [ts[i]] := by
      rw [List.take_add_one, List.getElem?_eq_getElem hi]
      rfl
    refine ⟨i, _, K, hi, rfl, ?_, by omega, ?_, h5, fun x K' H2 m2 e2 nb hA pm => ?_⟩
    · rw [et, ← map_getD (c := TD) hi]
      exact p'
    · rw [et]
      intro h
      obtain ⟨p0, hp0, e0⟩ := List.mem_map.mp h
      have ht' := h4 p0 hp0
      rw [e0] at ht'
      obtain ⟨m, hm, em⟩ := List.mem_iff_getElem.mp ht'
      rw [List.getElem_take] at em
      rw [List.length_take] at hm
      have := (List.getElem_inj hn).mp em
      omega
    · rw [et] at hA pm
      have nbx : ∀ {z : Addr} {u : List V}, ¬ (W.o1 D (bigO X.prog X.w D K)).B z → H2 z = some (.tup u) → ¬ (W.o1 D (bigO X.prog X.w D K')).B z ∧ upd H2 D (bigO X.prog X.w D K') z = some (.tup u) := fun {z u} nz hz => by
        have zd : z ≠ D := fun q => nz (by rw [q]; exact ownB_at)
        exact ⟨nz, by rw [upd_ne zd]; exact hz⟩
      refine nx _ _ (off _ _ m2) (fun a u na h => ?_) upd_same ⟨hi, K', rfl, by rw [pm.length_eq, List.length_cons, h3], fun p hp => ?_, fun p hp => ?_⟩
      · rw [upd_ne fun z => na (by rw [z]; exact ownB_at)]
        exact e2 a u na h
      · rw [tk1]
        rcases List.mem_cons.mp (pm.mem_iff.mp hp) with z | z
        · rw [z]
          exact List.mem_append_right _ (List.mem_singleton.mpr rfl)
        · exact List.mem_append_left _ (h4 p z)
      · rcases List.mem_cons.mp (pm.mem_iff.mp hp) with z | z
        · rw [z]
          exact nbx nb hA
        · exact nbx (h5 p z).1 (e2 _ _ (h5 p z).1 (h5 p z).2)
  · rintro D o H2 m2 e2 at2 ⟨_, K, rfl, h3, _, _⟩
    rw [List.length_map] at h3
    exact q D K H2 m2 e2 at2 h3
theorem ve_lenSC (j : Nat) (ts : List (List Int)) (hr : Room k X.A) (hN : X.N.Nodup) (L : W.Loc) (hn : ts.Nodup) (hl : ts.length ≤ 1228) (hm : X.mg "len" = none)
    (hi : VI g X W ds (.Name y p2) e (gName j) [j] (ts.map TD).length (fun i ds' => ds'.set j (some (.py ((ts.map TD).getD i .none)))))
    (hk : ∀ t, t ∈ ts → ∀ D o, InB X scope fun Y => VE g Y (W.o1 D o) ((wipeD ds [j]).set j (some (.py (TD t)))) elt (.py (TD t)))
    (ok : blkB X.N X.env.scope scope [(y, j)] = true := by rfl) (hc : X.calm = true := by rfl) (hyi : X.N[j]? = some y := by rfl) (hyl : scope.names.lookup y = some .local ∨ scope.names.lookup y = some .cell := by first | exact Or.inl rfl | exact Or.inr rfl)
    (hg : Gl X "len" := by rfl) (hs : ∀ x, foldedSetIterable e X.env x = pure x := by intro _; rfl)
    (hst : starEach [.SetComp elt [⟨.Name y p2, e, [], 0⟩] scope p3] X.env = (false, eval (.SetComp elt [⟨.Name y p2, e, [], 0⟩] scope p3) X.env) :: starEach [] X.env := by rfl) (hpl : (backTo pos (starEach [] X.env)).any (·.1) = false := by rfl) :
    VE g X W ds (.Call (.Name "len" p) [.SetComp elt [⟨.Name y p2, e, [], 0⟩] scope p3] [] pos) (.py (.int (ts.length : Nat))) := by
  refine ⟨fun pins s σ H Q I ⟨p, q⟩ => Call_ (ld_blt I hg hm PySem.boot_len (callWith_builtin1 (args_cons (?_ : wpAny _ _ _ _ _ _) hst) hst hpl))⟩
  refine thn ((pe_big j ts hr hN L hn hl hi hk ok hc hyi hyl hs).run pins s σ H (fun v H2 => ∃ D K, v = .ref D ∧ W.M H2 ∧ Ex W.B H H2 ∧ H2 D = some (bigO X.prog X.w D K) ∧ K.length = ts.length) I ⟨p, fun D K H2 m2 e2 at2 h3 => ⟨D, K, rfl, m2, e2, at2, h3⟩⟩) ?_
  rintro u s1 ⟨v, H1, I1, rv, D, K, rfl, m1, e1, at1, hK⟩
  cases rv
  refine args_nil ?_
  obtain ⟨o, es, ep, t, r⟩ := (I1.hok D _ at1).1
  have ec : es.size = ts.length := by rw [rows_size r.rws, hK]
  refine call_len_set r.at_ r.ex r.dat r.ft (by omega) ⟨.int (ts.length : Nat), H1, I1.tok _, ⟨_, by rw [ec]⟩, q _ H1 m1 e1 (.int _)⟩
end
end My
/-! Ma: what the text computes, in plain lists. -/
namespace My
open PySem PySem.Spec PyProof.Rows L2 StX
def untied (n : Nat) (ts : List (List Int)) : List (Nat × Nat) := (prs n).filter fun p => !decide (pI p ∈ ts)
/-- the rows of untied pairs, as the loop makes them -/
def utp (n : Nat) (ts : List (List Int)) (i : Nat) : List PyData := (List.range i).flatMap fun (k : Nat) => ((List.range ((n : Int) - ((k : Int) + 1)).toNat).filter fun m => !decide ([(k : Int), (k : Int) + 1 + (m : Nat)] ∈ ts)).map fun m => .tuple [.int (k : Nat), .int ((k : Int) + 1 + (m : Nat))]
theorem utp_succ (n : Nat) (ts : List (List Int)) (i : Nat) : utp n ts (i + 1) = utp n ts i ++ ((List.range ((n : Int) - ((i : Int) + 1)).toNat).filter fun m => !decide ([(i : Int), (i : Int) + 1 + (m : Nat)] ∈ ts)).map fun m => .tuple [.int (i : Nat), .int ((i : Int) + 1 + (m : Nat))] := by
  unfold utp
  rw [List.range_succ, List.flatMap_append, List.flatMap_singleton]
theorem utp_len (n : Nat) (ts : List (List Int)) (i : Nat) : (utp n ts i).length ≤ i * n := flat_len _ n i fun k hk => by
  rw [List.length_map]
  refine Nat.le_trans (List.length_filter_le _ _) ?_
  rw [List.length_range]
  omega
theorem utp_eq (n : Nat) (ts : List (List Int)) : utp n ts n = ((untied n ts).map pI).map TD := by
  unfold utp untied prs
  rw [List.map_map, List.filter_flatMap, List.map_flatMap]
  congr 1
  funext i
  rw [List.filter_map, List.map_map]
  have e : ((n : Int) - ((i : Int) + 1)).toNat = n - (i + 1) := by omega
  rw [e]
  have hp : ∀ m : Nat, pI (i, i + 1 + m) = [(i : Int), (i : Int) + 1 + (m : Nat)] := fun m => by
    show [((i : Nat) : Int), ((i + 1 + m : Nat) : Int)] = _
    rw [Int.natCast_add, Int.natCast_add]
    rfl
  have ef : (fun m : Nat => !decide ([(i : Int), (i : Int) + 1 + (m : Nat)] ∈ ts)) = (fun p => !decide (pI p ∈ ts)) ∘ fun m => (i, i + 1 + m) := by
    funext m
    show _ = !decide (pI (i, i + 1 + m) ∈ ts)
    rw [hp]
  rw [ef]
  apply List.map_congr_left
  intro m _
  show _ = TD (pI (i, i + 1 + m))
  rw [hp]
  rfl
theorem untied_len (n : Nat) (ts : List (List Int)) : (untied n ts).length ≤ n * n := Nat.le_trans (List.length_filter_le _ _) (prs_len n)
theorem mem_untied {n : Nat} {ts : List (List Int)} {p : Nat × Nat} : p ∈ untied n ts ↔ (p.1 < p.2 ∧ p.2 < n) ∧ pI p ∉ ts := by
  unfold untied
  rw [List.mem_filter, mem_prs]
  simp
/-- k goes to the list of q -/
def cput (c : Nat → List Int) (q : Nat) (k : Int) : Nat → List Int := fun r => if r = q then c r ++ [k] else c r
/-- the lists behind the first i pairs -/
def cAt (ps : List (Nat × Nat)) : Nat → Nat → List Int
  | 0 => fun _ => []
  | i + 1 => cput (cput (cAt ps i) (ps.getD i (0, 0)).1 i) (ps.getD i (0, 0)).2 i
def bare (ps : List (Nat × Nat)) : Nat → List Int := cAt ps ps.length
def loneP (n : Nat) (c : Nat → List Int) (q : Nat) : Bool := decide (c q = []) || decide (1 < (List.range n).countP fun r => decide (c r = c q))
def lones (n : Nat) (c : Nat → List Int) : List Nat := (List.range n).filter (loneP n c)
def teamAt (n : Nat) (c : Nat → List Int) (q : Nat) : List Int := (if q ∈ lones n c then [((lones n c).idxOf q : Int)] else []) ++ (c q).map fun k => ((lones n c).length : Int) + k
def webMany (n : Nat) (ts : List (List Int)) : Nat := (lones n (bare (untied n ts))).length + (untied n ts).length
def webTeams (n : Nat) (ts : List (List Int)) : List (List Int) := (List.range n).map (teamAt n (bare (untied n ts)))
theorem cput_len (c : Nat → List Int) (q : Nat) (k : Int) (r : Nat) : (cput c q k r).length ≤ (c r).length + 1 := by
  unfold cput
  by_cases h : r = q
  · rw [if_pos h, List.length_append]
    exact Nat.le_refl _
  · rw [if_neg h]
    exact Nat.le_succ _
theorem cAt_len (ps : List (Nat × Nat)) (r : Nat) : ∀ i, (cAt ps i r).length ≤ 2 * i
  | 0 => Nat.le_refl _
  | i + 1 => by
    have h1 := cput_len (cput (cAt ps i) (ps.getD i (0, 0)).1 i) (ps.getD i (0, 0)).2 i r
    have h2 := cput_len (cAt ps i) (ps.getD i (0, 0)).1 i r
    have h3 := cAt_len ps r i
    show (cput (cput (cAt ps i) (ps.getD i (0, 0)).1 i) (ps.getD i (0, 0)).2 i r).length ≤ _
    omega
end My
/-! Ma2: the lists of a web, two ways. -/
namespace My
open PySem PySem.Spec PyProof.Rows L2 StX
def bareL (ps : List (Nat × Nat)) (q : Nat) : List Int := ((List.range ps.length).filter fun k => decide ((q : Int) ∈ pI (ps.getD k (0, 0)))).map fun (k : Nat) => (k : Int)
theorem mem_pI {q : Nat} {p : Nat × Nat} : (q : Int) ∈ pI p ↔ q = p.1 ∨ q = p.2 := by
  unfold pI
  simp only [List.mem_cons, List.not_mem_nil, or_false]
  omega
theorem cAt_eq (ps : List (Nat × Nat)) (h : ∀ p ∈ ps, p.1 ≠ p.2) (q : Nat) : ∀ i, i ≤ ps.length → cAt ps i q = ((List.range i).filter fun k => decide ((q : Int) ∈ pI (ps.getD k (0, 0)))).map fun (k : Nat) => (k : Int)
  | 0, _ => rfl
  | i + 1, hi => by
    have ih := cAt_eq ps h q i (by omega)
    have hp : (ps.getD i (0, 0)).1 ≠ (ps.getD i (0, 0)).2 := by
      rw [List.getD_eq_getElem?_getD, List.getElem?_eq_getElem (by omega : i < ps.length)]
      exact h _ (List.getElem_mem _)
    rw [List.range_succ, List.filter_append, List.map_append, ← ih]
    show cput (cput (cAt ps i) (ps.getD i (0, 0)).1 i) (ps.getD i (0, 0)).2 i q = _
    unfold cput
    by_cases h1 : q = (ps.getD i (0, 0)).1
    · have h2 : ¬ q = (ps.getD i (0, 0)).2 := fun e => hp (h1.symm.trans e)
      have hm : decide ((q : Int) ∈ pI (ps.getD i (0, 0))) = true := decide_eq_true (mem_pI.mpr (.inl h1))
      rw [if_neg h2, if_pos h1, List.filter_cons_of_pos (p := fun k => decide ((q : Int) ∈ pI (ps.getD k (0, 0)))) hm]
      rfl
    · by_cases h2 : q = (ps.getD i (0, 0)).2
      · have hm : decide ((q : Int) ∈ pI (ps.getD i (0, 0))) = true := decide_eq_true (mem_pI.mpr (.inr h2))
        rw [if_pos h2, if_neg h1, List.filter_cons_of_pos (p := fun k => decide ((q : Int) ∈ pI (ps.getD k (0, 0)))) hm]
        rfl
      · have hm : ¬ decide ((q : Int) ∈ pI (ps.getD i (0, 0))) = true := fun e => (mem_pI.mp (of_decide_eq_true e)).elim h1 h2
        rw [if_neg h2, if_neg h1, List.filter_cons_of_neg (p := fun k => decide ((q : Int) ∈ pI (ps.getD k (0, 0)))) hm]
        simp
theorem bare_eq {ps : List (Nat × Nat)} (h : ∀ p ∈ ps, p.1 ≠ p.2) : bare ps = bareL ps := by
  funext q
  exact cAt_eq ps h q ps.length (Nat.le_refl _)
theorem untied_ne {n : Nat} {ts : List (List Int)} : ∀ p ∈ untied n ts, p.1 ≠ p.2 := fun p hp => by
  have := (mem_untied.mp hp).1.1
  omega
theorem any_nat (l : List Nat) (q : Nat) : ((l.map fun q : Nat => PyData.int (q : Nat)).any fun z => PyData.eqv z (.int (q : Nat))) = decide (q ∈ l) := by
  have e : (l.map fun q : Nat => PyData.int (q : Nat)) = (l.map fun q : Nat => (q : Int)).map PyData.int := by
    rw [List.map_map]
    rfl
  rw [e, any_int]
  by_cases h : q ∈ l
  · rw [decide_eq_true h, decide_eq_true (List.mem_map.mpr ⟨q, h, rfl⟩)]
  · rw [decide_eq_false h, decide_eq_false fun z => by
      obtain ⟨r, hr, e⟩ := List.mem_map.mp z
      exact h (by rw [← Int.natCast_inj.mp e]; exact hr)]
theorem sh_nats (l : List Nat) : SeqAt.shaped (.list (l.map fun q : Nat => PyData.int (q : Nat))) = true := by
  have e : (l.map fun q : Nat => PyData.int (q : Nat)) = (l.map fun q : Nat => (q : Int)).map PyData.int := by
    rw [List.map_map]
    rfl
  rw [e]
  exact sh_LI _
theorem cnt_TDs (c : Nat → List Int) (x : List Int) (l : List Nat) : (l.map fun q => TD (c q)).countP (fun z => PyData.eqv z (TD x)) = l.countP fun r => decide (c r = x) := by
  rw [List.countP_map]
  congr 1
  funext r
  exact eqv_TD _ _
end My
/-! Pw: the text by places; what the top has written. -/
namespace My
open PySem PySem.Spec PyProof.Rows L2 StX
def tp (i : Nat) : Stmt := PySem.Challenge.pw_roomstair_k56_whole_webs_are_teams.main.body.getD i (.Pass ⟨0, 0, 0, 0⟩)
/-- what the top has written, as the defs see it -/
structure Tx (K : PySem.W.Frag) (mg : Str → Option Value) (g : Gc) : Prop where
  cl : Cl2 K g
  tW : ClT K g.CW
  tT : ClT K g.CT
  gW : mg "Web" = some (.ref g.CW)
  gT : mg "Teams" = some (.ref g.CT)
  isWT : PySem.W.kitOne K (.ref g.CW) (.ref g.CT) = some false
  isTW : PySem.W.kitOne K (.ref g.CT) (.ref g.CW) = some false
  isBT : ∀ n ∈ ["NoneType", "bool", "int", "tuple"], PySem.W.kitOne K (.type n) (.ref g.CT) = some false
  isBW : ∀ n ∈ ["NoneType", "bool", "int", "tuple"], PySem.W.kitOne K (.type n) (.ref g.CW) = some false
  isinst : mg "isinstance" = none
  tint : mg "int" = none
  tbool : mg "bool" = none
  tlist : mg "list" = none
  ttuple : mg "tuple" = none
  tset : mg "set" = none
  tlen : mg "len" = none
  tall : mg "all" = none
  tany : mg "any" = none
  trange : mg "range" = none
  tsorted : mg "sorted" = none
  tenum : mg "enumerate" = none
  tmin : mg "min" = none
  tmax : mg "max" = none
  tabs : mg "abs" = none
  trepr : mg "repr" = none
  mP : ∃ u, mg "MOST_PEOPLE" = some (.int 12 u)
  mT : ∃ u, mg "MOST_TEAMS" = some (.int 500 u)
  mO : ∃ u, mg "MOST_POINTS" = some (.int 60 u)
section
variable {P : Program} {w : World} {K : PySem.W.Frag} {mg : Str → Option Value} {base : Heap} {g : Gc}
/-! ### is_integer -/
theorem sc10 : FnScope ["value"] ["value"] (defScope (tp 10)) := ⟨rfl, rfl, rfl, by decide +kernel, rfl, by decide +kernel, by decide +kernel⟩
def scal : PyData → Bool
  | .none => true
  | .bool _ => true
  | .int _ => true
  | .str _ => true
  | .tuple _ => true
  | .list _ => true
  | _ => false
def isI : PyData → Bool
  | .int _ => true
  | _ => false
def isIB : PyData → Bool
  | .int _ => true
  | .bool _ => true
  | _ => false
def isB : PyData → Bool
  | .bool _ => true
  | _ => false
theorem k_int {c : PyData} (h : scal c = true) : PySem.W.kitOne K (tyD g (.py c)) (.type "int") = some (isIB c) := by
  cases c with
  | none => exact kit_ty (b := "int") (a := "NoneType") (r := false) (by decide +kernel)
  | bool _ => exact kit_ty (b := "int") (a := "bool") (r := true) (by decide +kernel)
  | int _ => exact kit_ty (b := "int") (a := "int") (r := true) (by decide +kernel)
  | str _ => exact kit_ty (b := "int") (a := "str") (r := false) (by decide +kernel)
  | list _ => exact kit_ty (b := "int") (a := "list") (r := false) (by decide +kernel)
  | tuple _ => exact kit_ty (b := "int") (a := "tuple") (r := false) (by decide +kernel)
  | dict _ => cases h
theorem k_bool {c : PyData} (h : scal c = true) : PySem.W.kitOne K (tyD g (.py c)) (.type "bool") = some (isB c) := by
  cases c with
  | none => exact kit_ty (b := "bool") (a := "NoneType") (r := false) (by decide +kernel)
  | bool _ => exact kit_ty (b := "bool") (a := "bool") (r := true) (by decide +kernel)
  | int _ => exact kit_ty (b := "bool") (a := "int") (r := false) (by decide +kernel)
  | str _ => exact kit_ty (b := "bool") (a := "str") (r := false) (by decide +kernel)
  | list _ => exact kit_ty (b := "bool") (a := "list") (r := false) (by decide +kernel)
  | tuple _ => exact kit_ty (b := "bool") (a := "tuple") (r := false) (by decide +kernel)
  | dict _ => cases h
def R10 : List Da → Da → Prop := fun as d => ∃ c, scal c = true ∧ as = [.py c] ∧ d = .py (.bool (isI c))
theorem ok10 {f : Addr} {fd : FuncData} (T : Tx K mg g) (F : FunS K "is_integer" "is_integer" (tp 10) [] f fd) : FnOk P w K mg base (L2.CX P w) 1 f fd ["value"] (spR g 1 R10) := by
  refine fn_body F sc10 rfl fun cdv A outer s H E B hB as d hr hl h => ?_
  obtain ⟨c, hs, rfl, rfl⟩ := h
  refine hs_ret (ve_is (ve_and (ve_isi T.cl T.tW T.tT T.isinst (ve_var 0) rfl (ve_tyn PyProof.Rows.boot_int T.tint) (.ty _) (k_int hs))
    fun _ => ve_one (ve_not (ve_isi T.cl T.tW T.tT T.isinst (ve_var 0) rfl (ve_tyn PyProof.Rows.boot_bool T.tbool) (.ty _) (k_bool hs)))) ?_) fun _ _ _ p dv => ⟨p.1, dv⟩
  cases c <;> rfl
end
end My
/-! P1: checks. -/
namespace My
open PySem PySem.Spec PyProof.Rows L2 StX
section
variable {P : Program} {w : World} {K : PySem.W.Frag} {mg : Str → Option Value} {base : Heap} {g : Gc}
/-! ### is_within -/
theorem sc11 : FnScope ["value", "least", "most"] ["value", "least", "most"] (defScope (tp 11)) := ⟨rfl, rfl, rfl, by decide +kernel, rfl, by decide +kernel, by decide +kernel⟩
def inR (lo hi : Int) : PyData → Bool
  | .int i => decide (lo ≤ i) && decide (i ≤ hi)
  | _ => false
theorem inR_no {lo hi : Int} {c : PyData} (h : isI c = false) : inR lo hi c = false := by
  cases c <;> first | rfl | cases h
def R11 : List Da → Da → Prop := fun as d => ∃ c lo hi, scal c = true ∧ as = [.py c, .py (.int lo), .py (.int hi)] ∧ d = .py (.bool (inR lo hi c))
theorem isN_int {g : Gc} {i : Int} : ∀ B H v, DV g B H v (.py (.int i)) → decide (v = V.non) = false := fun B H v h => by
  cases h
  exact decide_eq_false fun e => (nomatch e)
theorem ok11 {f : Addr} {fd : FuncData} (T : Tx K mg g) (c10 : Pn P w K mg base 1 "is_integer" [] (spR g 1 R10)) (F : FunS K "is_within" "is_within" (tp 11) [] f fd) : FnOk P w K mg base (L2.CX P w) 2 f fd ["value", "least", "most"] (spR g 3 R11) := by
  refine fn_body F sc11 rfl fun cdv A outer s H E B hB as d hr hl h => ?_
  obtain ⟨c, lo, hi, hs, rfl, rfl⟩ := h
  refine hs_ifR (vt_not (vt_val (ve_call c10 hr (va_cons (ve_var 0) va_nil) ⟨c, hs, rfl, rfl⟩))) (fun z => hs_ret (ve_is ve_bl ?_) fun _ _ _ p dv => ⟨p.1, dv⟩) (fun z => ?_)
  · rw [inR_no (by simpa using z)]
  · have hc : ∃ i, c = .int i := by
      cases c with
      | int i => exact ⟨i, rfl⟩
      | _ => cases z
    obtain ⟨i, rfl⟩ := hc
    exact hs_ret (ve_and (ve_or (ve_isN (ve_var 1) isN_int) fun _ => ve_one (ve_cmp op_ge od_b0 (ve_var 0) (ve_var 1)))
      fun _ => ve_one (ve_or (ve_isN (ve_var 2) isN_int) fun _ => ve_one (ve_cmp op_le od_b0 (ve_var 0) (ve_var 2)))) fun _ _ _ p dv => ⟨p.1, dv⟩
/-! ### is_list -/
theorem sc12 : FnScope ["value"] ["value"] (defScope (tp 12)) := ⟨rfl, rfl, rfl, by decide +kernel, rfl, by decide +kernel, by decide +kernel⟩
def R12 : List Da → Da → Prop := fun as d => ∃ c, (∃ xs, c = .list xs ∨ c = .tuple xs) ∧ as = [.py c] ∧ d = .py (.bool true)
theorem ok12 {f : Addr} {fd : FuncData} (T : Tx K mg g) (F : FunS K "is_list" "is_list" (tp 12) [] f fd) : FnOk P w K mg base (L2.CX P w) 1 f fd ["value"] (spR g 1 R12) := by
  refine fn_body F sc12 rfl fun cdv A outer s H E B hB as d hr hl h => ?_
  obtain ⟨c, ⟨xs, hx⟩, rfl, rfl⟩ := h
  refine hs_ret (ve_isi2 T.cl T.tW T.tT T.isinst (ve_var 0) rfl (ve_tyn PyProof.Rows.boot_list T.tlist) (ve_tyn PyProof.Rows.boot_tuple T.ttuple) (.ty _) (.ty _) ?_) fun _ _ _ p dv => ⟨p.1, dv⟩
  rcases hx with rfl | rfl
  · exact kitAny_cons (b := true) (kit_ty (a := "list") (b := "list") (by decide +kernel)) (fun z => (nomatch z)) fun _ => rfl
  · exact kitAny_cons (b := false) (kit_ty (a := "tuple") (b := "list") (by decide +kernel)) (fun _ => kitAny_cons (b := true) (kit_ty (a := "tuple") (b := "tuple") (by decide +kernel)) (fun z => (nomatch z)) fun _ => rfl) (fun z => (nomatch z))
/-! ### are_unlike -/
theorem sc13 : FnScope ["value", "least", "most", "each"] ["value", "least", "most"] (defScope (tp 13)) := ⟨rfl, rfl, rfl, by decide +kernel, rfl, by decide +kernel, by decide +kernel⟩
def R13 : List Da → Da → Prop := fun as d => ∃ (t : List Int) (lo hi : Int), t.Nodup ∧ t.length < 1000 ∧ (∀ i ∈ t, lo ≤ i ∧ i ≤ hi) ∧ as = [.py (TD t), .py (.int lo), .py (.int hi)] ∧ d = .py (.bool true)
theorem ok13 {f : Addr} {fd : FuncData} (T : Tx K mg g) (c12 : Pn P w K mg base 1 "is_list" [] (spR g 1 R12)) (c11 : Pn P w K mg base 2 "is_within" [] (spR g 3 R11)) (F : FunS K "are_unlike" "are_unlike" (tp 13) [] f fd) : FnOk P w K mg base (L2.CX P w) 3 f fd ["value", "least", "most"] (spR g 3 R13) := by
  refine fn_body F sc13 rfl fun cdv A outer s H E B hB as d hr hl h => ?_
  obtain ⟨t, lo, hi, hn, hlen, hin, rfl, rfl⟩ := h
  have hsz : t.length ≤ sizeLine := Nat.le_trans (Nat.le_of_lt hlen) (by decide)
  refine hs_ret (ve_is (ve_and (ve_call c12 hr (va_cons (ve_var 0) va_nil) ⟨_, ⟨_, .inr rfl⟩, rfl, rfl⟩) fun _ => ve_and (ve_all (bs := t.map fun _ => true) rfl T.tall (ve_is (ve_lcT 3 PyData.int t (fun _ => .bool true) sc13.nd loc_ent hsz (ve_var 0) fun i hi2 D acc _ _ _ _ _ =>
      ve_call c11 hr (va_cons (ve_var 3) (va_cons (ve_var 1) (va_cons (ve_var 2) va_nil))) ⟨.int i, lo, hi, rfl, rfl, ?_⟩) (by rw [List.map_map]; rfl)))
    fun _ => ve_one (ve_cmp (op_eqD (hu64 hr)) (od_eq (sh_int _) (sh_int _) (k := true) ?_) (ve_lenSetI rfl T.tlen T.tset (ve_var 0) hn (by omega)) (ve_lenT T.tlen (ve_var 0)))) ?_) fun _ _ _ p dv => ⟨p.1, dv⟩
  · obtain ⟨h1, h2⟩ := hin i hi2
    show _ = Da.py (.bool (decide (lo ≤ i) && decide (i ≤ hi)))
    rw [decide_eq_true h1, decide_eq_true h2]
    rfl
  · rw [List.length_map, PyData.eqv, beq_self_eq_true]
  · have e : ((t.map fun _ => true).all fun x => x) = true := by
      rw [List.all_map]
      exact List.all_eq_true.mpr fun _ _ => rfl
    rw [e]
    rfl
end
end My
/-! P2: teams. -/
namespace My
open PySem PySem.Spec PyProof.Rows L2 StX
section
variable {P : Program} {w : World} {K : PySem.W.Frag} {mg : Str → Option Value} {base : Heap} {g : Gc}
/-! ### need_number, where it does not refuse -/
theorem sc14 : FnScope ["value", "part", "least", "most"] ["value", "part", "least", "most"] (defScope (tp 14)) := ⟨rfl, rfl, rfl, by decide +kernel, rfl, by decide +kernel, by decide +kernel⟩
def R14 : List Da → Da → Prop := fun as d => ∃ i lo hi q, lo ≤ i ∧ i ≤ hi ∧ as = [.py (.int i), q, .py (.int lo), .py (.int hi)] ∧ d = .py .none
theorem inR_yes {lo hi i : Int} (h1 : lo ≤ i) (h2 : i ≤ hi) : inR lo hi (.int i) = true := by
  show (decide (lo ≤ i) && decide (i ≤ hi)) = true
  rw [decide_eq_true h1, decide_eq_true h2]
  rfl
theorem ok14 {dvs : List V} {f : Addr} {fd : FuncData} (T : Tx K mg g) (c11 : Pn P w K mg base 2 "is_within" [] (spR g 3 R11)) (F : FunS K "need_number" "need_number" (tp 14) dvs f fd) : FnOk P w K mg base (L2.CX P w) 3 f fd ["value", "part", "least", "most"] (spR g 4 R14) := by
  refine fn_body F sc14 rfl fun cdv A outer s H E B hB as d hr hl h => ?_
  obtain ⟨i, lo, hi, q, h1, h2, rfl, rfl⟩ := h
  refine hs_ifF (vt_is (vt_not (vt_val (ve_call c11 hr (va_cons (ve_var 0) (va_cons (ve_var 2) (va_cons (ve_var 3) va_nil))) ⟨.int i, lo, hi, rfl, rfl, rfl⟩))) ?_) (hs_nil fun σ H p => ⟨p.1, .non⟩)
  rw [inR_yes h1 h2]
  rfl
/-! ### is_team -/
theorem sc24 : FnScope ["value", "people"] ["value", "people"] (defScope (tp 24)) := ⟨rfl, rfl, rfl, by decide +kernel, rfl, by decide +kernel, by decide +kernel⟩
def TeamOk (p : Int) (t : List Int) : Prop := t.Nodup ∧ t.length < 1000 ∧ t ≠ [] ∧ ∀ i ∈ t, 0 ≤ i ∧ i < p
def R24 : List Da → Da → Prop := fun as d => ∃ p t, TeamOk p t ∧ as = [.py (TD t), .py (.int p)] ∧ d = .py (.bool true)
theorem ok24 {f : Addr} {fd : FuncData} (T : Tx K mg g) (c13 : Pn P w K mg base 3 "are_unlike" [] (spR g 3 R13)) (F : FunS K "is_team" "is_team" (tp 24) [] f fd) : FnOk P w K mg base (L2.CX P w) 4 f fd ["value", "people"] (spR g 2 R24) := by
  refine fn_body F sc24 rfl fun cdv A outer s H E B hB as d hr hl h => ?_
  obtain ⟨p, t, ⟨h1, h2, h3, h4⟩, rfl, rfl⟩ := h
  refine hs_ret (ve_is (ve_and (ve_call c13 hr (va_cons (ve_var 0) (va_cons ve_int (va_cons (ve_op op_sub od_i0 (ve_var 1) ve_int) va_nil))) ⟨t, 0, p - 1, h1, h2, fun i hi => ?_, rfl, rfl⟩)
    fun _ => ve_one (ve_cmp op_gt od_b0 (ve_lenT T.tlen (ve_var 0)) ve_int)) ?_) fun _ _ _ p dv => ⟨p.1, dv⟩
  · have := h4 i hi
    omega
  · have : 0 < t.length := List.length_pos_iff.mpr h3
    rw [List.length_map, decide_eq_true (by omega)]
    rfl
/-! ### kept_team -/
theorem sc25 : FnScope ["value"] ["value"] (defScope (tp 25)) := ⟨rfl, rfl, rfl, by decide +kernel, rfl, by decide +kernel, by decide +kernel⟩
def R25 : List Da → Da → Prop := fun as d => ∃ t, as = [.py (TD t)] ∧ d = .py (TD (sortI t))
theorem ok25 {f : Addr} {fd : FuncData} (T : Tx K mg g) (F : FunS K "kept_team" "kept_team" (tp 25) [] f fd) : FnOk P w K mg base (L2.CX P w) 1 f fd ["value"] (spR g 1 R25) := by
  refine fn_body F sc25 rfl fun cdv A outer s H E B hB as d hr hl h => ?_
  obtain ⟨t, rfl, rfl⟩ := h
  exact hs_ret (ve_tupL T.ttuple (ve_sortTI hr T.tsorted (ve_var 0))) fun _ _ _ p dv => ⟨p.1, dv⟩
/-! ### kept_teams -/
theorem sc26 : FnScope ["people", "value", "part", "found", "each"] ["people", "value", "part"] (defScope (tp 26)) := ⟨rfl, rfl, rfl, by decide +kernel, rfl, by decide +kernel, by decide +kernel⟩
def keptTeams (ts : List (List Int)) : List (List Int) := sortT (ts.map sortI)
def R26 : List Da → Da → Prop := fun as d => ∃ p ts q, 1 ≤ ts.length ∧ ts.length < 64 ∧ (∀ t ∈ ts, TeamOk p t) ∧ (ts.map sortI).Nodup ∧ as = [.py (.int p), .py (LT ts), q] ∧ d = .py (QT (keptTeams ts))
theorem sortI_perm (l : List Int) : (sortI l).Perm l := List.mergeSort_perm l _
theorem sortT_perm (l : List (List Int)) : (sortT l).Perm l := List.mergeSort_perm l _
theorem sortI_ne {l : List Int} (h : l ≠ []) : sortI l ≠ [] := fun e => h (List.length_eq_zero_iff.mp (by rw [← (sortI_perm l).length_eq, e]; rfl))
theorem ok26 {f : Addr} {fd : FuncData} (T : Tx K mg g) (c12 : Pn P w K mg base 1 "is_list" [] (spR g 1 R12)) (c24 : Pn P w K mg base 4 "is_team" [] (spR g 2 R24)) (c25 : Pn P w K mg base 1 "kept_team" [] (spR g 1 R25)) (F : FunS K "kept_teams" "kept_teams" (tp 26) [] f fd) :
    FnOk P w K mg base (L2.CX P w) 5 f fd ["people", "value", "part"] (spR g 3 R26) := by
  refine fn_body F sc26 rfl fun cdv A outer s H E B hB as d hr hl h => ?_
  obtain ⟨p, ts, q, h1, h2, h3, h4, rfl, rfl⟩ := h
  obtain ⟨u5, m5⟩ := T.mT
  have hsz : ts.length ≤ sizeLine := Nat.le_trans (Nat.le_of_lt h2) (by decide)
  have hnd : (keptTeams ts).Nodup := (sortT_perm _).nodup_iff.mpr h4
  have hln : (keptTeams ts).length = ts.length := by rw [show (keptTeams ts).length = (ts.map sortI).length from (sortT_perm _).length_eq, List.length_map]
  refine hs_ifF (vt_is (VW.t (vw_or (vt_not (vt_val (ve_call c12 hr (va_cons (ve_var 1) va_nil) ⟨_, ⟨_, .inl rfl⟩, rfl, rfl⟩))) fun _ => vw_or1 (vt_not (vt_chain (k := true) op_le op_le ?_ ?_ ve_int (ve_lenL T.tlen (ve_var 1)) (ve_glob rfl m5))))) rfl) ?_
  · have z := od_b0 (g := g) (i := 1) (j := ((ts.map TD).length : Nat)) (f := fun i j => decide (i ≤ j))
    rw [decide_eq_true (by rw [List.length_map]; omega)] at z
    exact z
  · have z := od_b0 (g := g) (i := ((ts.map TD).length : Nat)) (j := 500) (f := fun i j => decide (i ≤ j))
    rw [decide_eq_true (by rw [List.length_map]; omega)] at z
    exact z
  refine hs_ifF (vt_is (vt_not (vt_val (ve_all (bs := ts.map fun _ => true) rfl T.tall (ve_is (ve_lcL 4 TD ts (fun _ => .bool true) sc26.nd loc_ent hsz (ve_var 1) fun t ht D acc _ _ _ _ _ =>
    ve_call c24 hr (va_cons (ve_var 4) (va_cons (ve_var 0) va_nil)) ⟨p, t, h3 t ht, rfl, rfl⟩) (by rw [List.map_map]; rfl))))) ?_) ?_
  · have e : ((ts.map fun _ => true).all fun x => x) = true := by
      rw [List.all_map]
      exact List.all_eq_true.mpr fun _ _ => rfl
    rw [e]
    rfl
  refine hs_set 3 sc26.nd (ve_sortLT (ts := ts.map sortI) hr T.tsorted ?_ (ve_is (ve_lcL 4 TD ts (fun t => TD (sortI t)) sc26.nd loc_ent hsz (ve_var 1) fun t ht D acc _ _ _ _ _ =>
    ve_call c25 hr (va_cons (ve_var 4) va_nil) ⟨t, rfl, rfl⟩) (by show _ = Da.py (.list ((ts.map sortI).map TD)); rw [List.map_map]; rfl))) ?_
  · intro t ht
    obtain ⟨t', ht', rfl⟩ := List.mem_map.mp ht
    exact sortI_ne (h3 t' ht').2.2.1
  refine hs_ifF (vt_is (vt_cmp op_lt (od_b0 (f := fun i j => decide (i < j))) (ve_lenSetT hr rfl T.tlen T.tset (ve_var 3) hnd (by rw [hln]; exact h2)) (ve_lenL T.tlen (ve_var 3))) ?_) ?_
  · rw [List.length_map]
    exact decide_eq_false (Int.lt_irrefl _)
  exact hs_ret (ve_tupL T.ttuple (ve_var 3)) fun _ _ _ p dv => ⟨p.1, dv⟩
/-! ### Teams.__init__ -/
theorem scT : FnScope ["self", "people", "teams"] ["self", "people", "teams"] (defScope (inClass (tp 27) 0)) := ⟨rfl, rfl, rfl, by decide +kernel, rfl, by decide +kernel, by decide +kernel⟩
def RT : List Da → Da → Prop := fun as d => ∃ p ts, 1 ≤ p ∧ p ≤ 12 ∧ 1 ≤ ts.length ∧ ts.length < 64 ∧ (∀ t ∈ ts, TeamOk p t) ∧ (ts.map sortI).Nodup ∧ as = [.py (.int p), .py (LT ts)] ∧ d = .tms p ((keptTeams ts).map TD)
theorem okT {f : Addr} {fd : FuncData} (T : Tx K mg g) (c14 : Pn P w K mg base 3 "need_number" [] (spR g 4 R14)) (c26 : Pn P w K mg base 5 "kept_teams" [] (spR g 3 R26)) (F : FunS K "__init__" "Teams.__init__" (inClass (tp 27) 0) [] f fd) :
    FnOk P w K mg base (L2.CX P w) 6 f fd ["self", "people", "teams"] (spI g g.CT 2 RT) := by
  refine in_body F scT rfl fun cdv A outer s H E B H0 hB me dx as d hr nb off hl h => ?_
  obtain ⟨p, ts, h1, h2, h3, h4, h5, h6, rfl, rfl⟩ := h
  obtain ⟨u5, m5⟩ := T.mP
  refine hs_expr (ve_call c14 hr (va_cons (ve_var 1) (va_cons ve_str (va_cons ve_int (va_cons (ve_glob rfl m5) va_nil)))) ⟨p, 1, 12, _, h1, h2, rfl, rfl⟩) ?_
  refine hs_put 0 rfl (ve_var 1) (fun v => Chg.o1 _ _ off) T.cl.clT T.cl.nPe (by decide) fun v => ?_
  refine hs_pre (P' := fun σ H => v = .int p ∧ Pre g _ _ σ H) (hs_pure fun e => ?_) fun σ H z => ⟨dv_int z.1, z.2⟩
  subst e
  refine hs_put 0 rfl (ve_call c26 hr (va_cons (ve_var 1) (va_cons (ve_var 2) (va_cons ve_str va_nil))) ⟨p, ts, _, h3, h4, h5, h6, rfl, rfl⟩) (fun v => Chg.o1 _ _ off) T.cl.clT T.cl.nTe (Nat.lt_of_le_of_lt (length_putF _ _ _) (by decide)) fun v => ?_
  refine hs_pre (P' := Pre g (((Wd.ent B H0 hB).o1 me (.ins g.CT dx (putF "teams" v (putF "people" (.int p) [])))).has g v _) _) ?_ fun σ H z => pre_has z
  refine hs_put (W2 := fun u => ((Wd.ent B H0 hB).o1 me (.ins g.CT dx (putF "many" u (putF "teams" v (putF "people" (.int p) []))))).has g v _) 0 rfl (ve_lenT T.tlen (ve_own 0 rfl (fun H m => o1_at m.1) T.cl.clT T.cl.nTe rfl (fun H m => m.2))) (fun u => (Chg.o1 _ _ off).has rfl) T.cl.clT T.cl.nMa (Nat.lt_of_le_of_lt (length_putF _ _ _) (Nat.lt_of_le_of_lt (Nat.succ_le_succ (length_putF _ _ _)) (by decide))) fun u => ?_
  refine hs_nil fun σ H z => ⟨z.2.1.1.1, ?_⟩
  have e := dv_int z.1
  subst e
  obtain ⟨⟨m1, m2⟩, _⟩ := z.2
  have m2 : Dq _ H v _ := m2
  cases m2 with
  | tup n hA da =>
    exact ⟨me, dx, _, rfl, nb, o1_at m1, Dq.weak (fun a z => .inl z) _ _ (.tup n hA da)⟩
end
end My
/-! P3: which teams are apart. -/
namespace My
open PySem PySem.Spec PyProof.Rows L2 StX
section
variable {P : Program} {w : World} {K : PySem.W.Frag} {mg : Str → Option Value} {base : Heap} {g : Gc}
theorem kit_self {K : PySem.W.Frag} (C : Addr) : PySem.W.kitOne K (.ref C) (.ref C) = some true := by
  unfold PySem.W.kitOne
  rw [if_pos (beq_self_eq_true _)]
/-! ### need_teams, where it does not refuse -/
theorem sc29 : FnScope ["value", "part"] ["value", "part"] (defScope (tp 29)) := ⟨rfl, rfl, rfl, by decide +kernel, rfl, by decide +kernel, by decide +kernel⟩
def R29 : List Da → Da → Prop := fun as d => ∃ p xs q, as = [.tms p xs, q] ∧ d = .py .none
theorem ok29 {dvs : List V} {f : Addr} {fd : FuncData} (T : Tx K mg g) (F : FunS K "need_teams" "need_teams" (tp 29) dvs f fd) : FnOk P w K mg base (L2.CX P w) 1 f fd ["value", "part"] (spR g 2 R29) := by
  refine fn_body F sc29 rfl fun cdv A outer s H E B hB as d hr hl h => ?_
  obtain ⟨p, xs, q, rfl, rfl⟩ := h
  exact hs_ifF (vt_is (vt_not (vt_val (ve_isi T.cl T.tW T.tT T.isinst (ve_var 0) rfl (ve_cls T.gT) (.own _) (kit_self _)))) rfl) (hs_nil fun σ H p => ⟨p.1, .non⟩)
/-! ### apart_in -/
theorem sc30 : FnScope ["one", "other", "each"] ["one", "other"] (defScope (tp 30)) := ⟨rfl, rfl, rfl, by decide +kernel, rfl, by decide +kernel, by decide +kernel⟩
def apartI (a b : List Int) : Bool := !(a.any fun x => decide (x ∈ b))
def R30 : List Da → Da → Prop := fun as d => ∃ a b, a.length < 1000 ∧ as = [.py (TD a), .py (TD b)] ∧ d = .py (.bool (apartI a b))
theorem ok30 {f : Addr} {fd : FuncData} (T : Tx K mg g) (F : FunS K "apart_in" "apart_in" (tp 30) [] f fd) : FnOk P w K mg base (L2.CX P w) 1 f fd ["one", "other"] (spR g 2 R30) := by
  refine fn_body F sc30 rfl fun cdv A outer s H E B hB as d hr hl h => ?_
  obtain ⟨a, b, h1, rfl, rfl⟩ := h
  refine hs_ret (ve_is (ve_not (ve_any (bs := a.map fun x => decide (x ∈ b)) rfl T.tany (ve_is (ve_lcT 2 PyData.int a (fun x => .bool (decide (x ∈ b))) sc30.nd loc_ent (Nat.le_trans (Nat.le_of_lt h1) (by decide)) (ve_var 0) fun x hx D acc _ _ _ _ _ =>
    ve_cmp (op_inT (hu65 hr)) (od_inT (sh_int _) (sh_TD _) (any_int b x)) (ve_var 2) (ve_var 1)) (by rw [List.map_map]; rfl)))) ?_) fun _ _ _ p dv => ⟨p.1, dv⟩
  rw [List.any_map]
  rfl
/-! ### apart_pairs -/
theorem sc31 : FnScope ["teams", "some", "later", "at", "to"] ["teams"] (defScope (tp 31)) := ⟨rfl, rfl, rfl, by decide +kernel, rfl, by decide +kernel, by decide +kernel⟩
def apartPrs (ts : List (List Int)) : List (Nat × Nat) := (prs ts.length).filter fun p => apartI (ts.getD p.1 []) (ts.getD p.2 [])
def R31 : List Da → Da → Prop := fun as d => ∃ p ts, ts.length ≤ 100 ∧ (∀ t ∈ ts, t.length < 1000) ∧ as = [.tms p (ts.map TD)] ∧ d = .py (QT ((apartPrs ts).map pI))
theorem atI_TD {ts : List (List Int)} {i : Nat} (h : i < ts.length) : atI (ts.map TD) (i : Int) = some (TD (ts.getD i [])) := by
  refine atI_nat ?_
  rw [List.getElem?_map, List.getElem?_eq_getElem h, List.getD_eq_getElem?_getD, List.getElem?_eq_getElem h]
  rfl
theorem ok31 {f : Addr} {fd : FuncData} (T : Tx K mg g) (c29 : Pn P w K mg base 1 "need_teams" [.str "teams"] (spR g 2 R29)) (c30 : Pn P w K mg base 1 "apart_in" [] (spR g 2 R30)) (F : FunS K "apart_pairs" "apart_pairs" (tp 31) [] f fd) : FnOk P w K mg base (L2.CX P w) 2 f fd ["teams"] (spR g 1 R31) := by
  refine fn_body F sc31 rfl fun cdv A outer s H E B hB as d hr hl h => ?_
  obtain ⟨p, ts, h1, h2, rfl, rfl⟩ := h
  have hlen : (ts.map TD).length = ts.length := List.length_map _
  have hprs : (prs ts.length).length ≤ sizeLine := Nat.le_trans (prs_len _) (Nat.le_trans (Nat.mul_le_mul h1 h1) (by decide))
  refine hs_expr (ve_call (dds := [.py (.str "teams")]) c29 hr (va_cons (ve_var 0) va_nil) ⟨p, _, _, rfl, rfl⟩ (by decide) (fun _ _ => .cons (.str _) .nil)) ?_
  refine hs_set 1 sc31.nd (ve_teams T.cl (ve_var 0)) ?_
  refine hs_setLc2 2 3 4 (ts.length : Nat) (fun i => (i : Int) + 1) (fun _ => (ts.length : Nat)) (fun i m => .tuple [.int (i : Nat), .int ((i : Int) + 1 + (m : Nat))]) (by decide) sc31.nd loc_ent T.trange (by omega) (fun i hi => by omega) ?_
    (ve_is (ve_many T.cl (ve_var 0)) (by rw [hlen])) (fun i hi D acc _ _ _ _ _ => ⟨ve_op op_add od_i0 (ve_var 3) ve_int, ve_is (ve_many T.cl (ve_var 0)) (by rw [hlen])⟩) (fun i m hi hm D acc _ _ _ _ _ => ve_pair (ve_var 3) (ve_var 4)) ?_
  · rw [Int.toNat_natCast, flat2_prs, List.length_map]
    exact hprs
  rw [Int.toNat_natCast, flat2_prs]
  refine hs_ret (ve_is (ve_tupL T.ttuple (ve_lcPf 3 4 (fun p => .int (p.1 : Nat)) (fun p => .int (p.2 : Nat)) (prs ts.length) (fun p => apartI (ts.getD p.1 []) (ts.getD p.2 [])) (fun p => TD (pI p)) (by decide) sc31.nd loc_ent hprs (ve_var 2)
    (fun p hp D acc _ _ _ _ _ => vts_one (vt_val (ve_call c30 hr (va_cons (ve_ixT (ve_var 1) (ve_var 3) (atI_TD (by have := mem_prs.mp hp; omega))) (va_cons (ve_ixT (ve_var 1) (ve_var 4) (atI_TD (by have := mem_prs.mp hp; omega))) va_nil)) ⟨_, _, ?_, rfl, rfl⟩)))
    (fun p hp hq D acc _ _ _ _ _ => ve_pair (ve_var 3) (ve_var 4)))) ?_) fun _ _ _ p dv => ⟨p.1, dv⟩
  · have hp2 := mem_prs.mp hp
    have hlt : p.1 < ts.length := by omega
    rw [List.getD_eq_getElem?_getD, List.getElem?_eq_getElem hlt]
    exact h2 _ (List.getElem_mem hlt)
  · show _ = Da.py (.tuple (((apartPrs ts).map pI).map TD))
    rw [List.map_map]
    rfl
end
end My
/-! P4: webs. -/
namespace My
open PySem PySem.Spec PyProof.Rows L2 StX
section
variable {P : Program} {w : World} {K : PySem.W.Frag} {mg : Str → Option Value} {base : Heap} {g : Gc}
/-! ### is_tie -/
theorem sc34 : FnScope ["value", "points", "each"] ["value", "points"] (defScope (tp 34)) := ⟨rfl, rfl, rfl, by decide +kernel, rfl, by decide +kernel, by decide +kernel⟩
def TieOk (n : Nat) (p : Nat × Nat) : Prop := p.1 < p.2 ∧ p.2 < n
def R34 : List Da → Da → Prop := fun as d => ∃ (n : Nat) (p : Nat × Nat), TieOk n p ∧ as = [.py (TD (pI p)), .py (.int (n : Nat))] ∧ d = .py (.bool true)
theorem atI_0 (a b : PyData) : atI [a, b] 0 = some a := rfl
theorem atI_1 (a b : PyData) : atI [a, b] 1 = some b := rfl
theorem ok34 {f : Addr} {fd : FuncData} (T : Tx K mg g) (c12 : Pn P w K mg base 1 "is_list" [] (spR g 1 R12)) (c11 : Pn P w K mg base 2 "is_within" [] (spR g 3 R11)) (F : FunS K "is_tie" "is_tie" (tp 34) [] f fd) : FnOk P w K mg base (L2.CX P w) 3 f fd ["value", "points"] (spR g 2 R34) := by
  refine fn_body F sc34 rfl fun cdv A outer s H E B hB as d hr hl h => ?_
  obtain ⟨n, p, ⟨h1, h2⟩, rfl, rfl⟩ := h
  have hin : ∀ i ∈ pI p, 0 ≤ i ∧ i ≤ (n : Int) - 1 := fun i hi => by
    rcases List.mem_cons.mp hi with e | hi
    · omega
    · have := List.mem_singleton.mp hi
      omega
  refine hs_ifR (k := false) (vt_is (VW.t (vw_or (vt_not (vt_val (ve_call c12 hr (va_cons (ve_var 0) va_nil) ⟨_, ⟨_, .inr rfl⟩, rfl, rfl⟩))) fun _ => vw_or (vt_cmp (op_neD (hu64 hr)) (od_ne (sh_int _) (sh_int _) rfl) (ve_lenT T.tlen (ve_var 0)) ve_int)
    fun _ => vw_or1 (vt_not (vt_val (ve_all (bs := (pI p).map fun _ => true) rfl T.tall (ve_is (ve_lcT 2 PyData.int (pI p) (fun _ => .bool true) sc34.nd loc_ent (by show 2 ≤ sizeLine; decide) (ve_var 0) fun i hi D acc _ _ _ _ _ =>
      ve_call c11 hr (va_cons (ve_var 2) (va_cons ve_int (va_cons (ve_op op_sub od_i0 (ve_var 1) ve_int) va_nil))) ⟨.int i, 0, (n : Int) - 1, rfl, rfl, by rw [inR_yes (hin i hi).1 (hin i hi).2]⟩) rfl)))))) rfl) (fun z => absurd z (by decide)) fun _ => ?_
  refine hs_ret (ve_is (ve_cmp op_lt od_b0 (ve_ixT (ve_var 0) ve_int (atI_0 _ _)) (ve_ixT (ve_var 0) ve_int (atI_1 _ _))) ?_) fun _ _ _ p dv => ⟨p.1, dv⟩
  show Da.py (.bool (decide ((p.1 : Int) < (p.2 : Int)))) = _
  rw [decide_eq_true (by omega)]
/-! ### are_ties -/
theorem sc35 : FnScope ["value", "points", "each"] ["value", "points"] (defScope (tp 35)) := ⟨rfl, rfl, rfl, by decide +kernel, rfl, by decide +kernel, by decide +kernel⟩
def R35 : List Da → Da → Prop := fun as d => ∃ (n : Nat) (ps : List (Nat × Nat)) (c : PyData), (∀ p ∈ ps, TieOk n p) ∧ ps.Nodup ∧ ps.length ≤ 1228 ∧ (c = LT (ps.map pI) ∨ c = QT (ps.map pI)) ∧ as = [.py c, .py (.int (n : Nat))] ∧ d = .py (.bool true)
theorem pI_inj {p q : Nat × Nat} (h : pI p = pI q) : p = q := by
  injection h with h1 h2
  injection h2 with h2 _
  exact Prod.ext (Int.natCast_inj.mp h1) (Int.natCast_inj.mp h2)
theorem nodup_pI {ps : List (Nat × Nat)} (h : ps.Nodup) : (ps.map pI).Nodup := List.pairwise_map.mpr (h.imp fun n e => n (pI_inj e))
theorem ok35 {f : Addr} {fd : FuncData} (T : Tx K mg g) (c12 : Pn P w K mg base 1 "is_list" [] (spR g 1 R12)) (c34 : Pn P w K mg base 3 "is_tie" [] (spR g 2 R34)) (F : FunS K "are_ties" "are_ties" (tp 35) [] f fd) : FnOk P w K mg base (L2.CX P w) 4 f fd ["value", "points"] (spR g 2 R35) := by
  refine fn_body F sc35 rfl fun cdv A outer s H E B hB as d hr hl h => ?_
  obtain ⟨n, ps, c, h1, h2, h3, h4, rfl, rfl⟩ := h
  have hsz : (ps.map pI).length ≤ sizeLine := by
    rw [List.length_map]
    exact Nat.le_trans h3 (by decide)
  have hsz' : (ps.map pI).length ≤ 1228 := by rw [List.length_map]; exact h3
  have hall : (((ps.map pI).map fun _ => true).all fun x => x) = true := by
    rw [List.all_map]
    exact List.all_eq_true.mpr fun _ _ => rfl
  have ho : ∀ t ∈ ps.map pI, ∃ p, TieOk n p ∧ t = pI p := fun t ht => by
    obtain ⟨p, hp, rfl⟩ := List.mem_map.mp ht
    exact ⟨p, h1 p hp, rfl⟩
  rcases h4 with rfl | rfl
  · refine hs_ifR (k := false) (vt_is (VW.t (vw_or (vt_not (vt_val (ve_call c12 hr (va_cons (ve_var 0) va_nil) ⟨_, ⟨_, .inl rfl⟩, rfl, rfl⟩))) fun _ => vw_or1 (vt_not (vt_val (ve_all (bs := (ps.map pI).map fun _ => true) rfl T.tall (ve_is (ve_lcL 2 TD (ps.map pI) (fun _ => .bool true) sc35.nd loc_ent hsz (ve_var 0) fun t ht D acc _ _ _ _ _ => by
      obtain ⟨p, hp, rfl⟩ := ho t ht
      exact ve_call c34 hr (va_cons (ve_var 2) (va_cons (ve_var 1) va_nil)) ⟨n, p, hp, rfl, rfl⟩) (by simp only [List.map_map]; rfl))))))) (by rw [hall]; rfl)) (fun z => absurd z (by decide)) fun _ => ?_
    refine hs_ret (ve_cmp (op_eqD (hu64 hr)) (od_eq (sh_int _) (sh_int _) ?_) (ve_lenSC 2 (ps.map pI) hr sc35.nd loc_ent (nodup_pI h2) hsz' T.tlen (vi_list (ve_var 0)) fun t ht D o _ _ _ _ _ => ve_tupT T.ttuple (ve_var 2)) (ve_lenL T.tlen (ve_var 0))) fun _ _ _ p dv => ⟨p.1, dv⟩
    rw [List.length_map (f := TD), PyData.eqv, beq_self_eq_true]
  · refine hs_ifR (k := false) (vt_is (VW.t (vw_or (vt_not (vt_val (ve_call c12 hr (va_cons (ve_var 0) va_nil) ⟨_, ⟨_, .inr rfl⟩, rfl, rfl⟩))) fun _ => vw_or1 (vt_not (vt_val (ve_all (bs := (ps.map pI).map fun _ => true) rfl T.tall (ve_is (ve_lcT 2 TD (ps.map pI) (fun _ => .bool true) sc35.nd loc_ent hsz (ve_var 0) fun t ht D acc _ _ _ _ _ => by
      obtain ⟨p, hp, rfl⟩ := ho t ht
      exact ve_call c34 hr (va_cons (ve_var 2) (va_cons (ve_var 1) va_nil)) ⟨n, p, hp, rfl, rfl⟩) (by simp only [List.map_map]; rfl))))))) (by rw [hall]; rfl)) (fun z => absurd z (by decide)) fun _ => ?_
    refine hs_ret (ve_cmp (op_eqD (hu64 hr)) (od_eq (sh_int _) (sh_int _) ?_) (ve_lenSC 2 (ps.map pI) hr sc35.nd loc_ent (nodup_pI h2) hsz' T.tlen (vi_tup (ve_var 0)) fun t ht D o _ _ _ _ _ => ve_tupT T.ttuple (ve_var 2)) (ve_lenT T.tlen (ve_var 0))) fun _ _ _ p dv => ⟨p.1, dv⟩
    rw [List.length_map (f := TD), PyData.eqv, beq_self_eq_true]
/-! ### Web.__init__ -/
theorem scW : FnScope ["self", "points", "ties", "each"] ["self", "points", "ties"] (defScope (inClass (tp 36) 0)) := ⟨rfl, rfl, rfl, by decide +kernel, rfl, by decide +kernel, by decide +kernel⟩
def keptTies (ps : List (Nat × Nat)) : List (List Int) := sortT (ps.map pI)
def RW_ : List Da → Da → Prop := fun as d => ∃ (n : Nat) (ps : List (Nat × Nat)) (c : PyData), 1 ≤ n ∧ n ≤ 60 ∧ (∀ p ∈ ps, TieOk n p) ∧ ps.Nodup ∧ ps.length ≤ 1228 ∧ (c = LT (ps.map pI) ∨ c = QT (ps.map pI)) ∧ as = [.py (.int (n : Nat)), .py c] ∧ d = .web (n : Nat) ((keptTies ps).map TD)
theorem okW {f : Addr} {fd : FuncData} (T : Tx K mg g) (c14 : Pn P w K mg base 3 "need_number" [] (spR g 4 R14)) (c35 : Pn P w K mg base 4 "are_ties" [] (spR g 2 R35)) (F : FunS K "__init__" "Web.__init__" (inClass (tp 36) 0) [] f fd) :
    FnOk P w K mg base (L2.CX P w) 5 f fd ["self", "points", "ties"] (spI g g.CW 2 RW_) := by
  refine in_body F scW rfl fun cdv A outer s H E B H0 hB me dx as d hr nb off hl h => ?_
  obtain ⟨n, ps, c, h1, h2, h3, h4, h5, h6, rfl, rfl⟩ := h
  obtain ⟨u5, m5⟩ := T.mO
  have hsz : (ps.map pI).length ≤ sizeLine := by
    rw [List.length_map]
    exact Nat.le_trans h5 (by decide)
  refine hs_expr (ve_call c14 hr (va_cons (ve_var 1) (va_cons ve_str (va_cons ve_int (va_cons (ve_glob rfl m5) va_nil)))) ⟨(n : Nat), 1, 60, _, by omega, by omega, rfl, rfl⟩) ?_
  refine hs_ifF (vt_is (vt_not (vt_val (ve_call c35 hr (va_cons (ve_var 2) (va_cons (ve_var 1) va_nil)) ⟨n, ps, c, h3, h4, h5, h6, rfl, rfl⟩))) rfl) ?_
  refine hs_put 0 rfl (ve_var 1) (fun v => Chg.o1 _ _ off) T.cl.clW T.cl.nPo (by decide) fun v => ?_
  refine hs_pre (P' := fun σ H => v = .int (n : Nat) ∧ Pre g _ _ σ H) (hs_pure fun e => ?_) fun σ H z => ⟨dv_int z.1, z.2⟩
  subst e
  refine hs_put (d := .py (QT (keptTies ps))) 0 rfl ?_ (fun v => Chg.o1 _ _ off) T.cl.clW T.cl.nTi (Nat.lt_of_le_of_lt (length_putF _ _ _) (by decide)) fun v => ?_
  · refine ve_tupL T.ttuple (ve_sortLT hr T.tsorted (fun t ht => ?_) ?_)
    · obtain ⟨p, _, rfl⟩ := List.mem_map.mp ht
      exact fun z => (nomatch z)
    · rcases h6 with rfl | rfl
      · exact ve_is (ve_lcL 3 TD (ps.map pI) TD scW.nd loc_ent.own hsz (ve_var 2) fun t ht D acc _ _ _ _ _ => ve_tupT T.ttuple (ve_var 3)) rfl
      · exact ve_is (ve_lcT 3 TD (ps.map pI) TD scW.nd loc_ent.own hsz (ve_var 2) fun t ht D acc _ _ _ _ _ => ve_tupT T.ttuple (ve_var 3)) rfl
  · refine hs_nil fun σ H z => ⟨z.2.1.1, ?_⟩
    have m2 : Dq _ H v _ := z.1
    cases m2 with
    | tup n hA da => exact ⟨me, dx, _, rfl, nb, o1_at z.2.1, Dq.weak (fun a z => .inl z) _ _ (.tup n hA da)⟩
/-! ### need_web, need_few_people, where they do not refuse -/
theorem sc37 : FnScope ["value"] ["value"] (defScope (tp 37)) := ⟨rfl, rfl, rfl, by decide +kernel, rfl, by decide +kernel, by decide +kernel⟩
def R37 : List Da → Da → Prop := fun as d => ∃ n ts, as = [.web n ts] ∧ d = .py .none
theorem ok37 {f : Addr} {fd : FuncData} (T : Tx K mg g) (F : FunS K "need_web" "need_web" (tp 37) [] f fd) : FnOk P w K mg base (L2.CX P w) 1 f fd ["value"] (spR g 1 R37) := by
  refine fn_body F sc37 rfl fun cdv A outer s H E B hB as d hr hl h => ?_
  obtain ⟨n, ts, rfl, rfl⟩ := h
  exact hs_ifF (vt_is (vt_not (vt_val (ve_isi T.cl T.tW T.tT T.isinst (ve_var 0) rfl (ve_cls T.gW) (.own _) (kit_self _)))) rfl) (hs_nil fun σ H p => ⟨p.1, .non⟩)
theorem sc38 : FnScope ["many"] ["many"] (defScope (tp 38)) := ⟨rfl, rfl, rfl, by decide +kernel, rfl, by decide +kernel, by decide +kernel⟩
def R38 : List Da → Da → Prop := fun as d => ∃ n : Int, n ≤ 12 ∧ as = [.py (.int n)] ∧ d = .py .none
theorem ok38 {f : Addr} {fd : FuncData} (T : Tx K mg g) (F : FunS K "need_few_people" "need_few_people" (tp 38) [] f fd) : FnOk P w K mg base (L2.CX P w) 1 f fd ["many"] (spR g 1 R38) := by
  refine fn_body F sc38 rfl fun cdv A outer s H E B hB as d hr hl h => ?_
  obtain ⟨n, h1, rfl, rfl⟩ := h
  obtain ⟨u5, m5⟩ := T.mP
  exact hs_ifF (vt_is (vt_cmp op_gt (od_b0 (f := fun i j => decide (j < i))) (ve_var 0) (ve_glob rfl m5)) (decide_eq_false (by omega))) (hs_nil fun σ H p => ⟨p.1, .non⟩)
/-! ### is_tied -/
theorem sc41 : FnScope ["web", "one", "other"] ["web", "one", "other"] (defScope (tp 41)) := ⟨rfl, rfl, rfl, by decide +kernel, rfl, by decide +kernel, by decide +kernel⟩
def R41 : List Da → Da → Prop := fun as d => ∃ (n a b : Int) (ts : List (List Int)), as = [.web n (ts.map TD), .py (.int a), .py (.int b)] ∧ d = .py (.bool (decide ([min a b, max a b] ∈ ts)))
theorem ok41 {f : Addr} {fd : FuncData} (T : Tx K mg g) (F : FunS K "is_tied" "is_tied" (tp 41) [] f fd) : FnOk P w K mg base (L2.CX P w) 1 f fd ["web", "one", "other"] (spR g 3 R41) := by
  refine fn_body F sc41 rfl fun cdv A outer s H E B hB as d hr hl h => ?_
  obtain ⟨n, a, b, ts, rfl, rfl⟩ := h
  exact hs_ret (ve_cmp (op_inT (hu65 hr)) (od_inT (sh_TD [min a b, max a b]) (sh_TT ts) (any_TD ts _)) (ve_pair (ve_min2 rfl T.tmin (ve_var 1) (ve_var 2)) (ve_max2 rfl T.tmax (ve_var 1) (ve_var 2))) (ve_ties T.cl (ve_var 0))) fun _ _ _ p dv => ⟨p.1, dv⟩
/-! ### are_tied, where it does not refuse -/
theorem sc42 : FnScope ["web", "one", "other"] ["web", "one", "other"] (defScope (tp 42)) := ⟨rfl, rfl, rfl, by decide +kernel, rfl, by decide +kernel, by decide +kernel⟩
def R42 : List Da → Da → Prop := fun as d => ∃ (n a b : Int) (ts : List (List Int)), 0 ≤ a ∧ a < n ∧ 0 ≤ b ∧ b < n ∧ as = [.web n (ts.map TD), .py (.int a), .py (.int b)] ∧ d = .py (.bool (decide ([min a b, max a b] ∈ ts)))
theorem ok42 {f : Addr} {fd : FuncData} (T : Tx K mg g) (c37 : Pn P w K mg base 1 "need_web" [] (spR g 1 R37)) (c14 : Pn P w K mg base 3 "need_number" [] (spR g 4 R14)) (c41 : Pn P w K mg base 1 "is_tied" [] (spR g 3 R41)) (F : FunS K "are_tied" "are_tied" (tp 42) [] f fd) : FnOk P w K mg base (L2.CX P w) 4 f fd ["web", "one", "other"] (spR g 3 R42) := by
  refine fn_body F sc42 rfl fun cdv A outer s H E B hB as d hr hl h => ?_
  obtain ⟨n, a, b, ts, h1, h2, h3, h4, rfl, rfl⟩ := h
  refine hs_expr (ve_call c37 hr (va_cons (ve_var 0) va_nil) ⟨n, _, rfl, rfl⟩) ?_
  refine hs_expr (ve_call c14 hr (va_cons (ve_var 1) (va_cons ve_str (va_cons ve_int (va_cons (ve_op op_sub od_i0 (ve_points T.cl (ve_var 0)) ve_int) va_nil)))) ⟨a, 0, n - 1, _, h1, by omega, rfl, rfl⟩) ?_
  refine hs_expr (ve_call c14 hr (va_cons (ve_var 2) (va_cons ve_str (va_cons ve_int (va_cons (ve_op op_sub od_i0 (ve_points T.cl (ve_var 0)) ve_int) va_nil)))) ⟨b, 0, n - 1, _, h3, by omega, rfl, rfl⟩) ?_
  exact hs_ret (ve_call c41 hr (va_cons (ve_var 0) (va_cons (ve_var 1) (va_cons (ve_var 2) va_nil))) ⟨n, a, b, ts, rfl, rfl⟩) fun _ _ _ p dv => ⟨p.1, dv⟩
end
end My
/-! P5: untied_pairs. -/
namespace My
open PySem PySem.Spec PyProof.Rows L2 StX
section
variable {P : Program} {w : World} {K : PySem.W.Frag} {mg : Str → Option Value} {base : Heap} {g : Gc}
abbrev kT (ts : List (List Int)) : List (List L2.Key) := ts.map fun t => t.map Sum.inl
theorem sc39 : FnScope ["web", "tied", "found", "one", "tie", "other"] ["web"] (defScope (tp 39)) := ⟨rfl, rfl, rfl, by decide +kernel, rfl, by decide +kernel, by decide +kernel⟩
def R39 : List Da → Da → Prop := fun as d => ∃ (n : Nat) (ts : List (List Int)), n ≤ 100 ∧ ts.Nodup ∧ ts.length ≤ 2000 ∧ as = [.web (n : Nat) (ts.map TD)] ∧ d = .py (LT ((untied n ts).map pI))
theorem ok39 {f : Addr} {fd : FuncData} (T : Tx K mg g) (F : FunS K "untied_pairs" "untied_pairs" (tp 39) [] f fd) : FnOk P w K mg base (L2.CX P w) 1 f fd ["web"] (spR g 1 R39) := by
  refine fn_body F sc39 rfl fun cdv A outer s H E B hB as d hr hl h => ?_
  obtain ⟨n, ts, h1, h2, h3, rfl, rfl⟩ := h
  have hts : ts.length ≤ sizeLine := Nat.le_trans h3 (by decide)
  refine hs_parOwnC 1 2 sc39.nd loc_ent (ve_dcT 4 ts (.bool true) hr sc39.nd loc_ent h2 hts (ve_ties T.cl (ve_var 0)) (fun t ht D o _ _ _ _ _ => ve_var 4) (fun t ht D o _ _ _ _ _ => ve_bl)) fun L nb off => ?_
  refine hs_for (Z := List V) (fun H1 _ z => ((Wd.ent B H hB).o1 L (.lst z)).rel H1) (fun _ i z => [some (.web (n : Nat) (ts.map TD)), some (.dT (kT ts)), some (.own L z (utp n ts i)), none, none, none])
    (vi_rng1 (j := 3) rfl T.trange (ve_points T.cl (ve_var 0)) (by omega)) (pg_name (i := 3) sc39.nd rfl (Or.inr rfl)) (fun H1 i z => .rel fun a h => h) (fun σ H1 p => ⟨[], p.torel⟩) (fun H1 i z m1 hi => ?_) (fun H1 z m1 => ?_)
  · rw [Int.toNat_natCast] at hi
    refine hs_extend 2 (W2 := fun us => ((Wd.ent B H hB).o1 L (.lst (z ++ us))).rel H1) rfl (fun us => (Chg.o1 _ _ off).rel H1)
      (ve_lcR2f 5 ((i : Int) + 1) (n : Nat) (fun m => !decide ([(i : Int), (i : Int) + 1 + (m : Nat)] ∈ ts)) (fun m => .tuple [.int (i : Nat), .int ((i : Int) + 1 + (m : Nat))]) sc39.nd (loc_ent.own).rel T.trange (by omega) (ve_op op_add od_i0 (ve_var 3) ve_int) (ve_points T.cl (ve_var 0))
        (fun m hm D acc _ _ _ _ _ => vts_one (vt_dnin (t := [(i : Int), (i : Int) + 1 + (m : Nat)]) hr (ve_pair (ve_var 3) (ve_var 5)) (ve_var 1))) (fun m hm hq D acc _ _ _ _ _ => ve_pair (ve_var 3) (ve_var 5))) ?_ fun us => hs_nil fun σ H' p => ⟨z ++ us, ?_⟩
    · rw [← List.length_append, ← utp_succ]
      exact Nat.le_trans (utp_len n ts (i + 1)) (Nat.le_trans (Nat.mul_le_mul (show i + 1 ≤ 100 by omega) h1) (by decide))
    · have e := utp_succ n ts i
      show Pre g _ [_, _, some (.own L (z ++ us) (utp n ts (i + 1))), none, none, none] σ H'
      rw [e]
      exact p.less (.eq (.eq (.eq (.no (.eq (.eq .nil))))))
  · rw [Int.toNat_natCast]
    refine hs_pre (P' := Pre g (Wd.ent B H hB) [some (.web (n : Nat) (ts.map TD)), some (.dT (kT ts)), some (.py (.list (utp n ts n))), none, none, none]) ?_ fun σ H' p => freeze (i := 2) nb rfl p.unrel
    refine hs_ret (ve_var 2) fun _ _ _ p dv => ⟨p.1, ?_⟩
    rw [utp_eq] at dv
    exact dv
end
end My
/-! P6: web_teams. -/
namespace My
open PySem PySem.Spec PyProof.Rows L2 StX
theorem cAt_zero (ps : List (Nat × Nat)) : cAt ps 0 = fun _ => [] := rfl
/-- within the turn of the i-th pair -/
def cIn (ps : List (Nat × Nat)) (i : Nat) : Nat → Nat → List Int
  | 0 => cAt ps i
  | 1 => cput (cAt ps i) (ps.getD i (0, 0)).1 i
  | _ => cAt ps (i + 1)
theorem lkp_lone (l : List Nat) (hn : l.Nodup) (q : Nat) : (lkp ((List.range l.length).map fun i => (((l.getD i 0 : Nat) : Int), PyData.tuple [.int (i : Nat)])) (q : Nat)).getD (.tuple []) = TD (if q ∈ l then [(l.idxOf q : Int)] else []) := by
  by_cases h : q ∈ l
  · rw [if_pos h]
    have hlt : l.idxOf q < l.length := List.idxOf_lt_length_of_mem h
    have e : lkp ((List.range l.length).map fun i => (((l.getD i 0 : Nat) : Int), PyData.tuple [.int (i : Nat)])) (q : Nat) = some (.tuple [.int (l.idxOf q : Nat)]) := by
      unfold lkp
      rw [List.find?_map]
      have ef : (List.range l.length).find? ((fun kv : Int × PyData => decide (kv.1 = (q : Int))) ∘ fun i => (((l.getD i 0 : Nat) : Int), PyData.tuple [.int (i : Nat)])) = some (l.idxOf q) := by
        rw [List.find?_range_eq_some]
        refine ⟨?_, List.mem_range.mpr hlt, fun j hj => ?_⟩
        · have : l.getD (l.idxOf q) 0 = q := by
            rw [List.getD_eq_getElem?_getD, List.getElem?_eq_getElem hlt]
            exact List.getElem_idxOf hlt
          show decide ((((l.getD (l.idxOf q) 0 : Nat)) : Int) = (q : Int)) = true
          rw [this]
          exact decide_eq_true rfl
        · have hj2 : j < l.length := Nat.lt_trans hj hlt
          have : l.getD j 0 = l[j] := by rw [List.getD_eq_getElem?_getD, List.getElem?_eq_getElem hj2]; rfl
          have ne : l[j] ≠ q := fun e => by
            have := hn.idxOf_getElem j hj2
            rw [e] at this
            omega
          simp only [Function.comp_apply, this, decide_eq_true_eq, Bool.not_eq_true', decide_eq_false_iff_not]
          intro e
          exact ne (Int.natCast_inj.mp e)
      rw [ef]
      rfl
    rw [e]
    rfl
  · rw [if_neg h]
    have e : lkp ((List.range l.length).map fun i => (((l.getD i 0 : Nat) : Int), PyData.tuple [.int (i : Nat)])) (q : Nat) = none := by
      unfold lkp
      rw [List.find?_eq_none.mpr]
      · rfl
      · intro kv hkv
        obtain ⟨j, hj, rfl⟩ := List.mem_map.mp hkv
        have hj2 := List.mem_range.mp hj
        have : l.getD j 0 = l[j] := by rw [List.getD_eq_getElem?_getD, List.getElem?_eq_getElem hj2]; rfl
        simp only [this, decide_eq_true_eq]
        intro e
        exact h (by rw [← Int.natCast_inj.mp e]; exact List.getElem_mem hj2)
    rw [e]
    rfl
theorem lay_LIs (c : Nat → List Int) : ∀ l : List Nat, PyData.canLayAll0 (l.map fun q => LI (c q)) = true
  | [] => rfl
  | q :: l => by
    show PyData.canLayAll0 (LI (c q) :: l.map fun q => LI (c q)) = true
    rw [PyData.canLayAll0, lay_LIs c l, SeqAt.canLay_of_shaped (sh_LI _)]
    rfl
theorem depth_LIs (c : Nat → List Int) : ∀ l : List Nat, PyData.depthAll (l.map fun q => LI (c q)) ≤ 1
  | [] => Nat.zero_le _
  | q :: l => by
    have h := depth_LIs c l
    show PyData.depthAll (LI (c q) :: l.map fun q => LI (c q)) ≤ 1
    rw [PyData.depthAll, PyData.depth, PySem.W.depth_ints]
    omega
theorem sh_LIs (c : Nat → List Int) (l : List Nat) : SeqAt.shaped (.list (l.map fun q => LI (c q))) = true := sh_of (by rw [PyData.canLay0, lay_LIs]) (by have := depth_LIs c l; rw [PyData.depth]; omega)
theorem cnt_LIs (c : Nat → List Int) (x : List Int) (l : List Nat) : (l.map fun q => LI (c q)).countP (fun z => PyData.eqv z (LI x)) = l.countP fun r => decide (c r = x) := by
  rw [List.countP_map]
  congr 1
  funext r
  exact eqv_LI _ _
theorem lones_nodup (n : Nat) (c : Nat → List Int) : (lones n c).Nodup := List.nodup_range.filter _
section
variable {P : Program} {w : World} {K : PySem.W.Frag} {mg : Str → Option Value} {base : Heap} {g : Gc}
theorem sc40 : FnScope ["web", "pairs", "shared", "at", "pair", "point", "lone", "owned", "found", "_"] ["web"] (defScope (tp 40)) := ⟨rfl, rfl, rfl, by decide +kernel, rfl, by decide +kernel, by decide +kernel⟩
def R40 : List Da → Da → Prop := fun as d => ∃ (n : Nat) (ts : List (List Int)), n ≤ 100 ∧ ts.Nodup ∧ ts.length ≤ 2000 ∧ as = [.web (n : Nat) (ts.map TD)] ∧ d = .py (.tuple [.int (webMany n ts : Nat), LT (webTeams n ts)])
theorem ok40 {f : Addr} {fd : FuncData} (T : Tx K mg g) (c39 : Pn P w K mg base 1 "untied_pairs" [] (spR g 1 R39)) (F : FunS K "web_teams" "web_teams" (tp 40) [] f fd) : FnOk P w K mg base (L2.CX P w) 2 f fd ["web"] (spR g 1 R40) := by
  refine fn_body F sc40 rfl fun cdv A0 outer s H E B hB as0 d hr hl h => ?_
  obtain ⟨n, ts, h1, h2, h3, rfl, rfl⟩ := h
  obtain ⟨ps, eps⟩ : ∃ ps, untied n ts = ps := ⟨_, rfl⟩
  have hps : ps.length ≤ 10000 := by
    rw [← eps]
    exact Nat.le_trans (untied_len n ts) (Nat.mul_le_mul h1 h1)
  have hmem : ∀ i, i < ps.length → (ps.getD i (0, 0)).1 < n ∧ (ps.getD i (0, 0)).2 < n := fun i hi => by
    rw [List.getD_eq_getElem?_getD, List.getElem?_eq_getElem hi]
    have := (mem_untied.mp (show ps[i] ∈ untied n ts by rw [eps]; exact List.getElem_mem hi)).1
    exact ⟨Nat.lt_trans this.1 this.2, this.2⟩
  refine hs_parFresh 1 2 9 (n : Nat) sc40.nd loc_ent T.trange (by omega) (ve_call c39 hr (va_cons (ve_var 0) va_nil) ⟨n, ts, h1, h2, h3, rfl, rfl⟩) (ve_points T.cl (ve_var 0)) fun A as hlen Fr => ?_
  rw [Int.toNat_natCast] at hlen
  rw [eps]
  refine hs_for (Z := Unit) (fun H1 i _ => ((Wd.ent B H hB).own (A :: as) (smt A as (cAt ps i))).rel H1) (fun _ i _ => [some (.web (n : Nat) (ts.map TD)), some (.py (LT (ps.map pI))), some (.raw (.ref A)), none, none, none, none, none, none, none])
    (vi_enum (j := 3) (k := 4) (K' := K) rfl T.tenum (by decide) (ve_var 1)) (pg_tup (n := 2) rfl (pgs_cons (pg_name (i := 3) sc40.nd rfl (Or.inl rfl)) (pgs_cons (pg_name (i := 4) sc40.nd rfl (Or.inl rfl)) pgs_nil rfl) rfl) rfl rfl) (fun H1 i z => .rel fun a h => h) (fun σ H1 p => ⟨(), p.torel⟩) (fun H1 i _ m1 hi => ?_) (fun H1 _ m1 => ?_)
  · rw [List.length_map, List.length_map] at hi
    have hp := hmem i hi
    have eg : ((ps.map pI).map TD).getD i .none = TD (pI (ps.getD i (0, 0))) := by
      rw [map_getD (by rw [List.length_map]; exact hi), List.getElem_map, List.getD_eq_getElem?_getD, List.getElem?_eq_getElem hi]
      rfl
    have hlc : ∀ q, (cAt ps i q).length < 100000 := fun q => by
      have := cAt_len ps q i
      omega
    refine hs_for (Z := Unit) (fun H2 j _ => (((Wd.ent B H hB).own (A :: as) (smt A as (cIn ps i j))).rel H1).rel H2) (fun _ j _ => [some (.web (n : Nat) (ts.map TD)), some (.py (LT (ps.map pI))), some (.raw (.ref A)), some (.py (.int (i : Nat))), some (.py (TD (pI (ps.getD i (0, 0))))), none, none, none, none, none])
      (vi_tup (j := 5) (xs := [.int ((ps.getD i (0, 0)).1 : Nat), .int ((ps.getD i (0, 0)).2 : Nat)]) (ve_is (ve_var 4) (by rw [eg]; rfl))) (pg_name (i := 5) sc40.nd rfl (Or.inl rfl)) (fun H1 i z => .rel fun a h => h) (fun σ H1 p => ⟨(), by
        have p := p.torel
        rw [eg] at p
        exact p⟩) (fun H2 j _ m2 hj => ?_) (fun H2 _ m2 => ?_)
    · have hj : j < 2 := hj
      match j, hj with
      | 0, _ =>
        refine hs_appIx 2 (c := cAt ps i) (q := (ps.getD i (0, 0)).1) (k := (i : Nat)) rfl Fr.nd Fr.nA (by rw [hlen]; exact hp.1) (fun H m a ha => m.1.1.2 a ha) (W2 := (((Wd.ent B H hB).own (A :: as) (smt A as (cIn ps i 1))).rel H1).rel H2)
          (((Chg.own (List.mem_cons_of_mem _ (List.getElem_mem _)) (Fr.off _ (List.mem_cons_of_mem _ (List.getElem_mem _))) ?_).rel H1).rel H2) (ve_var 5) (ve_var 3) (Nat.lt_of_lt_of_le (hlc _) (by decide)) (hs_nil fun σ H p => ⟨(), p.less (.eq (.eq (.eq (.eq (.eq (.no (.eq (.eq (.eq (.eq .nil))))))))))⟩)
        intro a ha hne
        rcases List.mem_cons.mp ha with e | ha
        · rw [e, smt_A, smt_A]
        · obtain ⟨r, hr', rfl⟩ := List.mem_iff_getElem.mp ha
          rw [smt_a Fr.nd Fr.nA hr', smt_a Fr.nd Fr.nA hr']
          have : r ≠ (ps.getD i (0, 0)).1 := fun e => hne (by simp only [e])
          show HO.lst ((cput (cAt ps i) (ps.getD i (0, 0)).1 i r).map V.int) = _
          unfold cput
          rw [if_neg this]
          rfl
      | 1, _ =>
        refine hs_appIx 2 (c := cIn ps i 1) (q := (ps.getD i (0, 0)).2) (k := (i : Nat)) rfl Fr.nd Fr.nA (by rw [hlen]; exact hp.2) (fun H m a ha => m.1.1.2 a ha) (W2 := (((Wd.ent B H hB).own (A :: as) (smt A as (cIn ps i 2))).rel H1).rel H2)
          (((Chg.own (List.mem_cons_of_mem _ (List.getElem_mem _)) (Fr.off _ (List.mem_cons_of_mem _ (List.getElem_mem _))) ?_).rel H1).rel H2) (ve_var 5) (ve_var 3) (Nat.lt_of_le_of_lt (cput_len _ _ _ _) (Nat.lt_of_lt_of_le (Nat.succ_lt_succ (hlc _)) (by decide))) (hs_nil fun σ H p => ⟨(), p.less (.eq (.eq (.eq (.eq (.eq (.no (.eq (.eq (.eq (.eq .nil))))))))))⟩)
        intro a ha hne
        rcases List.mem_cons.mp ha with e | ha
        · rw [e, smt_A, smt_A]
        · obtain ⟨r, hr', rfl⟩ := List.mem_iff_getElem.mp ha
          rw [smt_a Fr.nd Fr.nA hr', smt_a Fr.nd Fr.nA hr']
          have : r ≠ (ps.getD i (0, 0)).2 := fun e => hne (by simp only [e])
          show HO.lst ((cput (cput (cAt ps i) (ps.getD i (0, 0)).1 i) (ps.getD i (0, 0)).2 i r).map V.int) = HO.lst ((cput (cAt ps i) (ps.getD i (0, 0)).1 i r).map V.int)
          show HO.lst ((if r = (ps.getD i (0, 0)).2 then cput (cAt ps i) (ps.getD i (0, 0)).1 i r ++ [(i : Int)] else cput (cAt ps i) (ps.getD i (0, 0)).1 i r).map V.int) = _
          rw [if_neg this]
    · exact hs_nil fun σ H p => ⟨(), p.unrel.less (.eq (.eq (.eq (.no (.no (.eq (.eq (.eq (.eq (.eq .nil))))))))))⟩
  · rw [List.length_map, List.length_map]
    obtain ⟨c, ec⟩ : ∃ c, cAt ps ps.length = c := ⟨_, rfl⟩
    rw [ec]
    have hlc : ∀ q, (c q).length < 100000 := fun q => by
      have := cAt_len ps q ps.length
      rw [ec] at this
      omega
    have hln := lones_nodup n c
    have hll : (lones n c).length ≤ n := Nat.le_trans (List.length_filter_le _ _) (by rw [List.length_range]; exact Nat.le_refl _)
    have hsh : ∀ q, q < n → atI ((List.range n).map fun q => LI (c q)) (q : Nat) = some (LI (c q)) := fun q hq => atI_nat (by
      rw [List.getElem?_map, List.getElem?_range hq]
      rfl)
    refine hs_pre (P' := Pre g (Wd.ent B H hB) [some (.web (n : Nat) (ts.map TD)), some (.py (LT (ps.map pI))), some (.py (.list ((List.range n).map fun q => LI (c q)))), none, none, none, none, none, none, none]) ?_ fun σ H' p => ?_
    · refine hs_set 6 sc40.nd (ve_lcRf 5 (n : Nat) (loneP n c) (fun q => .int (q : Nat)) sc40.nd loc_ent T.trange (by omega) (ve_points T.cl (ve_var 0)) (fun q hq D acc _ _ _ _ _ => vts_one (vt_is (VW.t (vw_or (vt_cmp (op_eqD (hu64 hr)) (od_eq (sh_LI _) (sh_LI []) (eqv_LI _ _)) (ve_ixL (ve_var 2) (ve_var 5) (hsh q hq)) (ve_lst (xs := []) va_nil))
          fun _ => vw_or1 (vt_cmp op_gt (od_b0 (f := fun i j => decide (j < i))) (ve_count (hu65 hr) (ve_var 2) (ve_ixL (ve_var 2) (ve_var 5) (hsh q hq)) (sh_LIs _ _) (sh_LI _) (cnt_LIs _ _ _)) ve_int))) (by unfold loneP; congr 1; exact decide_eq_decide.mpr (by omega)))) (fun q hq hp D acc _ _ _ _ _ => ve_var 5)) ?_
      have hkf : ∀ i i', i < i' → i' < (lones n c).length → (((lones n c).getD i 0 : Nat) : Int) ≠ (((lones n c).getD i' 0 : Nat) : Int) := fun i i' h1 h2 e => by
        have h3 : i < (lones n c).length := Nat.lt_trans h1 h2
        rw [List.getD_eq_getElem?_getD, List.getD_eq_getElem?_getD, List.getElem?_eq_getElem h3, List.getElem?_eq_getElem h2] at e
        have := (List.getElem_inj hln).mp (Int.natCast_inj.mp e)
        omega
      have hgd : ∀ i (h : i < (lones n c).length), (lones n c).getD i 0 = (lones n c)[i] := fun i h => by
        rw [List.getD_eq_getElem?_getD, List.getElem?_eq_getElem h]
        rfl
      refine hs_parOwn 7 8 sc40.nd loc_ent (ve_dcK 3 5 (fun q : Nat => PyData.int (q : Nat)) (lones n c) (fun i => (((lones n c).getD i 0 : Nat) : Int)) (fun i => .tuple [.int (i : Nat)]) (by decide) sc40.nd loc_ent (Nat.le_trans (Nat.le_trans hll h1) (by decide)) T.tenum (ve_var 6) hkf
        (fun i hi D o _ _ _ _ _ => ve_is (ve_var 5) (by rw [hgd i hi])) (fun i hi D o _ _ _ _ _ => ve_tup1 (ve_var 3))) fun L nb off => ?_
      refine hs_for (Z := List V) (fun H1 _ z => ((Wd.ent B H hB).o1 L (.lst z)).rel H1) (fun _ i z => [some (.web (n : Nat) (ts.map TD)), some (.py (LT (ps.map pI))), some (.py (.list ((List.range n).map fun q => LI (c q)))), none, none, none, some (.py (.list ((lones n c).map fun q => .int (q : Nat)))), some (.dK ((List.range (lones n c).length).map fun i => ((((lones n c).getD i 0 : Nat) : Int), .tuple [.int (i : Nat)]))), some (.own L z ((List.range i).map fun q => TD (teamAt n c q))), none])
        (vi_rng1 (j := 5) rfl T.trange (ve_points T.cl (ve_var 0)) (by omega)) (pg_name (i := 5) sc40.nd rfl (Or.inl rfl)) (fun H1 i z => .rel fun a h => h) (fun σ H1 p => ⟨[], p.torel⟩) (fun H1 q z m1 hq => ?_) (fun H1 z m1 => ?_)
      · rw [Int.toNat_natCast] at hq
        refine hs_append (c := TD (teamAt n c q)) (k := 0) 8 (W2 := fun v => ((Wd.ent B H hB).o1 L (.lst (z ++ [v]))).rel H1) rfl (fun v => (Chg.o1 _ _ off).rel H1)
          (ve_tup (xs := (teamAt n c q).map .int) (va_is (va_star (xs := (if q ∈ lones n c then [((lones n c).idxOf q : Int)] else []).map .int) (ve_is (ve_dget2 hr (ve_var 7) (ve_var 5) (ve_tup (xs := []) va_nil)) (congrArg Da.py (lkp_lone (lones n c) hln q)))
            (va_starL (xs := (c q).map fun k => .int (((lones n c).length : Int) + k)) (ve_lcL 3 PyData.int (c q) (fun k => .int (((lones n c).length : Int) + k)) sc40.nd (loc_ent.own).rel (Nat.le_trans (Nat.le_of_lt (hlc q)) (by decide)) (ve_ixL (ve_var 2) (ve_var 5) (hsh q hq)) fun k hk D acc _ _ _ _ _ =>
              ve_is (ve_op op_add od_i0 (ve_lenL T.tlen (ve_var 6)) (ve_var 3)) (by rw [List.length_map])) va_nil)) ?_) ?_) ?_ fun v => hs_nil fun σ H' p => ⟨z ++ [v], ?_⟩
        · unfold teamAt
          simp only [List.append_nil, List.map_append, List.map_map]
          rfl
        · unfold teamAt
          rw [List.length_map, List.length_append, List.length_map]
          have : (if q ∈ lones n c then [((lones n c).idxOf q : Int)] else []).length ≤ 1 := by split <;> simp
          have := hlc q
          exact Nat.le_trans (show _ ≤ 100001 by omega) (by decide)
        · rw [List.length_map, List.length_range]
          exact Nat.lt_of_lt_of_le hq (Nat.le_trans h1 (by decide))
        · have e : (List.range (q + 1)).map (fun q => TD (teamAt n c q)) = (List.range q).map (fun q => TD (teamAt n c q)) ++ [TD (teamAt n c q)] := by rw [List.range_succ, List.map_append]; rfl
          show Pre g _ [_, _, _, none, none, none, _, _, some (.own L (z ++ [v]) ((List.range (q + 1)).map fun q => TD (teamAt n c q))), none] σ H'
          rw [e]
          exact p.less (.eq (.eq (.eq (.eq (.eq (.no (.eq (.eq (.eq (.eq .nil))))))))))
      · rw [Int.toNat_natCast]
        refine hs_pre (P' := Pre g (Wd.ent B H hB) _) ?_ fun σ H' p => freeze (i := 8) nb rfl p.unrel
        refine hs_ret (ve_is (ve_pair (ve_op op_add od_i0 (ve_lenL T.tlen (ve_var 6)) (ve_lenL T.tlen (ve_var 1))) (ve_var 8)) ?_) fun _ _ _ p dv => ⟨p.1, dv⟩
        rw [List.length_map, List.length_map, List.length_map]
        have e1 : c = bare (untied n ts) := by rw [← ec, eps]; rfl
        have e2 : webMany n ts = (lones n c).length + ps.length := by unfold webMany; rw [← e1, eps]
        have e3 : (webTeams n ts).map TD = (List.range n).map fun q => TD (teamAt n c q) := by
          unfold webTeams
          rw [List.map_map, ← e1]
          rfl
        show _ = Da.py (.tuple [.int (webMany n ts : Nat), .list ((webTeams n ts).map TD)])
        rw [e2, e3, Int.natCast_add]
    · have q := freezeS (j := 2) Fr rfl p.unrel
      rw [hlen] at q
      exact q
end
end My
/-! P7: people_in, team_of, teams_of, web_of, where they do not refuse. -/
namespace My
open PySem PySem.Spec PyProof.Rows L2 StX
section
variable {P : Program} {w : World} {K : PySem.W.Frag} {mg : Str → Option Value} {base : Heap} {g : Gc}
theorem sc44 : FnScope ["web"] ["web"] (defScope (tp 44)) := ⟨rfl, rfl, rfl, by decide +kernel, rfl, by decide +kernel, by decide +kernel⟩
def WebOk (n : Nat) (ts : List (List Int)) : Prop := n ≤ 100 ∧ ts.Nodup ∧ ts.length ≤ 2000
def R44 : List Da → Da → Prop := fun as d => ∃ (n : Nat) (ts : List (List Int)), WebOk n ts ∧ as = [.web (n : Nat) (ts.map TD)] ∧ d = .py (.int (webMany n ts : Nat))
theorem ok44 {f : Addr} {fd : FuncData} (T : Tx K mg g) (c37 : Pn P w K mg base 1 "need_web" [] (spR g 1 R37)) (c40 : Pn P w K mg base 2 "web_teams" [] (spR g 1 R40)) (F : FunS K "people_in" "people_in" (tp 44) [] f fd) : FnOk P w K mg base (L2.CX P w) 3 f fd ["web"] (spR g 1 R44) := by
  refine fn_body F sc44 rfl fun cdv A outer s H E B hB as d hr hl h => ?_
  obtain ⟨n, ts, ⟨h1, h2, h3⟩, rfl, rfl⟩ := h
  refine hs_expr (ve_call c37 hr (va_cons (ve_var 0) va_nil) ⟨_, _, rfl, rfl⟩) ?_
  exact hs_ret (ve_ixT (ve_call c40 hr (va_cons (ve_var 0) va_nil) ⟨n, ts, h1, h2, h3, rfl, rfl⟩) ve_int (atI_0 _ _)) fun _ _ _ p dv => ⟨p.1, dv⟩
theorem sc45 : FnScope ["web", "point"] ["web", "point"] (defScope (tp 45)) := ⟨rfl, rfl, rfl, by decide +kernel, rfl, by decide +kernel, by decide +kernel⟩
def R45 : List Da → Da → Prop := fun as d => ∃ (n q : Nat) (ts : List (List Int)), WebOk n ts ∧ q < n ∧ as = [.web (n : Nat) (ts.map TD), .py (.int (q : Nat))] ∧ d = .py (TD (teamAt n (bare (untied n ts)) q))
theorem webTeams_len (n : Nat) (ts : List (List Int)) : (webTeams n ts).length = n := by
  unfold webTeams
  rw [List.length_map, List.length_range]
theorem webTeams_at {n q : Nat} (ts : List (List Int)) (h : q < n) : (webTeams n ts).getD q [] = teamAt n (bare (untied n ts)) q := by
  unfold webTeams
  rw [List.getD_eq_getElem?_getD, List.getElem?_map, List.getElem?_range h]
  rfl
theorem ok45 {f : Addr} {fd : FuncData} (T : Tx K mg g) (c37 : Pn P w K mg base 1 "need_web" [] (spR g 1 R37)) (c14 : Pn P w K mg base 3 "need_number" [] (spR g 4 R14)) (c40 : Pn P w K mg base 2 "web_teams" [] (spR g 1 R40)) (F : FunS K "team_of" "team_of" (tp 45) [] f fd) : FnOk P w K mg base (L2.CX P w) 4 f fd ["web", "point"] (spR g 2 R45) := by
  refine fn_body F sc45 rfl fun cdv A outer s H E B hB as d hr hl h => ?_
  obtain ⟨n, q, ts, ⟨h1, h2, h3⟩, h4, rfl, rfl⟩ := h
  refine hs_expr (ve_call c37 hr (va_cons (ve_var 0) va_nil) ⟨_, _, rfl, rfl⟩) ?_
  refine hs_expr (ve_call c14 hr (va_cons (ve_var 1) (va_cons ve_str (va_cons ve_int (va_cons (ve_op op_sub od_i0 (ve_points T.cl (ve_var 0)) ve_int) va_nil)))) ⟨(q : Nat), 0, (n : Int) - 1, _, by omega, by omega, rfl, rfl⟩) ?_
  refine hs_ret (ve_ixL (ve_ixT (ve_call c40 hr (va_cons (ve_var 0) va_nil) ⟨n, ts, h1, h2, h3, rfl, rfl⟩) ve_int (atI_1 _ _)) (ve_var 1) ?_) fun _ _ _ p dv => ⟨p.1, dv⟩
  rw [atI_TD (by rw [webTeams_len]; exact h4), webTeams_at ts h4]
theorem sc46 : FnScope ["web", "many", "teams"] ["web"] (defScope (tp 46)) := ⟨rfl, rfl, rfl, by decide +kernel, rfl, by decide +kernel, by decide +kernel⟩
def R46 : List Da → Da → Prop := fun as d => ∃ (n : Nat) (ts : List (List Int)), WebOk n ts ∧ 1 ≤ n ∧ n < 64 ∧ 1 ≤ webMany n ts ∧ webMany n ts ≤ 12 ∧ (∀ t ∈ webTeams n ts, TeamOk (webMany n ts : Nat) t) ∧ ((webTeams n ts).map sortI).Nodup ∧ as = [.web (n : Nat) (ts.map TD)] ∧ d = .tms (webMany n ts : Nat) ((keptTeams (webTeams n ts)).map TD)
theorem ok46 {f : Addr} {fd : FuncData} (T : Tx K mg g) (c37 : Pn P w K mg base 1 "need_web" [] (spR g 1 R37)) (c38 : Pn P w K mg base 1 "need_few_people" [] (spR g 1 R38)) (c40 : Pn P w K mg base 2 "web_teams" [] (spR g 1 R40)) (cT : Pmk P w K mg base 6 "Teams" g.CT (spI g g.CT 2 RT)) (F : FunS K "teams_of" "teams_of" (tp 46) [] f fd) :
    FnOk P w K mg base (L2.CX P w) 8 f fd ["web"] (spR g 1 R46) := by
  refine fn_body F sc46 rfl fun cdv A outer s H E B hB as d hr hl h => ?_
  obtain ⟨n, ts, ⟨h1, h2, h3⟩, h4, h5, h6, h7, h8, h9, rfl, rfl⟩ := h
  refine hs_expr (ve_call c37 hr (va_cons (ve_var 0) va_nil) ⟨_, _, rfl, rfl⟩) ?_
  refine hs_tup2 1 2 sc46.nd (ve_call c40 hr (va_cons (ve_var 0) va_nil) ⟨n, ts, h1, h2, h3, rfl, rfl⟩) ?_
  refine hs_expr (ve_call c38 hr (va_cons (ve_var 1) va_nil) ⟨(webMany n ts : Nat), by omega, rfl, rfl⟩) ?_
  exact hs_ret (ve_make cT hr (va_cons (ve_var 1) (va_cons (ve_var 2) va_nil)) ⟨(webMany n ts : Nat), webTeams n ts, by omega, by omega, by rw [webTeams_len]; exact h4, by rw [webTeams_len]; exact h5, h8, h9, rfl, rfl⟩) fun _ _ _ p dv => ⟨p.1, dv⟩
theorem sc43 : FnScope ["teams"] ["teams"] (defScope (tp 43)) := ⟨rfl, rfl, rfl, by decide +kernel, rfl, by decide +kernel, by decide +kernel⟩
def R43 : List Da → Da → Prop := fun as d => ∃ (p : Int) (ts : List (List Int)), 1 ≤ ts.length ∧ ts.length ≤ 60 ∧ (∀ t ∈ ts, t.length < 1000) ∧ (apartPrs ts).length ≤ 1228 ∧ as = [.tms p (ts.map TD)] ∧ d = .web (ts.length : Nat) ((keptTies (apartPrs ts)).map TD)
theorem prs_nodup (n : Nat) : (prs n).Nodup := by
  unfold prs
  show List.Pairwise _ _
  rw [List.pairwise_flatMap]
  refine ⟨fun i hi => ?_, ?_⟩
  · refine List.pairwise_map.mpr (List.nodup_range.imp fun h e => h ?_)
    injection e with _ e
    omega
  · refine List.nodup_range.imp fun {i j} h => ?_
    intro x h1 y h2 e
    obtain ⟨a, _, rfl⟩ := List.mem_map.mp h1
    obtain ⟨b, _, rfl⟩ := List.mem_map.mp h2
    injection e with e _
    exact h e
theorem apart_tie {ts : List (List Int)} {p : Nat × Nat} (h : p ∈ apartPrs ts) : TieOk ts.length p := mem_prs.mp (List.mem_filter.mp h).1
theorem ok43 {f : Addr} {fd : FuncData} (T : Tx K mg g) (c29 : Pn P w K mg base 1 "need_teams" [.str "teams"] (spR g 2 R29)) (c31 : Pn P w K mg base 2 "apart_pairs" [] (spR g 1 R31)) (cW : Pmk P w K mg base 5 "Web" g.CW (spI g g.CW 2 RW_)) (F : FunS K "web_of" "web_of" (tp 43) [] f fd) :
    FnOk P w K mg base (L2.CX P w) 7 f fd ["teams"] (spR g 1 R43) := by
  refine fn_body F sc43 rfl fun cdv A outer s H E B hB as d hr hl h => ?_
  obtain ⟨p, ts, h1, h2, h3, h4, rfl, rfl⟩ := h
  obtain ⟨u5, m5⟩ := T.mO
  refine hs_expr (ve_call (dds := [.py (.str "teams")]) c29 hr (va_cons (ve_var 0) va_nil) ⟨p, _, _, rfl, rfl⟩ (by decide) (fun _ _ => .cons (.str _) .nil)) ?_
  refine hs_ifF (vt_is (vt_cmp op_gt (od_b0 (f := fun i j => decide (j < i))) (ve_many T.cl (ve_var 0)) (ve_glob rfl m5)) (decide_eq_false (by rw [List.length_map]; omega))) ?_
  exact hs_ret (ve_make cW hr (va_cons (ve_is (ve_many T.cl (ve_var 0)) (by rw [List.length_map])) (va_cons (ve_call c31 hr (va_cons (ve_var 0) va_nil) ⟨p, ts, by omega, h3, rfl, rfl⟩) va_nil)) ⟨ts.length, apartPrs ts, _, h1, h2, fun p hp => apart_tie hp, (prs_nodup _).filter _, h4, .inr rfl, rfl, rfl⟩) fun _ _ _ p dv => ⟨p.1, dv⟩
end
end My
/-! P8: what the law draws. -/
namespace My
open PySem PySem.Spec PyProof.Rows L2 StX
section
variable {P : Program} {w : World} {K : PySem.W.Frag} {mg : Str → Option Value} {base : Heap} {g : Gc}
theorem sc49 : FnScope ["_law_bag_here", "_law_many", "_law_rest", "_law_at", "_law_cell", "_law_mixed"] ["_law_bag_here", "_law_many"] (defScope (tp 49)) := ⟨rfl, rfl, rfl, by decide +kernel, rfl, by decide +kernel, by decide +kernel⟩
theorem dvi {g : Gc} {B : Addr → Prop} {H : Hp} (z : Int) : DV g B H (.int z) (.py (.int z)) := .int z
def Below (m : Int) : Da → Prop := fun d => ∃ i : Int, 0 ≤ i ∧ i < m ∧ d = .py (.int i)
def R49 : List Da → (Da → Prop) → Prop := fun as S => ∃ m : Int, 0 < m ∧ m < 1000000 ∧ as = [.py (.int m)] ∧ S = Below m
theorem below_mod (i : Int) {m : Int} (h : 0 < m) : Below m (.py (.int (i % m))) := ⟨_, Int.emod_nonneg i (by omega), Int.emod_lt_of_pos i h, rfl⟩
theorem ok49 {f : Addr} {fd : FuncData} (T : Tx K mg g) (F : FunS K "_law_grab" "_law_grab" (tp 49) [] f fd) : FnOk P w K mg base (L2.CX P w) 1 f fd ["_law_bag_here", "_law_many"] (spB g 1 1 R49) := by
  refine bg_body F sc49 rfl fun cdv A outer s H E B hB bag cells cs c as S hr bb bg hc hl h => ?_
  obtain ⟨m, h1, h2, rfl, rfl⟩ := h
  obtain ⟨i0, r0, hi0, hb0⟩ := bg.at_
  have hcell : ∀ {o : HO} H', (Wd.gb H bag o).M H' → DV g (Wd.gb H bag o).B H' (.ref cells) (.py (LI cs)) := fun {o} H' m => .lst bg.ne (m.1 _ _ bg.ne bg.ce) (DqAll.ints cs)
  have fin : ∀ {i r : Nat} {v : V} {H' : Hp} {d : Da}, i ≤ c + 1 → Below m d → (Wd.gb H bag (.lst [.ref cells, .int (i : Nat), .int (r : Nat)])).M H' → DV g (Wd.gb H bag (.lst [.ref cells, .int (i : Nat), .int (r : Nat)])).B H' v d → ∃ d, Below m d ∧ Ex (Ofs bag) H H' ∧ Bag bag cells cs (c + 1) H' ∧ DV g B H' v d := fun {i r v H' d} hi hd hm dv => by
    refine ⟨d, hd, hm.1, ⟨bg.ne, ⟨i, r, hi, hm.2⟩, hm.1 _ _ bg.ne bg.ce⟩, ?_⟩
    obtain ⟨z, _, _, rfl⟩ := hd
    have := dv_int dv
    subst this
    exact .int z
  refine hs_pre (P' := fun σ H' => ∃ i r : Nat, i ≤ c ∧ Pre g (Wd.gb H bag (.lst [.ref cells, .int (i : Nat), .int (r : Nat)])) [some (.raw (.ref bag)), some (.py (.int m)), none, none, none, none] σ H') (hs_ex fun i => hs_ex fun r => hs_pure fun hi => ?_) fun σ H' p => ?_
  · have at2 : atI [V.ref cells, V.int (i : Nat), V.int (r : Nat)] 2 = some (V.int (r : Nat)) := rfl
    have at1 : atI [V.ref cells, V.int (i : Nat), V.int (r : Nat)] 1 = some (V.int (i : Nat)) := rfl
    have at0 : ∀ a b : V, atI [V.ref cells, a, b] 0 = some (V.ref cells) := fun _ _ => rfl
    refine hs_ifR (k := decide (0 < (r : Int))) (vt_cmp op_gt (od_b0 (f := fun i j => decide (j < i))) (ve_rawIx 0 rfl (fun H m => m.2) ve_int at2 (fun H m => dvi _)) ve_int) (fun z => ?_) (fun z => ?_)
    · refine hs_set 2 sc49.nd (ve_intI T.tint (ve_rawIx 0 rfl (fun H m => m.2) ve_int at2 (fun H m => dvi _))) ?_
      have hdiv : ((r : Int) / m) = (((r : Int) / m).toNat : Nat) := (Int.toNat_of_nonneg (Int.ediv_nonneg (by omega) (by omega))).symm
      refine hs_rawSet (z := (((r : Int) / m).toNat : Nat)) 0 rfl (ve_is (ve_op op_fdiv (od_iC (f := fun i j => i / j) ⟨h1, by omega⟩) (ve_var 2) (ve_var 1)) (by rw [← hdiv])) (j := 2) rfl (Chg.gb _ _) ?_
      refine hs_ret (ve_op op_mod (od_iC (f := fun i j => i % j) h1) (ve_intI T.tint (ve_var 2)) (ve_var 1)) fun σ v H' p dv => fin (Nat.le_succ_of_le hi) (below_mod _ h1) p.1 dv
    · refine hs_set 3 sc49.nd (ve_rawIx 0 rfl (fun H m => m.2) ve_int at1 (fun H m => dvi _)) ?_
      refine hs_rawSet (z := ((i + 1 : Nat) : Int)) 0 rfl (ve_is (ve_op op_add od_i0 (ve_var 3) ve_int) (by rw [Int.natCast_add]; rfl)) (j := 1) rfl (Chg.gb _ _) ?_
      refine hs_ifR (k := decide (cs = [])) (vt_cmp (op_eqD (hu64 hr)) (od_eq (sh_LI _) (sh_LI []) (eqv_LI _ _)) (ve_rawIx 0 rfl (fun H m => m.2) ve_int (at0 _ _) hcell) (ve_lst (xs := []) va_nil)) (fun z => hs_ret ve_int fun σ v H' p dv => fin (i := i + 1) (r := r) (Nat.succ_le_succ hi) ⟨0, Int.le_refl 0, h1, rfl⟩ p.1 dv) (fun z => ?_)
      have hne : cs ≠ [] := of_decide_eq_false z
      have hpos : 0 < cs.length := List.length_pos_iff.mpr hne
      have hc10 : (10 : Int) ^ (18 : Int).toNat = 1000000000000000000 := by decide
      have hi400 : i ≤ 400 := by omega
      obtain ⟨cell, hcl⟩ : ∃ cell, cs[i % cs.length]? = some cell := ⟨_, List.getElem?_eq_getElem (Nat.mod_lt _ hpos)⟩
      have hat : atI (cs.map PyData.int) (((i : Int)) % ((cs.map PyData.int).length : Nat)) = some (.int cell) := by
        rw [List.length_map, ← Int.natCast_emod]
        exact atI_nat (by rw [List.getElem?_map, hcl]; rfl)
      have hposI : (0 : Int) < ((cs.map PyData.int).length : Nat) := by rw [List.length_map]; omega
      refine hs_set 4 sc49.nd (ve_ixL (ve_rawIx 0 rfl (fun H m => m.2) ve_int (at0 _ _) hcell) (ve_op op_mod (od_iC (f := fun i j => i % j) hposI) (ve_intI T.tint (ve_var 3)) (ve_lenL T.tlen (ve_rawIx 0 rfl (fun H m => m.2) ve_int (at0 _ _) hcell))) hat) ?_
      have hpow : OpD g (rI CPow fun i j => .int (i ^ j.toNat)) (.py (.int 10)) (.py (.int 18)) (.py (.int 1000000000000000000)) := by
        have z := od_iC (g := g) (C := CPow) (i := 10) (j := 18) (f := fun i j => i ^ j.toNat) ⟨by decide, by decide, by decide⟩
        rw [hc10] at z
        exact z
      refine hs_ifR (VW.t (vw_and (vt_cmp op_lt (od_b0 (f := fun i j => decide (i < j))) (ve_var 3) (ve_lenL T.tlen (ve_rawIx 0 rfl (fun H m => m.2) ve_int (at0 _ _) hcell))) fun _ => vw_and1 (vt_cmp op_ge (od_b0 (f := fun i j => decide (j ≤ i))) (ve_abs T.tabs (ve_var 4)) (ve_op op_pow hpow ve_int ve_int)))) (fun z => ?_) (fun z => ?_)
      · have hbig : 0 ≤ (if cell < 0 then -cell else cell) - 1000000000000000000 := by
          have := (Bool.and_eq_true_iff.mp z).2
          have := of_decide_eq_true this
          omega
        obtain ⟨rest, hrest⟩ : ∃ rest, (if cell < 0 then -cell else cell) - 1000000000000000000 = rest := ⟨_, rfl⟩
        rw [hrest] at hbig
        refine hs_set 2 sc49.nd (d := .py (.int rest)) (ve_is (ve_op op_sub od_i0 (ve_abs T.tabs (ve_var 4)) (ve_op op_pow hpow ve_int ve_int)) (by rw [hrest])) ?_
        have hdiv : (rest / m) = ((rest / m).toNat : Nat) := (Int.toNat_of_nonneg (Int.ediv_nonneg hbig (by omega))).symm
        refine hs_rawSet (z := ((rest / m).toNat : Nat)) 0 rfl (ve_is (ve_op op_fdiv (od_iC (f := fun i j => i / j) ⟨h1, by omega⟩) (ve_var 2) (ve_var 1)) (by rw [← hdiv])) (j := 2) rfl (Chg.gb _ _) ?_
        exact hs_ret (ve_op op_mod (od_iC (f := fun i j => i % j) h1) (ve_intI T.tint (ve_var 2)) (ve_var 1)) fun σ v H' p dv => fin (i := i + 1) (Nat.succ_le_succ hi) (below_mod _ h1) p.1 dv
      · obtain ⟨q1, hq1⟩ : ∃ q1, cell % 2147483549 = q1 := ⟨_, rfl⟩
        have hq1a : 0 ≤ q1 := by rw [← hq1]; exact Int.emod_nonneg _ (by decide)
        have hq1b : q1 < 2147483549 := by rw [← hq1]; exact Int.emod_lt_of_pos _ (by decide)
        obtain ⟨q2, hq2⟩ : ∃ q2, ((q1 + 53617 * (i : Int) + 8219) ^ (5 : Int).toNat) % 2147483587 = q2 := ⟨_, rfl⟩
        have hq2a : 0 ≤ q2 := by rw [← hq2]; exact Int.emod_nonneg _ (by decide)
        have hq2b : q2 < 2147483587 := by rw [← hq2]; exact Int.emod_lt_of_pos _ (by decide)
        refine hs_set 5 sc49.nd (d := .py (.int q2)) (ve_is (ve_op op_mod (od_iC (f := fun i j => i % j) (by decide)) (ve_intI T.tint (ve_op op_pow (od_iC (C := CPow) (f := fun i j => i ^ j.toNat) ?_)
          (ve_op op_add od_i0 (ve_op op_add od_i0 (ve_op op_mod (od_iC (f := fun i j => i % j) (by decide)) (ve_intI T.tint (ve_var 4)) ve_int) (ve_op op_mul (od_iC (C := CMul) (f := fun i j => i * j) (.inl (by decide))) ve_int (ve_var 3))) ve_int) ve_int)) ve_int) (by rw [hq1, hq2])) ?_
        · rw [hq1]
          refine ⟨by decide, by decide, ?_⟩
          omega
        have hmul : 0 ≤ q2 * (2 * (i : Int) + 5903) ∧ q2 * (2 * (i : Int) + 5903) ≤ 2147483587 * 6703 := by
          refine ⟨Int.mul_nonneg hq2a (by omega), ?_⟩
          exact Int.mul_le_mul (by omega) (by omega) (by omega) (by decide)
        have hmul2 : 0 ≤ 73019 * (i : Int) * (i : Int) ∧ 73019 * (i : Int) * (i : Int) ≤ 73019 * 400 * 400 := by
          refine ⟨Int.mul_nonneg (by omega) (by omega), ?_⟩
          exact Int.mul_le_mul (by omega) (by omega) (by omega) (by decide)
        refine hs_set 5 sc49.nd (d := .py (.int (((q2 * (2 * (i : Int) + 5903) + 73019 * (i : Int) * (i : Int) + 53617) ^ (3 : Int).toNat) % 2147483579))) (ve_op op_mod (od_iC (f := fun i j => i % j) (by decide)) (ve_intI T.tint (ve_op op_pow (od_iC (C := CPow) (f := fun i j => i ^ j.toNat) ?_)
          (ve_op op_add od_i0 (ve_op op_add od_i0 (ve_op op_mul (od_iC (C := CMul) (f := fun i j => i * j) (.inl ⟨by omega, by omega⟩)) (ve_var 5) (ve_op op_add od_i0 (ve_op op_mul (od_iC (C := CMul) (f := fun i j => i * j) (.inl (by decide))) ve_int (ve_var 3)) ve_int))
            (ve_op op_mul (od_iC (C := CMul) (f := fun i j => i * j) (.inr ⟨by omega, by omega⟩)) (ve_op op_mul (od_iC (C := CMul) (f := fun i j => i * j) (.inl (by decide))) ve_int (ve_var 3)) (ve_var 3))) ve_int) ve_int)) ve_int) ?_
        · refine ⟨by decide, by decide, ?_⟩
          omega
        exact hs_ret (ve_op op_mod (od_iC (f := fun i j => i % j) h1) (ve_intI T.tint (ve_op op_fdiv (od_iC (C := CDiv) (f := fun i j => i / j) ⟨by decide, by decide⟩) (ve_var 5) ve_int)) (ve_var 1)) fun σ v H' p dv => fin (i := i + 1) (r := r) (Nat.succ_le_succ hi) (below_mod _ h1) p.1 dv
  · obtain ⟨i, r, hi, hb⟩ := p.1.2.at_
    exact ⟨i, r, hi, ⟨p.1.1, hb⟩, p.2.weak fun a z => .inr z⟩
end
end My
/-! P9: the law's bag, its apart, its own web_teams. -/
namespace My
open PySem PySem.Spec PyProof.Rows L2 StX
section
variable {P : Program} {w : World} {K : PySem.W.Frag} {mg : Str → Option Value} {base : Heap} {g : Gc}
/-! ### _law_bag -/
theorem sc48 : FnScope ["_law_script", "_law_cell"] ["_law_script"] (defScope (tp 48)) := ⟨rfl, rfl, rfl, by decide +kernel, rfl, by decide +kernel, by decide +kernel⟩
def spBag (K : PySem.W.Frag) : Sp := fun vs H Q _ => ∃ (a : Addr) (ns : List Int), vs = [.ref a] ∧ SqL K H a (ns.map V.int) ∧ ns.length ≤ 63 ∧ ∀ bag cells cs H', Same H H' → H bag = none → Bag bag cells cs 0 H' → Q (.ref bag) H'
theorem ve_cutS {g : Gc} {X : Cx} {W : Wd} {ds : Ds} {b : Expr} {pos p p2 : Pos} {x : Str} {a : Addr} {ns : List Int} {k : Nat} (i : Nat) (hd : ds[i]? = some (some (.raw (.ref a)))) (hs : ∀ H, W.M H → SqL X.K H a (ns.map V.int)) (hb : VE g X W ds b (.py (.int (k : Nat))))
    (hi : X.N[i]? = some x := by rfl) (hvs : Vis X.env.scope x := by first | exact Or.inl rfl | exact Or.inr (Or.inl rfl) | exact Or.inr (Or.inr rfl)) (hg : (x == ("__debug__" : Str)) = false := by decide) (hcd : (x == ("__classdict__" : Str)) = false := by decide) :
    VE g X W ds (.Subscript (.Name x p) (.Slice none (some b) none p2) pos) (.py (LI (ns.take k))) :=
  PE.imp (pe_slice sl_list (ve_var (g := g) (W := W) i hd hi hvs hg hcd) po_none (po_some hb)) fun _ _ _ ⟨p, q⟩ => ⟨p, fun v _ m1 e1 v1 => ⟨p.go m1 e1, fun _ H2 m2 e2 v2 => by
    have v1 : v = .ref a := v1
    subst v1
    cases v2
    refine ⟨(k : Int), rfl, a, _, rfl, hs H2 m2, fun p hp => ?_⟩
    have s := same_new (o := .lst (cutV (ns.map V.int) none (some (k : Int)))) hp
    have e : cutV (ns.map V.int) none (some (k : Int)) = (ns.take k).map V.int := by
      unfold cutV
      have e1 : HT.sIx (ns.map V.int).length 0 none = 0 := rfl
      have e2 : HT.sIx (ns.map V.int).length (ns.map V.int).length (some (k : Int)) = min k (ns.map V.int).length := by
        simp only [HT.sIx]
        have h : ¬ ((k : Int) < 0) := by omega
        simp only [h, if_false]
        omega
      rw [e1, e2, List.drop_zero, Nat.sub_zero, List.map_take]
      by_cases hk : k ≤ (ns.map V.int).length
      · rw [Nat.min_eq_left hk]
      · rw [Nat.min_eq_right (by omega), List.take_length, List.take_of_length_le (by omega)]
    have r := Dq.lst (B := W.B) (Wd.fresh m2 hp) (upd_same (H := H2) (a := p) (o := .lst (cutV (ns.map V.int) none (some (k : Int))))) (by rw [e]; exact DqAll.ints (ns.take k))
    exact q _ _ (W.mono s m2) ((e1.trans e2).trans (.of s)) r⟩⟩
theorem hs_ret3 {g : Gc} {X : Cx} {W : Wd} {ds : Ds} {e : Expr} {p pos p1 p2 : Pos} {j1 j2 : Nat} {rest : List Stmt} {N : SH} {R : V → Hp → Prop} {cs : List Int} (he : VE g X W ds e (.py (LI cs))) (q : ∀ cells p H2, W.M H2 → ¬ W.B cells → H2 cells = some (.lst (cs.map .int)) → H2 p = none → R (.ref p) (upd H2 p (.lst [.ref cells, .int 0, .int 0])))
    (h1 : starEach [e, .Constant (.int 0) j1 p1, .Constant (.int 0) j2 p2] X.env = (false, eval e X.env) :: starEach [.Constant (.int 0) j1 p1, .Constant (.int 0) j2 p2] X.env := by rfl) : HS X (Pre g W ds) (.Return (some (.List [e, .Constant (.int 0) j1 p1, .Constant (.int 0) j2 p2] p)) pos :: rest) N R :=
  hs_cons (N1 := fun _ _ => False) (PS.imp (ps_ret (pe_lst (pa_cons he (pa_cons pe_int (pa_cons pe_int pa_nil)) h1))) fun D σ H ⟨p, _, r⟩ => ⟨p, fun v H2 m e dv => by
    cases dv with
    | lst nb hA da =>
      have eu := DqAll.ints_eq da
      subst eu
      exact ⟨(by decide : 3 ≤ sizeLine), fun p hp => r _ _ (q _ p H2 m nb hA hp)⟩⟩) hs_false
def Wd.sc (K : PySem.W.Frag) (H0 : Hp) : Wd := Wd.ent (fun _ => False) H0 fun _ h => h.elim
theorem ok48 {f : Addr} {fd : FuncData} (T : Tx K mg g) (F : FunS K "_law_bag" "_law_bag" (tp 48) [] f fd) : FnOk P w K mg base (L2.CX P w) 1 f fd ["_law_script"] (spBag K) := by
  refine F.ok sc48 (fun vs H Q E h => ?_) (fun cdv A outer s H vs Q E hr h => ?_)
  · obtain ⟨a, ns, rfl, _⟩ := h
    rfl
  · obtain ⟨a, ns, rfl, hs, hlen, q⟩ := h
    refine ⟨_, hs_ret3 (g := g) (W := Wd.sc K H) (ds := [some (.raw (.ref a)), none]) (N := fun _ _ => False) (R := Q) (ve_is (ve_lcL 1 PyData.int (ns.take 58) PyData.int sc48.nd loc_ent (Nat.le_trans (List.length_take_le _ _) (by decide)) (ve_cutS 0 rfl (fun H' m => Same.seq m hs) ve_int) fun i hi D acc _ _ _ _ _ => ve_intI T.tint (ve_var 1)) rfl) ?_, ⟨⟨Same.refl H, ⟨rfl, fun i d e => ?_⟩⟩, fun _ _ z => z.elim, fun _ _ z => z⟩⟩
    · intro cells p H2 m nb hA hp
      have s2 := same_new (o := .lst [.ref cells, .int 0, .int 0]) hp
      exact q p cells (ns.take 58) _ (Same.trans m s2) (Same.free m hp) ⟨ne_of_none hA hp, ⟨0, 0, Nat.le_refl 0, upd_same⟩, s2 _ _ hA⟩
    · match i with
      | 0 =>
        cases e
        exact ⟨_, rfl, rfl⟩
      | 1 => cases e
      | i + 2 => cases e
/-! ### _law_apart -/
theorem sc50 : FnScope ["_law_one", "_law_other", "_law_person"] ["_law_one", "_law_other"] (defScope (tp 50)) := ⟨rfl, rfl, rfl, by decide +kernel, rfl, by decide +kernel, by decide +kernel⟩
theorem apart_nil (a b : List Int) : decide (a.filter (fun x => decide (x ∈ b)) = []) = apartI a b := by
  unfold apartI
  by_cases h : a.filter (fun x => decide (x ∈ b)) = []
  · rw [decide_eq_true h]
    have : a.any (fun x => decide (x ∈ b)) = false := List.any_eq_false.mpr fun x hx e => by
      have := List.filter_eq_nil_iff.mp h x hx
      exact this e
    rw [this]
    rfl
  · rw [decide_eq_false h]
    have : a.any (fun x => decide (x ∈ b)) = true := by
      obtain ⟨x, hx⟩ := List.exists_mem_of_ne_nil _ h
      obtain ⟨h1, h2⟩ := List.mem_filter.mp hx
      exact List.any_eq_true.mpr ⟨x, h1, h2⟩
    rw [this]
    rfl
theorem ok50 {f : Addr} {fd : FuncData} (T : Tx K mg g) (F : FunS K "_law_apart" "_law_apart" (tp 50) [] f fd) : FnOk P w K mg base (L2.CX P w) 1 f fd ["_law_one", "_law_other"] (spR g 2 R30) := by
  refine fn_body F sc50 rfl fun cdv A outer s H E B hB as d hr hl h => ?_
  obtain ⟨a, b, h1, rfl, rfl⟩ := h
  exact hs_ret (ve_is (ve_cmp (op_eqD (hu64 hr)) (od_eq (sh_LI _) (sh_LI []) (eqv_LI _ _)) (ve_lcTf 2 PyData.int a (fun x => decide (x ∈ b)) PyData.int sc50.nd loc_ent (Nat.le_trans (Nat.le_of_lt h1) (by decide)) (ve_var 0)
    (fun x hx D acc _ _ _ _ _ => vts_one (vt_cmp (op_inT (hu65 hr)) (od_inT (sh_int _) (sh_TD _) (any_int b x)) (ve_var 2) (ve_var 1))) fun x hx hq D acc _ _ _ _ _ => ve_var 2) (ve_lst (xs := []) va_nil)) (by rw [apart_nil])) fun _ _ _ p dv => ⟨p.1, dv⟩
end
end My
/-! P10: the law's own web_teams. -/
namespace My
open PySem PySem.Spec PyProof.Rows L2 StX
section
variable {P : Program} {w : World} {K : PySem.W.Frag} {mg : Str → Option Value} {base : Heap} {g : Gc}
theorem sc53 : FnScope ["_law_points", "_law_ties", "_law_pairs", "_law_found", "_law_one", "_law_point", "_law_bare", "_law_lone", "_law_own", "_law_other", "_law_at", "_law_pair"] ["_law_points", "_law_ties"] (defScope (tp 53)) := ⟨rfl, rfl, rfl, by decide +kernel, rfl, by decide +kernel, by decide +kernel⟩
def R53 : List Da → Da → Prop := fun as d => ∃ (n : Nat) (ts : List (List Int)), n ≤ 100 ∧ ts.length ≤ 2000 ∧ as = [.py (.int (n : Nat)), .py (LT ts)] ∧ d = .py (.tuple [.int (webMany n ts : Nat), LT (webTeams n ts)])
theorem ok53 {f : Addr} {fd : FuncData} (T : Tx K mg g) (F : FunS K "_law_web_teams" "_law_web_teams" (tp 53) [] f fd) : FnOk P w K mg base (L2.CX P w) 1 f fd ["_law_points", "_law_ties"] (spR g 2 R53) := by
  refine fn_body F sc53 rfl fun cdv A0 outer s H E B hB as0 d hr hl h => ?_
  obtain ⟨n, ts, h1, h3, rfl, rfl⟩ := h
  refine hs_parOwnC 2 3 sc53.nd loc_ent (ve_lst (xs := []) va_nil) fun L nb off => ?_
  refine hs_for (Z := Unit) (fun H1 _ _ => ((Wd.ent B H hB).o1 L (.lst [])).rel H1) (fun _ i _ => [some (.py (.int (n : Nat))), some (.py (LT ts)), some (.py (.list (utp n ts i))), some (.own L [] []), none, none, none, none, none, none, none, none])
    (vi_rng1 (j := 4) rfl T.trange (ve_var 0) (by omega)) (pg_name (i := 4) sc53.nd rfl (Or.inr rfl)) (fun H1 i z => .rel fun a h => h) (fun σ H1 p => ⟨(), p.torel⟩) (fun H1 i z m1 hi => ?_) (fun H1 z m1 => ?_)
  · rw [Int.toNat_natCast] at hi
    refine hs_set 2 sc53.nd (ve_op op_cat (od_cat ?_) (ve_var 2) (ve_lcR2f 9 ((i : Int) + 1) (n : Nat) (fun m => !decide ([(i : Int), (i : Int) + 1 + (m : Nat)] ∈ ts)) (fun m => .tuple [.int (i : Nat), .int ((i : Int) + 1 + (m : Nat))]) sc53.nd (loc_ent.own).rel T.trange (by omega) (ve_op op_add od_i0 (ve_var 4) ve_int) (ve_var 0)
        (fun m hm D acc _ _ _ _ _ => vts_one (vt_cmp (op_notInD (hu65 hr)) (od_ninL (sh_TD [(i : Int), (i : Int) + 1 + (m : Nat)]) (sh_LT ts) (by rw [any_TD])) (ve_pair (ve_var 4) (ve_var 9)) (ve_var 1))) (fun m hm hq D acc _ _ _ _ _ => ve_pair (ve_var 4) (ve_var 9)))) (hs_nil fun σ H' p => ⟨(), ?_⟩)
    · rw [← List.length_append, ← utp_succ]
      exact Nat.le_trans (utp_len n ts (i + 1)) (Nat.le_trans (Nat.mul_le_mul (show i + 1 ≤ 100 by omega) h1) (by decide))
    · have e := utp_succ n ts i
      show Pre g _ [_, _, some (.py (.list (utp n ts (i + 1)))), _, none, none, none, none, none, none, none, none] σ H'
      rw [e]
      exact p.less (.eq (.eq (.eq (.eq (.no (.eq (.eq (.eq (.eq (.eq (.eq (.eq .nil))))))))))))
  · rw [Int.toNat_natCast, utp_eq]
    obtain ⟨ps, eps⟩ : ∃ ps, untied n ts = ps := ⟨_, rfl⟩
    have hps : ps.length ≤ 10000 := by
      rw [← eps]
      exact Nat.le_trans (untied_len n ts) (Nat.mul_le_mul h1 h1)
    obtain ⟨c, ec⟩ : ∃ c, bareL ps = c := ⟨_, rfl⟩
    have hlc : ∀ q, (c q).length < 100000 := fun q => by
      rw [← ec]
      unfold bareL
      rw [List.length_map]
      have := List.length_filter_le (fun k => decide ((q : Int) ∈ pI (ps.getD k (0, 0)))) (List.range ps.length)
      rw [List.length_range] at this
      omega
    rw [eps]
    refine hs_pre (P' := Pre g ((Wd.ent B H hB).o1 L (.lst [])) [some (.py (.int (n : Nat))), some (.py (LT ts)), some (.py (LT (ps.map pI))), some (.own L [] []), none, none, none, none, none, none, none, none]) ?_ fun σ H' p => p.unrel
    refine hs_set 6 sc53.nd (ve_is (d2 := .py (.list ((List.range n).map fun q => TD (c q)))) (ve_lcR 5 (n : Nat) (fun q => TD (c q)) sc53.nd loc_ent.own T.trange (by omega) (ve_var 0) fun q hq D acc _ _ _ _ _ =>
      ve_is (ve_tupL T.ttuple (ve_lcEf 10 11 TD (ps.map pI) (fun k => decide ((q : Int) ∈ pI (ps.getD k (0, 0)))) (fun k => .int (k : Nat)) (by decide) sc53.nd (loc_ent.own).own (by rw [List.length_map]; exact Nat.le_trans hps (by decide)) T.tenum (ve_var 2)
        (fun k hk D acc _ _ _ _ _ => vts_one (vt_cmp (op_inT (hu65 hr)) (od_inT (sh_int _) (sh_TD _) ?_) (ve_var 5) (ve_var 11))) (fun k hk hq D acc _ _ _ _ _ => ve_var 10))) ?_) (by rw [Int.toNat_natCast])) ?_
    · have hk2 : k < ps.length := by rw [List.length_map] at hk; exact hk
      have e : ps.getD k (0, 0) = ps[k] := by
        rw [List.getD_eq_getElem?_getD, List.getElem?_eq_getElem hk2]
        rfl
      rw [any_int, List.getElem_map, e]
    · rw [← ec]
      unfold bareL TD
      rw [List.length_map, List.map_map]
      rfl
    have hsh : ∀ q, q < n → atI ((List.range n).map fun q => TD (c q)) (q : Nat) = some (TD (c q)) := fun q hq => atI_nat (by
      rw [List.getElem?_map, List.getElem?_range hq]
      rfl)
    have hshp : SeqAt.shaped (.list ((List.range n).map fun q => TD (c q))) = true := by
      have := sh_LT ((List.range n).map c)
      rw [LT, List.map_map] at this
      exact this
    have hln := lones_nodup n c
    have hll : (lones n c).length ≤ n := Nat.le_trans (List.length_filter_le _ _) (by rw [List.length_range]; exact Nat.le_refl _)
    refine hs_set 7 sc53.nd (ve_lcRf 5 (n : Nat) (loneP n c) (fun q => .int (q : Nat)) sc53.nd loc_ent.own T.trange (by omega) (ve_var 0) (fun q hq D acc _ _ _ _ _ => vts_one (vt_is (VW.t (vw_or (vt_cmp (op_eqD (hu64 hr)) (od_eq (sh_TD _) (sh_TD []) (eqv_TD _ _)) (ve_ixL (ve_var 6) (ve_var 5) (hsh q hq)) (ve_tup (xs := []) va_nil))
          fun _ => vw_or1 (vt_cmp op_gt (od_b0 (f := fun i j => decide (j < i))) (ve_count (hu65 hr) (ve_var 6) (ve_ixL (ve_var 6) (ve_var 5) (hsh q hq)) hshp (sh_TD _) (cnt_TDs _ _ _)) ve_int))) (by unfold loneP; congr 1; exact decide_eq_decide.mpr (by omega)))) (fun q hq hp D acc _ _ _ _ _ => ve_var 5)) ?_
    rw [Int.toNat_natCast]
    refine hs_for (Z := List V) (fun H1 _ z => ((Wd.ent B H hB).o1 L (.lst z)).rel H1) (fun _ i z => [some (.py (.int (n : Nat))), some (.py (LT ts)), some (.py (LT (ps.map pI))), some (.own L z ((List.range i).map fun q => TD (teamAt n c q))), none, none, some (.py (.list ((List.range n).map fun q => TD (c q)))), some (.py (.list ((lones n c).map fun q => .int (q : Nat)))), none, none, none, none])
        (vi_rng1 (j := 5) rfl T.trange (ve_var 0) (by omega)) (pg_name (i := 5) sc53.nd rfl (Or.inl rfl)) (fun H1 i z => .rel fun a h => h) (fun σ H1 p => ⟨[], p.torel.less (.eq (.eq (.eq (.eq (.eq (.eq (.eq (.eq (.eq (.eq (.eq (.eq .nil))))))))))))⟩) (fun H1 q z m1 hq => ?_) (fun H1 z m1 => ?_)
    · rw [Int.toNat_natCast] at hq
      refine hs_set 8 sc53.nd (d := .py (TD (if q ∈ lones n c then [((lones n c).idxOf q : Int)] else []))) (ve_if (k := decide (q ∈ lones n c)) (vt_cmp (op_inD (hu65 hr)) (od_inL (sh_int _) (sh_nats _) (any_nat _ _)) (ve_var 5) (ve_var 7)) (fun z => ?_) (fun z => ?_)) ?_
      · have hm := of_decide_eq_true z
        have hlt : (lones n c).idxOf q < (lones n c).length := List.idxOf_lt_length_of_mem hm
        rw [if_pos hm]
        refine ve_tup1 (ve_index (j := (lones n c).idxOf q) (z := .int (q : Nat)) (hu65 hr) (ve_var 7) (ve_var 5) (sh_nats _) (sh_int _) ?_ ?_ ?_)
        · rw [List.getElem?_map, List.getElem?_eq_getElem hlt, List.getElem_idxOf hlt]
          rfl
        · rw [PyData.eqv]
          exact beq_self_eq_true _
        · intro m z' hmj hz
          have hm2 : m < (lones n c).length := Nat.lt_trans hmj hlt
          rw [List.getElem?_map, List.getElem?_eq_getElem hm2] at hz
          cases hz
          rw [PyData.eqv]
          refine beq_eq_false_iff_ne.mpr fun e => ?_
          have := hln.idxOf_getElem m hm2
          rw [Int.natCast_inj.mp e] at this
          omega
      · rw [if_neg (of_decide_eq_false z)]
        exact ve_tup (xs := []) va_nil
      refine hs_append (c := TD (teamAt n c q)) (k := 0) 3 (W2 := fun v => ((Wd.ent B H hB).o1 L (.lst (z ++ [v]))).rel H1) rfl (fun v => (Chg.o1 _ _ off).rel H1)
          (ve_is (ve_op op_catA (od_catT ?_) (ve_var 8) (ve_tupL T.ttuple (ve_lcT 10 PyData.int (c q) (fun k => .int (((lones n c).length : Int) + k)) sc53.nd (loc_ent.own).rel (Nat.le_trans (Nat.le_of_lt (hlc q)) (by decide)) (ve_ixL (ve_var 6) (ve_var 5) (hsh q hq)) fun k hk D acc _ _ _ _ _ =>
              ve_is (ve_op op_add od_i0 (ve_lenL T.tlen (ve_var 7)) (ve_var 10)) (by rw [List.length_map])))) ?_) ?_ fun v => hs_nil fun σ H' p => ⟨z ++ [v], ?_⟩
      · rw [List.length_map, List.length_map]
        have : (if q ∈ lones n c then [((lones n c).idxOf q : Int)] else []).length ≤ 1 := by split <;> simp
        have := hlc q
        exact Nat.le_trans (show _ ≤ 100001 by omega) (by decide)
      · unfold teamAt TD
        rw [List.map_append, List.map_map]
        rfl
      · rw [List.length_map, List.length_range]
        exact Nat.lt_of_lt_of_le hq (Nat.le_trans h1 (by decide))
      · have e : (List.range (q + 1)).map (fun q => TD (teamAt n c q)) = (List.range q).map (fun q => TD (teamAt n c q)) ++ [TD (teamAt n c q)] := by rw [List.range_succ, List.map_append]; rfl
        show Pre g _ [_, _, _, some (.own L (z ++ [v]) ((List.range (q + 1)).map fun q => TD (teamAt n c q))), none, none, _, _, none, none, none, none] σ H'
        rw [e]
        exact p.less (.eq (.eq (.eq (.eq (.eq (.no (.eq (.eq (.no (.eq (.eq (.eq .nil))))))))))))
    · rw [Int.toNat_natCast]
      refine hs_pre (P' := Pre g (Wd.ent B H hB) _) ?_ fun σ H' p => freeze (i := 3) nb rfl p.unrel
      refine hs_ret (ve_is (ve_pair (ve_op op_add od_i0 (ve_lenL T.tlen (ve_var 7)) (ve_lenL T.tlen (ve_var 2))) (ve_var 3)) ?_) fun _ _ _ p dv => ⟨p.1, dv⟩
      rw [List.length_map, List.length_map, List.length_map]
      have e1 : c = bare (untied n ts) := by rw [← ec, ← eps]; exact (bare_eq untied_ne).symm
      have e2 : webMany n ts = (lones n c).length + ps.length := by unfold webMany; rw [← e1, eps]
      have e3 : (webTeams n ts).map TD = (List.range n).map fun q => TD (teamAt n c q) := by
        unfold webTeams
        rw [List.map_map, ← e1]
        rfl
      show _ = Da.py (.tuple [.int (webMany n ts : Nat), .list ((webTeams n ts).map TD)])
      rw [e2, e3, Int.natCast_add]
end
end My
/-! P11: the law draws a web. -/
namespace My
open PySem PySem.Spec PyProof.Rows L2 StX
theorem r49 (m : Int) (h1 : 0 < m := by decide) (h2 : m < 1000000 := by decide) : R49 [.py (.int m)] (Below m) := ⟨m, h1, h2, rfl, rfl⟩
theorem Bag.more {bag cells : Addr} {cs : List Int} {c c' : Nat} {H : Hp} (h : c ≤ c') (b : Bag bag cells cs c H) : Bag bag cells cs c' H := ⟨b.ne, let ⟨i, r, k, e⟩ := b.at_; ⟨i, r, Nat.le_trans k h, e⟩, b.ce⟩
theorem pre_bg {g : Gc} {B : Addr → Prop} {H0 H1 : Hp} {hB : ∀ a, B a → H0 a ≠ none} {bag cells : Addr} {cs : List Int} {c c' : Nat} {ds : Ds} {σ : L2.St} {H : Hp} (h : c ≤ c') (p : Pre g ((Wd.bg B H0 hB bag cells cs c).rel H1) ds σ H) : Pre g ((Wd.bg B H0 hB bag cells cs c').rel H1) ds σ H := ⟨⟨⟨p.1.1.1, p.1.1.2.more h⟩, p.1.2⟩, p.2⟩
theorem fam_bg {B : Addr → Prop} {H0 H1 : Hp} {hB : ∀ a, B a → H0 a ≠ none} {bag cells : Addr} {cs : List Int} {c : Nat} : Fam fun i => (Wd.bg B H0 hB bag cells cs (c + i)).rel H1 where
  b := fun _ => rfl
  loc := fun _ => loc_bg.rel
  more := fun i H m => ⟨⟨m.1.1, m.1.2.more (Nat.le_succ _)⟩, m.2⟩
def catD : PyData → Da → Da
  | .list a, .py (.list b) => .py (.list (a ++ b))
  | _, d => d
def ltD (k : Int) : Da → Bool
  | .py (.int i) => decide (i < k)
  | _ => false
def rowp (n i : Nat) : List (Nat × Nat) := (List.range (n - (i + 1))).map fun m => (i, i + 1 + m)
theorem prs_rows (n : Nat) : prs n = (List.range n).flatMap (rowp n) := rfl
theorem rows_succ (n i : Nat) : (List.range (i + 1)).flatMap (rowp n) = (List.range i).flatMap (rowp n) ++ rowp n i := by rw [List.range_succ, List.flatMap_append, List.flatMap_singleton]
section
variable {P : Program} {w : World} {K : PySem.W.Frag} {mg : Str → Option Value} {base : Heap} {g : Gc}
theorem sc52 : FnScope ["_law_bag_here", "_law_points", "_law_way", "_law_found", "_law_one", "_law_other"] ["_law_bag_here", "_law_points"] (defScope (tp 52)) := ⟨rfl, rfl, rfl, by decide +kernel, rfl, by decide +kernel, by decide +kernel⟩
def R52 : List Da → (Da → Prop) → Prop := fun as S => ∃ n : Nat, n ≤ 6 ∧ as = [.py (.int (n : Nat))] ∧ S = fun d => ∃ ps : List (Nat × Nat), ps.Sublist (prs n) ∧ d = .py (LT (ps.map pI))
theorem ok52 {f : Addr} {fd : FuncData} (T : Tx K mg g) (c49 : Pn P w K mg base 1 "_law_grab" [] (spB g 1 1 R49)) (F : FunS K "_law_web" "_law_web" (tp 52) [] f fd) : FnOk P w K mg base (L2.CX P w) 2 f fd ["_law_bag_here", "_law_points"] (spB g 1 37 R52) := by
  refine bg_body F sc52 rfl fun cdv A outer s H E B hB bag cells cs c as S hr bb bg hc hl h => ?_
  obtain ⟨n, h1, rfl, rfl⟩ := h
  refine hs_parXC 2 3 sc52.nd (by rfl) (vx_call (W := fun c => Wd.bg B H hB bag cells cs c) hasbag_bg c49 hr (va_cons (ve_var 0) (va_cons ve_int va_nil)) (r49 3)) (ve_lst (xs := []) va_nil) fun d hd => ?_
  obtain ⟨way, w1, w2, rfl⟩ := hd
  refine hs_forO (Z := List (Nat × Nat)) (fun H1 _ i _ => (Wd.bg B H hB bag cells cs (c + 1 + 6 * i)).rel H1) (fun _ _ i ps => [some (.raw (.ref bag)), some (.py (.int (n : Nat))), some (.py (.int way)), some (.py (LT (ps.map pI))), none, none]) (fun _ i ps => ps.Sublist ((List.range i).flatMap (rowp n)))
    (vix_of (vi_rng1 (j := 4) rfl T.trange (ve_var 1) (by omega))) rfl (pg_name (i := 4) sc52.nd rfl (Or.inr rfl)) (fun H1 _ i z => .rel fun a h => h) (fun σ H1 k hk p => ⟨[], List.nil_sublist _, p.torel⟩) (fun H1 k i ps m1 hk hi hps => ?_) (fun H1 k ps m1 hk hps => ?_)
  · rw [Int.toNat_natCast] at hk
    obtain rfl := hk.symm
    have hlen : ps.length ≤ 36 := Nat.le_trans hps.length_le (Nat.le_trans (flat_len _ 6 i fun j hj => by
      unfold rowp
      rw [List.length_map, List.length_range]
      omega) (by omega))
    refine hs_setX 3 sc52.nd (by rfl) (vx_op (W' := (Wd.bg B H hB bag cells cs (c + 1 + 6 * i + ((n : Int) - ((i : Int) + 1)).toNat)).rel H1) op_cat (by rfl) (ve_var 3) (vx_lc (own := [("_law_other", 5)]) (S := fun _ _ => True) (el := fun m => TD [(i : Int), (i : Int) + 1 + (m : Nat)]) (fam_bg (c := c + 1 + 6 * i)) sc52.nd (Nat.le_trans (show _ ≤ 6 by omega) (by decide))
        (vi_rng2 rfl T.trange (ve_op op_add od_i0 (ve_var 4) ve_int) (ve_var 1) (by omega)) (blk_of rfl) (pgI sc52.nd rfl (Or.inl rfl))
        (fun m hm D acc hD s2 H2 C cl fp => pts_one ?_)
        (fun m hm _ D acc s2 H2 C cl fp => ve_pair (ve_var 4) (ve_var 5))) (f := catD (LT (ps.map pI))) (fun d hd => ?_)) fun d hd => hs_nil fun σ H' p => ?_
    · have hne : D ≠ bag := fun e => hD (by rw [e]; exact .inr rfl)
      refine PT.imp (vxt_cmp (f := ltD (1 + way)) op_lt (by rfl) (vx_call (W := fun c => ((Wd.bg B H hB bag cells cs c).rel H1).o1 D (.lst acc)) ((hasbag_bg.rel H1).o1 hne) c49 hr (va_cons (ve_var 0) (va_cons ve_int va_nil)) (r49 4)) (ve_op op_add od_i0 ve_int (ve_var 2)) fun d hd => ?_) fun σ H Q ⟨p, q⟩ => ⟨p, fun b H2 _ m e => q b H2 trivial m e⟩
      obtain ⟨z, _, _, rfl⟩ := hd
      exact od_b0 (f := fun i j => decide (i < j))
    · obtain ⟨p, _, rfl⟩ := hd
      refine od_cat ?_
      rw [List.length_map, List.length_map, List.length_map]
      have := List.length_filter_le p (List.range ((n : Int) - ((i : Int) + 1)).toNat)
      rw [List.length_range] at this
      exact Nat.le_trans (show _ ≤ 42 by omega) (by decide)
    · obtain ⟨_, ⟨q, _, rfl⟩, rfl⟩ := hd
      refine ⟨ps ++ ((List.range (n - (i + 1))).filter q).map (fun m => (i, i + 1 + m)), ?_, ?_⟩
      · rw [rows_succ]
        exact hps.append (List.filter_sublist.map _)
      · have e : (ps ++ ((List.range (n - (i + 1))).filter q).map fun m => (i, i + 1 + m)).map pI = ps.map pI ++ ((List.range ((n : Int) - ((i : Int) + 1)).toNat).filter q).map fun m => [(i : Int), (i : Int) + 1 + (m : Nat)] := by
          have e2 : ((n : Int) - ((i : Int) + 1)).toNat = n - (i + 1) := by omega
          rw [e2, List.map_append, List.map_map]
          congr 1
        rw [e]
        unfold LT
        have e3 : ∀ l : List Nat, (l.map fun m => [(i : Int), (i : Int) + 1 + (m : Nat)]).map TD = l.map fun m => TD [(i : Int), (i : Int) + 1 + (m : Nat)] := fun l => List.map_map
        rw [List.map_append, e3]
        exact pre_bg (by omega) (p.less (.eq (.eq (.eq (.eq (.no (.eq .nil)))))))
  · rw [Int.toNat_natCast] at hk
    obtain rfl := hk.symm
    refine hs_ret (ve_var 3) fun σ v H' p dv => ⟨_, ⟨ps, hps, rfl⟩, p.1.1.1, p.1.1.2.more (by omega), dv.weak fun a z => .inl z⟩
end
end My
/-! P12: the law draws teams. -/
namespace My
open PySem PySem.Spec PyProof.Rows L2 StX
section
variable {g : Gc} {X : Cx} {W W' : Wd} {ds : Ds} {e a b : Expr} {pos p : Pos} {S : Da → Prop} {d : PyData} {xs : List PyData} {L : Addr} {z : List V}
/-- x not in l, l one's own list -/
theorem vt_ninO {j : Nat} (hr : Room j X.A) (at_ : ∀ H, W.M H → H L = some (.lst z)) (ha : VE g X W ds a (.py d)) (hb : VE g X W ds b (.own L z xs)) (sd : SeqAt.shaped d = true) (sl : SeqAt.shaped (.list xs) = true) (hm : behindInMarks .NotIn b = false := by first | rfl | with_unfolding_all rfl) :
    VT g X W ds (.Compare a [.NotIn] [b] pos) (!(xs.any fun z => PyData.eqv z d)) :=
  PT.imp (pt_cmpR (op_notInD (hu65 hr)) ha hb hm) fun _ _ Q ⟨p, q⟩ => ⟨p, fun v H1 m1 e1 d1 => ⟨p.go m1 e1, fun u H2 m2 e2 ⟨h1, h2⟩ => by
    have d1 := DV.keep e2 d1
    refine ⟨d, xs, Dq.dp _ _ d1, ?_, sd, sl, _, rfl, q H2 m2 (e1.trans e2)⟩
    rw [h1]
    exact .lst (SqL.of (at_ H2 m2)) (DqAll.dp _ _ h2)⟩⟩
/-- (a,), a changes the bag -/
theorem vx_tup1 {k : Nat} (h : VX g X W W' ds a S) (hB : W'.B = W.B) (hS : ∀ d, S d → ∃ c, d = .py c) (h1 : starEach [a] X.env = (false, eval a X.env) :: starEach [] X.env := by rfl) : VX g X W W' ds (.Tuple [a] k pos) (fun x => ∃ c, S (.py c) ∧ x = .py (.tuple [c])) :=
  PE.imp (pe_tup (pa_cons h pa_nil h1)) fun σ H Q ⟨p, q⟩ => ⟨p, fun v H2 d z m e dv => ⟨(by decide : 1 ≤ sizeLine), fun r hr => by
    obtain ⟨c, rfl⟩ := hS d z
    have s := same_new (o := .tup [v]) hr
    refine q _ _ _ ⟨c, z, rfl⟩ (W'.mono s m) (e.trans (.of s)) ?_
    refine .tup (fun z => ?_) upd_same (.cons (Dq.keep (.of s) _ _ dv) .nil)
    exact W'.al m r (by rw [hB]; exact z) hr⟩⟩
/-- tuple(list), the list changes the bag -/
theorem vx_tupL (hm : X.mg "tuple" = none) (h : VX g X W W' ds e S) (hB : W'.B = W.B) (hS : ∀ d, S d → ∃ xs, d = .py (.list xs)) (hg : Gl X "tuple" := by rfl) (he : starEach [e] X.env = (false, eval e X.env) :: starEach [] X.env := by rfl) (hpl : (backTo pos (starEach [] X.env)).any (·.1) = false := by rfl) :
    VX g X W W' ds (.Call (.Name "tuple" p) [e] [] pos) (fun x => ∃ xs, S (.py (.list xs)) ∧ x = .py (.tuple xs)) :=
  PE.imp (pe_callTy call_tuple_of hg hm PyProof.Rows.boot_tuple (pa_cons h pa_nil he) (by decide) (by decide) he hpl) fun σ H Q ⟨p, q⟩ => ⟨p, fun v H2 d z m e dv => by
    obtain ⟨xs, rfl⟩ := hS d z
    cases dv with
    | @lst _ us _ n hA a =>
      refine ⟨_, _, rfl, .inl ⟨SqL.of hA, fun l hl => ?_⟩⟩
      have s := same_new (o := .tup us) hl
      exact q _ _ _ ⟨xs, z, rfl⟩ (W'.mono s m) (e.trans (.of s)) (.tup (fun z => W'.al m l (by rw [hB]; exact z) hl) upd_same (DqAll.keep (.of s) _ _ a))⟩
end
/-- x = [] -/
theorem hs_setOwnF {rest : List Stmt} {N : SH} {R : V → Hp → Prop} {g : Gc} {X : Cx} {W : Wd} {ds : Ds} {x : Str} {p pos : Pos} (i : Nat) {px : Pos} (hN : X.N.Nodup) (h : ∀ L, ¬ W.B L → (∃ H1, W.M H1 ∧ H1 L = none) → HS X (Pre g (W.o1 L (.lst [])) (ds.set i (some (.own L [] [])))) rest N R) (hi : X.N[i]? = some x := by rfl) (hx : Loc X.env.scope x := by first | exact Or.inl rfl | exact Or.inr rfl)
    (hs : swapsWith (.List [] p) (some (.Name x px)) pos.line X.env = pure false := by rfl) (hf : X.fn x = true ∨ X.env.scope.names.lookup x = some .local := by first | exact .inl rfl | exact .inr rfl) :
    HS X (Pre g W ds) (.Assign [.Name x px] (.List [] p) pos :: rest) N R := by
  refine hs_cons (N1 := fun σ H => ∃ L, (¬ W.B L ∧ ∃ H1, W.M H1 ∧ H1 L = none) ∧ Pre g (W.o1 L (.lst [])) (ds.set i (some (.own L [] []))) σ H) (PS.imp (ps_set hN hi hx (pe_lst pa_nil) hs hf) ?_) (hs_ex fun L => hs_pure fun z => h L z.1 z.2)
  rintro D σ H ⟨p, n, _⟩
  refine ⟨Nat.zero_le _, fun r hr => ?_⟩
  have s := same_new (o := .lst []) hr
  refine n _ _ ⟨r, ⟨Wd.fresh p.1 hr, H, p.1, hr⟩, o1_mk (W.mono s p.1) upd_same, ?_⟩
  have k : Sl g (W.o1 r (.lst [])).B (upd H r (.lst [])) σ ds := (p.2.ban fun a z => (ownB_or z).imp id fun z => by rw [z]; exact hr).keep (.of s)
  exact k.set (d := .own r [] []) ⟨rfl, .nil⟩
def addD (k : Int) : Da → Da
  | .py (.int i) => .py (.int (k + i))
  | d => d
def eqD (k : Int) : Da → Bool
  | .py (.int i) => decide (i = k)
  | _ => false
theorem Pre.wup {g : Gc} {W W' : Wd} {ds : Ds} {σ : L2.St} {H : Hp} (p : Pre g W ds σ H) (m : W.M H → W'.M H) (hB : W'.B = W.B) : Pre g W' ds σ H := ⟨m p.1, by rw [hB]; exact p.2⟩
/-- a team as the law draws it -/
def GoodT (p : Nat) (t : List Int) : Prop := t ≠ [] ∧ t.length ≤ 8 ∧ t.Pairwise (· < ·) ∧ ∀ i ∈ t, 0 ≤ i ∧ i < p
def DrawnOk (p n : Nat) (ts : List (List Int)) : Prop := ts.Nodup ∧ ts.length ≤ n ∧ (0 < n → ts ≠ []) ∧ ∀ t ∈ ts, GoodT p t
theorem fam_bo {B : Addr → Prop} {H0 H1 : Hp} {hB : ∀ a, B a → H0 a ≠ none} {bag cells L : Addr} {cs : List Int} {z : List V} (c i : Nat) : Fam fun q => ((Wd.bg B H0 hB bag cells cs (c + 1 + 9 * i + q)).o1 L (.lst z)).rel H1 where
  b := fun _ => rfl
  loc := fun _ => loc_bg.own.rel
  more := fun i H m => ⟨o1_mk ⟨m.1.1.1, m.1.1.2.more (Nat.le_succ _)⟩ (o1_at m.1), m.2⟩
section
variable {P : Program} {w : World} {K : PySem.W.Frag} {mg : Str → Option Value} {base : Heap} {g : Gc}
theorem sc51 : FnScope ["_law_bag_here", "_law_people", "_law_most", "_law_found", "_law_turn", "_law_team", "_law_person"] ["_law_bag_here", "_law_people", "_law_most"] (defScope (tp 51)) := ⟨rfl, rfl, rfl, by decide +kernel, rfl, by decide +kernel, by decide +kernel⟩
def R51 : List Da → (Da → Prop) → Prop := fun as S => ∃ n : Nat, 1 ≤ n ∧ n ≤ 8 ∧ as = [.py (.int (n : Nat)), .py (.int 9)] ∧ S = fun d => ∃ ts : List (List Int), DrawnOk n 9 ts ∧ d = .py (LT (sortT ts))
theorem ok51 {f : Addr} {fd : FuncData} (T : Tx K mg g) (c49 : Pn P w K mg base 1 "_law_grab" [] (spB g 1 1 R49)) (F : FunS K "_law_some_teams" "_law_some_teams" (tp 51) [] f fd) : FnOk P w K mg base (L2.CX P w) 2 f fd ["_law_bag_here", "_law_people", "_law_most"] (spB g 2 82 R51) := by
  refine bg_body F sc51 rfl fun cdv A outer s H E B hB bag cells cs c as S hr bb bg hc hl h => ?_
  obtain ⟨n, h1, h2, rfl, rfl⟩ := h
  refine hs_setOwnF 3 sc51.nd fun L nb ⟨H9, m9, f9⟩ => ?_
  have hL : L ≠ bag := fun e => nb (by rw [e]; exact .inr rfl)
  refine hs_forO (Z := List V × List (List Int)) (fun H1 _ i z => ((Wd.bg B H hB bag cells cs (c + 1 + 9 * i)).o1 L (.lst z.1)).rel H1) (fun _ _ i z => [some (.raw (.ref bag)), some (.py (.int (n : Nat))), some (.py (.int 9)), some (.own L z.1 (z.2.map TD)), none, none, none]) (fun _ i z => DrawnOk n i z.2)
    (vix_rng1 (W' := (Wd.bg B H hB bag cells cs (c + 1)).o1 L (.lst [])) (S := fun x => ∃ d, Below 9 d ∧ x = addD 1 d) (j := 4) rfl T.trange (vx_op op_add (by rfl) ve_int (vx_call (W := fun c => (Wd.bg B H hB bag cells cs c).o1 L (.lst [])) (hasbag_bg.o1 hL) c49 hr (va_cons (ve_var 0) (va_cons (ve_var 2) va_nil)) (r49 9)) fun d hd => ?_) (fun d hd => ?_))
    (by rfl) (pg_name (i := 4) sc51.nd rfl (Or.inl rfl)) (fun H1 _ i z => .rel fun a h => h) (fun σ H1 k hk p => ⟨([], []), ⟨List.nodup_nil, Nat.le_refl _, fun h => absurd h (Nat.lt_irrefl _), fun t h => absurd h (by simp)⟩, p.torel⟩) (fun H1 k i z m1 hk hi hz => ?_) (fun H1 k z m1 hk hz => ?_)
  · obtain ⟨i, _, _, rfl⟩ := hd
    exact od_i0
  · obtain ⟨_, ⟨i, i1, i2, rfl⟩, rfl⟩ := hd
    exact ⟨1 + i, rfl, by omega, by omega⟩
  · obtain ⟨kk, ⟨_, ⟨j0, j1, j2, rfl⟩, ee⟩, rfl⟩ := hk
    have ek : kk = 1 + j0 := by injection ee with ee; injection ee
    have hi9 : i < 9 := by omega
    obtain ⟨z, ts⟩ := z
    have hz : DrawnOk n i ts := hz
    have hlen : ts.length ≤ 9 := Nat.le_trans hz.2.1 (Nat.le_of_lt hi9)
    have hsl : SeqAt.shaped (.list (ts.map TD)) = true := sh_LT ts
    refine hs_setX 5 (W' := ((Wd.bg B H hB bag cells cs (c + 1 + 9 * i + ((n : Nat) : Int).toNat)).o1 L (.lst z)).rel H1) sc51.nd (by rfl) (vx_tupL T.ttuple (vx_lc (Wf := fun q => ((Wd.bg B H hB bag cells cs (c + 1 + 9 * i + q)).o1 L (.lst z)).rel H1) (own := [("_law_person", 6)]) (S := fun _ _ => True) (el := fun m => .int (m : Nat)) (fam_bo c i) sc51.nd (Nat.le_trans (show _ ≤ 8 by omega) (by decide))
        (vi_rng1 rfl T.trange (ve_var 1) (by omega)) (blk_of rfl) (pgI sc51.nd rfl (Or.inl rfl))
        (fun m hm D acc hD s2 H2 C cl fp => pts_one ?_)
        (fun m hm _ D acc s2 H2 C cl fp => ve_var 6)) (by rfl) (fun d ⟨q, _, e⟩ => ⟨_, e⟩)) fun d hd => ?_
    · have hne : D ≠ bag := fun e => hD (by rw [e]; exact .inl (.inr rfl))
      refine PT.imp (vxt_cmp (f := eqD 1) (op_eqD (hu64 hr)) (by rfl) (vx_call (W := fun c => (((Wd.bg B H hB bag cells cs c).o1 L (.lst z)).rel H1).o1 D (.lst acc)) (((hasbag_bg.o1 hL).rel H1).o1 hne) c49 hr (va_cons (ve_var 0) (va_cons ve_int va_nil)) (r49 2)) ve_int fun d hd => ?_) fun σ H Q ⟨p, q⟩ => ⟨p, fun b H2 _ m e => q b H2 trivial m e⟩
      obtain ⟨z, _, _, rfl⟩ := hd
      exact od_eq (sh_int _) (sh_int _) (by rw [PyData.eqv]; exact (Bool.beq_eq_decide_eq _ _))
    · obtain ⟨_, ⟨q, _, e⟩, rfl⟩ := hd
      injection e with e
      injection e with e
      subst e
      obtain ⟨t, et⟩ : ∃ t : List Int, t = ((List.range n).filter q).map fun m : Nat => (m : Int) := ⟨_, rfl⟩
      have ht : (((List.range ((n : Nat) : Int).toNat).filter q).map fun m : Nat => PyData.int (m : Nat)) = t.map PyData.int := by
        rw [et, List.map_map, Int.toNat_natCast]
        rfl
      rw [ht]
      have hmem : ∀ x ∈ t, 0 ≤ x ∧ x < (n : Int) := fun x hx => by
        rw [et] at hx
        obtain ⟨m, hm, rfl⟩ := List.mem_map.mp hx
        have := List.mem_range.mp (List.mem_filter.mp hm).1
        omega
      have hpw : t.Pairwise (· < ·) := by
        rw [et]
        exact List.pairwise_map.mpr ((List.pairwise_lt_range.filter _).imp fun h => by omega)
      have htl : t.length ≤ 8 := by
        rw [et, List.length_map]
        have := List.length_filter_le q (List.range n)
        rw [List.length_range] at this
        omega
      refine hs_cons (N1 := fun σ H' => ∃ t, GoodT n t ∧ Pre g (((Wd.bg B H hB bag cells cs (c + 1 + 9 * (i + 1))).o1 L (.lst z)).rel H1) [some (.raw (.ref bag)), some (.py (.int (n : Nat))), some (.py (.int 9)), some (.own L z (ts.map TD)), some (.py (.int (i : Nat))), some (.py (TD t)), none] σ H')
        (h1_if (vt_cmp (op_eqD (hu64 hr)) (od_eq (sh_TD t) (sh_TD []) (eqv_TD _ _)) (ve_var 5) (ve_tup (xs := []) va_nil)) (fun e => ?_) fun e => hs_nil fun σ H' p => ⟨t, ⟨of_decide_eq_false e, htl, hpw, hmem⟩, p.wup (fun m => ⟨o1_mk ⟨m.1.1.1, m.1.1.2.more (by omega)⟩ (o1_at m.1), m.2⟩) rfl⟩) (hs_ex fun t => hs_pure fun gt => ?_)
      · refine hs_setX 5 (W' := ((Wd.bg B H hB bag cells cs (c + 1 + 9 * i + ((n : Nat) : Int).toNat + 1)).o1 L (.lst z)).rel H1) sc51.nd (by rfl) (vx_tup1 (vx_call (W := fun c => ((Wd.bg B H hB bag cells cs c).o1 L (.lst z)).rel H1) ((hasbag_bg.o1 hL).rel H1) c49 hr (va_cons (ve_var 0) (va_cons (ve_var 1) va_nil)) (r49 (n : Nat) (by omega) (by omega))) (by rfl) fun d ⟨k, _, _, e⟩ => ⟨_, e⟩) fun d hd => hs_nil fun σ H' p => ?_
        obtain ⟨_, ⟨k, k1, k2, e⟩, rfl⟩ := hd
        injection e with e
        subst e
        exact ⟨[k], ⟨(fun z => nomatch z), (show 1 ≤ 8 by decide), List.pairwise_singleton _ _, fun x hx => by
          rw [List.mem_singleton.mp hx]
          exact ⟨k1, k2⟩⟩, p.wup (fun m => ⟨o1_mk ⟨m.1.1.1, m.1.1.2.more (by omega)⟩ (o1_at m.1), m.2⟩) rfl⟩
      · refine hs_cons (N1 := fun σ H' => ∃ z', DrawnOk n (i + 1) z'.2 ∧ Pre g (((Wd.bg B H hB bag cells cs (c + 1 + 9 * (i + 1))).o1 L (.lst z'.1)).rel H1) [some (.raw (.ref bag)), some (.py (.int (n : Nat))), some (.py (.int 9)), some (.own L z'.1 (z'.2.map TD)), none, none, none] σ H')
          (h1_if (vt_ninO hr (fun H m => o1_at m.1) (ve_var 5) (ve_var 3) (sh_TD t) hsl) (fun e => ?_) fun e => hs_nil fun σ H' p => ⟨(z, ts), ?_, p.less (.eq (.eq (.eq (.eq (.no (.no (.no .nil)))))))⟩) (hs_nil fun σ H' p => p)
        · rw [any_TD] at e
          have hni : t ∉ ts := fun h => by
            rw [decide_eq_true h] at e
            cases e
          refine hs_append (c := TD t) (k := 0) 3 (W2 := fun v => ((Wd.bg B H hB bag cells cs (c + 1 + 9 * (i + 1))).o1 L (.lst (z ++ [v]))).rel H1) rfl (fun v => (Chg.o1 _ _ ?_).rel H1) (ve_var 5) (by rw [List.length_map]; exact Nat.lt_of_le_of_lt hlen (by decide)) fun v => hs_nil fun σ H' p => ⟨(z ++ [v], ts ++ [t]), ⟨?_, ?_, fun _ => by simp, fun x hx => ?_⟩, ?_⟩
          · exact loc_bg.off (H1 := H9) ⟨m9.1, m9.2.more (by omega)⟩ f9
          · rw [List.nodup_append]
            exact ⟨hz.1, by simp, fun a ha b hb e => hni (by rw [← List.mem_singleton.mp hb, ← e]; exact ha)⟩
          · rw [List.length_append]
            exact Nat.succ_le_succ hz.2.1
          · rcases List.mem_append.mp hx with h | h
            · exact hz.2.2.2 x h
            · rw [List.mem_singleton.mp h]
              exact gt
          · show Pre g _ [_, _, _, some (.own L (z ++ [v]) ((ts ++ [t]).map TD)), none, none, none] σ H'
            rw [List.map_append]
            exact p.less (.eq (.eq (.eq (.eq (.no (.no (.no .nil)))))))
        · rw [any_TD] at e
          have hin : t ∈ ts := by
            by_cases h : t ∈ ts
            · exact h
            · rw [decide_eq_false h] at e
              cases e
          exact ⟨hz.1, Nat.le_succ_of_le hz.2.1, (fun _ h => by
            rw [show ts = [] from h] at hin
            cases hin), hz.2.2.2⟩
  · obtain ⟨kk, ⟨_, ⟨j0, j1, j2, rfl⟩, ee⟩, rfl⟩ := hk
    have ek : kk = 1 + j0 := by injection ee with ee; injection ee
    obtain ⟨z, ts⟩ := z
    have hz : DrawnOk n kk.toNat ts := hz
    refine hs_pre (P' := Pre g (Wd.bg B H hB bag cells cs (c + 1 + 9 * kk.toNat)) _) ?_ fun σ H' p => freeze (i := 3) nb rfl p.unrel
    refine hs_ret (ve_sortLT hr T.tsorted (fun t ht => (hz.2.2.2 t ht).1) (ve_var 3)) fun σ v H' p dv => ⟨_, ⟨ts, ⟨hz.1, by have := hz.2.1; omega, fun _ => hz.2.2.1 (by omega), hz.2.2.2⟩, rfl⟩, p.1.1, p.1.2.more (by omega), dv.weak fun a z => .inl z⟩
end
end My
/-! E1: own errors that say super().__init__(text), then keep a field or two. -/
namespace My
open PySem PySem.Spec PyProof.Rows PySem.W PySem.Calls PySem.HandSPX
/-- what the top says of an error's class, at C, and of its __init__, at fI -/
structure ErrK (P : Program) (K : Frag) (mg : Str → Option Value) (x : Str) (C fI : Addr) (st : Stmt) (qual : Str) : Prop where
  gC : mg x = some (.ref C)
  cls : ∃ nm q N bs bm sn sub ab col dd k0 k1 k2 k3 k5, K.lookup C = some (excClassObj nm q C N bs bm true sn sub ab col dd k0 k1 k2 k3 k5 "ValueError.__new__") ∧ refsVE bm = true
  sa : findIn K (.ref C) "__setattr__" = some (some (.builtin "object.__setattr__"))
  iC : findIn K (.ref C) "__init__" = some (some (.ref fI))
  tC : typeIn K (.ref fI) = some (.type "function")
  kC : keepIn K (.ref C) = true
  exC : subIn K (.ref C) (.type "BaseException") = some true
  tyC : typeIn K (.ref C) = some (.type "type")
  veC : subIn K (.ref C) (.type "ValueError") = some true
  sup : ks_superIn K C C "__init__" = some (some (.builtin "ValueError.__init__"))
  mro : mroIn K C (.ref C) = some true
  th : nsIn K cStatics "thirdparty.any" = some none
  nsup : nsIn K mainGlobals "super" = some none
  top : (P.main.scope.names.lookup ("super" : Str)).isSome = false
  fn : ∃ (oc : Value) (od : Option Addr) (doc pm : Value) (an : Option Addr) (cda : Addr) (ct : Value) (cc : Addr) (osl : Array (Option Value)) (ccl : Value) (cdd : Option Addr) (vs : Array Value) (ccs : Array (Option Value)) (file : Str) (tf : Tok) (cl : Value) (cld : Option Addr) (csl : Array (Option Value)),
    K.lookup fI = some ⟨oc, od, .func (ksFn "__init__" qual (L2.defArgs st) (L2.defBody st) (L2.defScope st) .none .none doc pm an (.ref cda) ct cc), osl⟩ ∧ codeIn K (.ref cda) qual = true ∧ K.lookup cda = some ⟨ccl, cdd, .fields vs, ccs⟩ ∧ vs[2]? = some (.str file tf) ∧ ((P.main.file : Str) == file) = true ∧
      K.lookup cc = some ⟨cl, cld, .cell (some (.ref C)), csl⟩
section
variable {P : Program} {w : World} {A : Around} {E : Value → Shared → Prop} {s : Shared} {K : Frag} {mg mb : Str → Option Value} {C fI x L : Addr} {st : Stmt} {nmx qual : Str}
theorem len1 (v : Value) : [v].length ≤ sizeLine := by
  show 1 ≤ sizeLine
  decide
/-- super().__init__(text); the rest -/
theorem err_sup {pl : Sem Bool} {body rest : List Stmt} {fd : FuncData} {ar : Arg} {m : Str → Option Value} {p0 p1 p2 p3 p4 p5 : Pos} {z : Str} {j : Nat} {t0 cda cc : Addr} {scope : Scope} {oc ccl cl : Value} {od cdd cld : Option Addr} {osl ccs csl : Array (Option Value)} {vs : Array Value} {file : Str} {tf : Tok} {Q : Flow → Shared → Prop}
    (T : ErrK P K mg nmx C fI st qual) (X : K.In s.heap) (hg : s.heap.Ns mainGlobals mg) (hb : s.heap.Ns builtinsNs mb) (hmb : mb "super" = some (.type "super")) (hx : s.heap.get? x = some (excO C t0)) (hn : s.heap.Ns L m) (hm : m ar.arg = some (.ref x))
    (hf : K.lookup fI = some ⟨oc, od, .func fd, osl⟩) (hp : (fd.params.posonlyargs ++ fd.params.args).head? = some ar) (hcode : K.lookup cda = some ⟨ccl, cdd, .fields vs, ccs⟩) (hvs : vs[2]? = some (.str file tf)) (hfile : ((P.main.file : Str) == file) = true)
    (hcell : K.lookup cc = some ⟨cl, cld, .cell (some (.ref C)), csl⟩)
    (hks : scope.names.lookup ("super" : Str) = some .globalImplicit) (hkc : scope.names.lookup ("__class__" : Str) = some .free) (hka : scope.names.lookup ar.arg = some .local) (hk : scope.kind = .function)
    (h : ∀ h' tk t1, (∀ b o, b ≠ x → s.heap.get? b = some o → h'.get? b = some o) → h'.get? x = some (excO C t1) → _root_.PySem.wpAt (model P w) A (.func body (ksEnv qual scope L fI (.ref cda) cc)) (execs rest (ksEnv qual scope L fI (.ref cda) cc)) Q E { s with heap := h', toks := tk })
    (he : eval (.Call (.Attribute (.Call (.Name "super" p0) [] [] p1) "__init__" p2) [.Constant (.str z) j p3] [] p4) (ksEnv qual scope L fI (.ref cda) cc) = (do
      let ov ← attributeBase (.Call (.Name "super" p0) [] [] p1) "__init__" (ksEnv qual scope L fI (.ref cda) cc) (eval (.Call (.Name "super" p0) [] [] p1) (ksEnv qual scope L fI (.ref cda) cc))
      standAt p2.atName
      let (f, first) ← holding [ov] (getMethod ov "__init__" pl)
      callWith p4 f first (backTo p4 (starEach [.Constant (.str z) j p3] (ksEnv qual scope L fI (.ref cda) cc))) []) := by rfl)
    (hsw : swapsWith (.Call (.Attribute (.Call (.Name "super" p0) [] [] p1) "__init__" p2) [.Constant (.str z) j p3] [] p4) none p5.line (ksEnv qual scope L fI (.ref cda) cc) = pure false := by rfl) :
    _root_.PySem.wpAt (model P w) A (.func body (ksEnv qual scope L fI (.ref cda) cc)) (execs (.Expr (.Call (.Attribute (.Call (.Name "super" p0) [] [] p1) "__init__" p2) [.Constant (.str z) j p3] [] p4) p5 :: rest) (ksEnv qual scope L fI (.ref cda) cc)) Q E s := by
  obtain ⟨nm, q, N, bs, bm, sn, sub, ab, col, dd, k0, k1, k2, k3, k5, hC, hbm⟩ := T.cls
  have hcl : clsIn K C = some { name := nm, bases := bs, mro := .ref C :: bm, ns := N, qualname := q, hasDict := true, slotNames := sn, subclasses := sub, abstract := ab, collection := col, hasDel := false } := by unfold clsIn; rw [hC] <;> rfl
  have hup := T.sup
  unfold ks_superIn at hup
  rw [hcl] at hup
  have hxC : x ≠ C := fun e => by
    rw [e, X _ _ hC] at hx
    cases hx
  obtain ⟨hh, g, d, t, os⟩ := s
  refine ks_wpAt_execs_cons (ks_wpAt_Expr_any (ks_wpAt_MethodCall ?_ he) (by simp [interactive, hk]) hsw)
  refine ks_wpAt_super_base (env := ksEnv qual scope L fI (.ref cda) cc) hks hkc rfl rfl (X _ _ hf) rfl hp rfl (X _ _ hcode) rfl hvs hfile T.top ?_
  refine ks_loadName_global hk hks (loadGlobal_builtin (env := ksEnv qual scope L fI (.ref cda) cc) hg (mg_none_of X hg T.nsup) hb hmb ⟨rfl, ?_⟩)
  refine wpAny_loadName_free hk hkc rfl ⟨_, X _ _ hcell, rfl⟩ ?_
  refine wpAny_loadName_local hk hka hn hm ?_
  refine ks_wpAny_isType_cls (X _ _ hC) rfl ⟨rfl, ?_⟩
  refine ks_wpAny_call_super (X _ _ hC) rfl hx rfl (fun c e => by cases e) (looks_mroIn X T.mro) (fun h1 e1 n1 => ?_)
  have X1 : K.In h1 := X.keeps n1
  have I1 : InstAt h1 x (excO C t0) C none := ⟨n1 _ _ hx, rfl, rfl, trivial⟩
  refine kxs_getMethod kxs_ValueError e1 (looks_opaque X1 T.th) (l₀ := .ref C :: bm) (fun A Q E s k q => wpAny_bind ((looks_clsIn X1 hcl) A _ E s k (wpAny_pure q))) rfl X1 hup (I1.type.andThen (looks_subIn X1 T.veC)) hxC rfl ?_
  have hu : (h1.push (kxs_mw "ValueError.__init__" x)).get? h1.objs.size = some (kxs_mw "ValueError.__init__" x) := Heap.get?_push_at rfl rfl
  refine kxs_callWith (i := "ValueError.__init__") (x := x) rfl (evalArgs_plain (spliced_cons (Constant_str (k := j) (pos := p3) (spliced_nil ⟨hu, ?_⟩))))
  have old : ∀ b o, hh.get? b = some o → (h1.push (kxs_mw "ValueError.__init__" x)).get? b = some o := fun b o e => Heap.get?_push_of_some _ (n1 b o e)
  refine wpAny_call (codeAny_of_tree ?_)
  show wpAny _ A.in1 (callAny (.ref h1.objs.size) _) _ _ _
  simp only [callAny]
  refine wpAny_bind (wpAny_load hu ?_)
  simp only [kxs_mw, show (Value.type "method-wrapper" == Value.type "method" || Value.type "method-wrapper" == Value.type "builtin_function_or_method" || Value.type "method-wrapper" == Value.type "method-wrapper") = true by decide, if_true]
  refine KFB.if_so (by decide) ?_
  refine wpAny_bind (check_bound_init F.excBase_ValueError.toExcCallFacts (X1.keeps (fun b o e => Heap.get?_push_of_some _ e) _ _ hC) (old _ _ hx) rfl ?_)
  refine wpAny_bind (wpAny_pure (wpAny_pure ?_))
  refine ⟨plainId_quiet F.excBase_ValueError.init.plain _, codeAny_builtin F.excBase_ValueError.initEntry ?_⟩
  refine exc_init_tree (cls := .ref C) (t0 := t0) (dv := none) (c2 := .none) (c3 := .none) (b4 := .bool false) (old _ _ hx) (len1 _) fun h' kk e' t' => ?_
  exact h h' _ _ (fun b o hb e => kk b o hb (old b o e)) e'
end
end My
/-! E2: the errors' __init__ run. -/
namespace My
open PySem PySem.Spec PyProof.Rows PySem.W PySem.Calls PySem.HandSPX
/-- what __init__ leaves of a new error at x -/
structure InitEnd (h h' : Heap) (x C dx t1 : Addr) (mA : Str → Option Value) : Prop where
  keep : ∀ b o, b ≠ x → h.get? b = some o → h'.get? b = some o
  obj : h'.get? x = some { cls := .ref C, dict := some dx, data := .fields #[.ref t1, .none, .none, .none, .bool false, .none] }
  dbig : h.objs.size ≤ dx
  dne : dx ≠ x
  ns : h'.Ns1 dx mA
/-- the arguments v.. keep the fields' reading mA -/
def Inits (P : Program) (w : World) (K : Frag) (mg : Str → Option Value) (C fI : Addr) (us : List Value) (mA : Str → Option Value) : Prop :=
  ∀ (A : Around) (R : Result → Shared → Prop) (s : Shared) (mb : Str → Option Value) (x t0 : Addr), K.In s.heap → s.heap.NoLimit → s.heap.Ns mainGlobals mg → s.heap.Ns builtinsNs mb → mb "super" = some (.type "super") → s.heap.get? x = some (excO C t0) → K.lookup x = none → A.depth < recursionLimit →
    (∀ h' tk dx t1, InitEnd s.heap h' x C dx t1 mA → R (.ok (.ret .none)) { s with heap := h', toks := tk }) → codeAny (model P w) A (.call (.ref fI) ⟨.ref x :: us, []⟩) R s
def m1 (f : Str) (v : Value) : Str → Option Value := fun y => if y = f then some v else none
theorem kept_off {K : Frag} {h h' : Heap} {x : Addr} (X : K.In h) (hx : K.lookup x = none) (k : ∀ b o, b ≠ x → h.get? b = some o → h'.get? b = some o) : K.In h' := fun a o e => k a o (fun z => by
  rw [z, hx] at e
  cases e) (X a o e)
section
variable {P : Program} {w : World} {K : Frag} {mg : Str → Option Value} {C fI : Addr}
theorem init_part {i : Nat} {nmx qual : Str} (T : ErrK P K mg nmx C fI (L2.inClass (tp i) 0) qual) (hf : findIn K (.ref C) "part" = some none) (hi : i = 2 ∨ i = 3 ∨ i = 6) (v : Value) : Inits P w K mg C fI [v] (m1 "part" v) := by
  intro A R s mb x t0 X hlim hg hb hmb hx hnx hroom hq
  obtain ⟨oc, od, doc, pm, an, cda, ct, cc, osl, ccl, cdd, vs, ccs, file, tf, cl, cld, csl, ho, hcd, hcode, hvs, hfile, hcell⟩ := T.fn
  obtain ⟨nm, q, N, bs, bm, sn, sub, ab, col, dd, k0, k1, k2, k3, k5, hC, hbm⟩ := T.cls
  have hcl : clsIn K C = some { name := nm, bases := bs, mro := .ref C :: bm, ns := N, qualname := q, hasDict := true, slotNames := sn, subclasses := sub, abstract := ab, collection := col, hasDel := false } := by unfold clsIn; rw [hC] <;> rfl
  have hxL : s.heap.objs.size ≠ x := Nat.ne_of_gt (Heap.lt_size hx)
  rcases hi with rfl | rfl | rfl
  all_goals
    refine ks_codeAny_call_defAt (binds := [("self", .ref x), ("part", v)]) hroom (X _ _ ho) rfl hlim (codeRec_of X hcd) rfl (BindsTo.of_eq (by first | rfl | with_unfolding_all rfl)) (by show ∀ x ∈ (L2.defScope (L2.inClass (tp _) 0)).names, x.2 ≠ .cell; decide +kernel) (locs (by first | rfl | kernel_rfl)) (fun h₁ hn k => ?_) rfl rfl rfl
    have lg : ∀ {a : Addr} {m : Str → Option Value}, s.heap.Ns a m → h₁.Ns a m := fun {a m} z => z.keeps k
    refine err_sup (ar := ⟨"self", none, _⟩) T (X.keeps k) (lg hg) (lg hb) hmb (k _ _ hx) hn (by first | rfl | with_unfolding_all rfl | kernel_rfl) ho rfl hcode hvs hfile hcell rfl rfl rfl rfl fun h2 tk2 t1 k2 hx2 => ?_
    have hn2 := hn.at fun o e => k2 _ o hxL e
    have X2 : K.In h2 := kept_off (X.keeps k) hnx k2
    refine ks_wpAt_execs_cons (ks_wpAt_Assign_Attr (wpAt_of_wpAny (ESX.ldL (v := v) hn2 (by first | rfl | with_unfolding_all rfl | kernel_rfl) (ESX.ldL (v := .ref x) hn2 (by first | rfl | with_unfolding_all rfl | kernel_rfl) ?_))))
    refine set_plain X2 (ox := excO C t1) (od := none) ⟨hx2, rfl, rfl, trivial⟩ T.sa ?_
    refine exc_osa X2 hx2 hcl (show refsVE (.ref C :: bm) = true from hbm) rfl hf (fun h3 tk3 dx k3 dn dne hx3 hn3 => ?_)
    have z : s.heap.objs.size ≤ dx := Nat.le_of_lt (Nat.lt_of_lt_of_le hn2.lt dn)
    exact wpAt_of_wpAny (wpAny_execs_nil (hq h3 tk3 dx t1 ⟨fun b o hb e => k3 b o hb (k2 b o hb (k b o e)), hx3, z, dne, hn3⟩))
end
end My
/-! E3: an error of two fields; errors made. -/
namespace My
open PySem PySem.Spec PyProof.Rows PySem.W PySem.Calls PySem.HandSPX
def m2 (f : Str) (v : Value) (f2 : Str) (v2 : Value) : Str → Option Value := fun y => if y = f2 then some v2 else m1 f v y
/-- an error made -/
structure ErrMade (h h' : Heap) (e C d : Addr) (mA : Str → Option Value) : Prop where
  keep : ∀ b o, h.get? b = some o → h'.get? b = some o
  new : h.objs.size ≤ e
  obj : ∃ oe vs, h'.get? e = some oe ∧ oe.cls = .ref C ∧ oe.dict = some d ∧ oe.data = .fields vs ∧ vs[1]? = some .none
  dbig : h.objs.size ≤ d
  dne : d ≠ e
  ns : h'.Ns1 d mA
section
variable {P : Program} {w : World} {K : Frag} {mg : Str → Option Value} {C fI : Addr}
theorem init_many {nmx qual : Str} (T : ErrK P K mg nmx C fI (L2.inClass (tp 7) 0) qual) (hf : findIn K (.ref C) "what" = some none) (hf2 : findIn K (.ref C) "most" = some none) (v v2 : Value) : Inits P w K mg C fI [v, v2] (m2 "what" v "most" v2) := by
  intro A R s mb x t0 X hlim hg hb hmb hx hnx hroom hq
  obtain ⟨oc, od, doc, pm, an, cda, ct, cc, osl, ccl, cdd, vs, ccs, file, tf, cl, cld, csl, ho, hcd, hcode, hvs, hfile, hcell⟩ := T.fn
  obtain ⟨nm, q, N, bs, bm, sn, sub, ab, col, dd, k0, k1, k2, k3, k5, hC, hbm⟩ := T.cls
  have hcl : clsIn K C = some { name := nm, bases := bs, mro := .ref C :: bm, ns := N, qualname := q, hasDict := true, slotNames := sn, subclasses := sub, abstract := ab, collection := col, hasDel := false } := by unfold clsIn; rw [hC] <;> rfl
  have hxL : s.heap.objs.size ≠ x := Nat.ne_of_gt (Heap.lt_size hx)
  refine ks_codeAny_call_defAt (binds := [("self", .ref x), ("what", v), ("most", v2)]) hroom (X _ _ ho) rfl hlim (codeRec_of X hcd) rfl (BindsTo.of_eq (by first | rfl | with_unfolding_all rfl)) (by show ∀ x ∈ (L2.defScope (L2.inClass (tp _) 0)).names, x.2 ≠ .cell; decide +kernel) (locs (by first | rfl | kernel_rfl)) (fun h₁ hn k => ?_) rfl rfl rfl
  have lg : ∀ {a : Addr} {m : Str → Option Value}, s.heap.Ns a m → h₁.Ns a m := fun {a m} z => z.keeps k
  refine err_sup (ar := ⟨"self", none, _⟩) T (X.keeps k) (lg hg) (lg hb) hmb (k _ _ hx) hn (by first | rfl | with_unfolding_all rfl | kernel_rfl) ho rfl hcode hvs hfile hcell rfl rfl rfl rfl fun h2 tk2 t1 k2 hx2 => ?_
  have hn2 := hn.at fun o e => k2 _ o hxL e
  have X2 : K.In h2 := kept_off (X.keeps k) hnx k2
  refine ks_wpAt_execs_cons (ks_wpAt_Assign_Attr (wpAt_of_wpAny (ESX.ldL (v := v) hn2 (by first | rfl | with_unfolding_all rfl | kernel_rfl) (ESX.ldL (v := .ref x) hn2 (by first | rfl | with_unfolding_all rfl | kernel_rfl) ?_))))
  refine set_plain X2 (ox := excO C t1) (od := none) ⟨hx2, rfl, rfl, trivial⟩ T.sa ?_
  refine exc_osa X2 hx2 hcl (show refsVE (.ref C :: bm) = true from hbm) rfl hf (fun h3 tk3 dx k3 dn dne hx3 hn3 => ?_)
  have z : s.heap.objs.size < dx := Nat.lt_of_lt_of_le hn2.lt dn
  have X3 : K.In h3 := kept_off X2 hnx k3
  have hn4 := hn2.at fun o e => k3 _ o hxL e
  obtain ⟨oD, esD, epD, hoD, hdD, _⟩ := hn3.count (Within.cons "what" v Within.nil)
  refine ks_wpAt_execs_cons (ks_wpAt_Assign_Attr (wpAt_of_wpAny (ESX.ldL (v := v2) hn4 (by first | rfl | with_unfolding_all rfl | kernel_rfl) (ESX.ldL (v := .ref x) hn4 (by first | rfl | with_unfolding_all rfl | kernel_rfl) ?_))))
  refine set_plain X3 (ox := { cls := .ref C, dict := some dx, data := .fields #[.ref t1, .none, .none, .none, .bool false, .none] }) (od := some oD) ⟨hx3, rfl, rfl, hoD⟩ T.sa ?_
  refine OEX.osa_old X3 hx3 hn3 (Within.cons "what" v Within.nil) (by decide) hcl (show refsVE (.ref C :: bm) = true from hbm) rfl hf2 (fun h4 tk4 k4 hn5 => ?_)
  exact wpAt_of_wpAny (wpAny_execs_nil (hq h4 tk4 dx t1 ⟨fun b o hb e => k4 b o (Nat.ne_of_lt (Nat.lt_trans (Heap.lt_size e) z)) (k3 b o hb (k2 b o hb (k b o e))), k4 _ _ (Ne.symm dne) hx3, Nat.le_of_lt z, dne, hn5⟩))
theorem err_made {nmx qual : Str} {st : Stmt} {A : Around} {R : Result → Shared → Prop} {s : Shared} {mb : Str → Option Value} {us : List Value} {mA : Str → Option Value} (T : ErrK P K mg nmx C fI st qual) (hI : Inits P w K mg C fI us mA) (X : K.In s.heap) (hlim : s.heap.NoLimit) (hg : s.heap.Ns mainGlobals mg) (hb : s.heap.Ns builtinsNs mb) (hmb : mb "super" = some (.type "super"))
    (hroom : A.depth + 1 < recursionLimit) (hl : us.length ≤ sizeLine) (hq : ∀ h' tk e d, ErrMade s.heap h' e C d mA → R (.ok (.ret (.ref e))) { s with heap := h', toks := tk }) : codeAny (model P w) A (.call (.ref C) ⟨us, []⟩) R s := by
  obtain ⟨nm, q, N, bs, bm, sn, sub, ab, col, dd, k0, k1, k2, k3, k5, hC, hbm⟩ := T.cls
  obtain ⟨hp, g, d, tk, os⟩ := s
  have k : ∀ b o, hp.get? b = some o → ((hp.push (kdv_tup us)).push (excO C hp.objs.size)).get? b = some o := fun b o e => Heap.get?_push_of_some _ (Heap.get?_push_of_some _ e)
  have hget : ((hp.push (kdv_tup us)).push (excO C hp.objs.size)).get? (hp.objs.size + 1) = some (excO C hp.objs.size) := by heap_get
  have hnx : K.lookup (hp.objs.size + 1) = none := by
    cases e : K.lookup (hp.objs.size + 1) with
    | none => rfl
    | some o => exact absurd (Nat.lt_of_succ_lt (Heap.lt_size (show hp.get? (hp.objs.size + 1) = some o from X _ _ e))) (Nat.lt_irrefl _)
  refine call_own F.excBase_ValueError (fun X => refsVE_contains X bm hbm) (X _ _ hC) (looks_findIn X T.iC) (fun self => bind_fn X self T.tC) hl ?_
  refine hI _ _ ⟨(hp.push (kdv_tup us)).push (excO C hp.objs.size), g, d, tk, os⟩ mb (hp.objs.size + 1) hp.objs.size (X.keeps k) (hlim.keeps k) (hg.keeps k) (hb.keeps k) hmb hget hnx hroom fun h' tk' dx t1 ⟨k', hx, dn, dne, hns⟩ => ?_
  refine ⟨rfl, hq h' tk' (hp.objs.size + 1) dx ⟨fun b o e => k' b o (Nat.ne_of_lt (Nat.lt_succ_of_lt (Heap.lt_size e))) (k b o e), Nat.le_succ _, ⟨_, _, hx, rfl, rfl, rfl, rfl⟩, ?_, dne, hns⟩⟩
  rw [Heap.size_push, Heap.size_push] at dn
  exact Nat.le_trans (Nat.le_trans (Nat.le_succ _) (Nat.le_succ _)) dn
end
end My
namespace My
open PySem PySem.Spec PyProof.Rows L2 StX
/-- the class at C, named x: its arguments vs keep the fields fs vs -/
def ErrMk (P : Program) (w : World) (K : PySem.W.Frag) (mg : Str → Option Value) (x : Str) (C : Addr) (n : Nat) (fs : List V → List (Str × V)) : Prop :=
  ∃ fI st qual, ErrK P K mg x C fI st qual ∧ ∀ vs us, vs.length = n → Vals vs us → ∃ mA, Inits P w K mg C fI us mA ∧ ∀ f, RelO ((fs vs).lookup f) (mA f)
def fs1 (f : Str) : List V → List (Str × V)
  | [v] => [(f, v)]
  | _ => []
def fs2 (f f2 : Str) : List V → List (Str × V)
  | [v, v2] => [(f2, v2), (f, v)]
  | _ => []
theorem rel_m1 {f : Str} {v : V} {u : Value} (r : RelV v u) (y : Str) : RelO ((fs1 f [v]).lookup y) (m1 f u y) := relO_put (fs := []) (mA := fun _ => none) r (fun _ => True.intro) y
theorem rel_m2 {f f2 : Str} {v v2 : V} {u u2 : Value} (r : RelV v u) (r2 : RelV v2 u2) (y : Str) : RelO ((fs2 f f2 [v, v2]).lookup y) (m2 f u f2 u2 y) := relO_put (fs := [(f, v)]) (mA := m1 f u) r2 (rel_m1 r) y
theorem mk_part {P : Program} {w : World} {K : PySem.W.Frag} {mg : Str → Option Value} {C fI : Addr} {i : Nat} {x qual : Str} (T : ErrK P K mg x C fI (inClass (tp i) 0) qual) (hf : PySem.W.findIn K (.ref C) "part" = some none) (hi : i = 2 ∨ i = 3 ∨ i = 6) : ErrMk P w K mg x C 1 (fs1 "part") :=
  ⟨fI, _, qual, T, fun vs us hl r => by
    cases r with
    | nil => cases hl
    | cons r1 r2 =>
      cases r2 with
      | cons _ _ => cases hl
      | nil => exact ⟨_, init_part T hf hi _, rel_m1 r1⟩⟩
theorem mk_many {P : Program} {w : World} {K : PySem.W.Frag} {mg : Str → Option Value} {C fI : Addr} {x qual : Str} (T : ErrK P K mg x C fI (inClass (tp 7) 0) qual) (hf : PySem.W.findIn K (.ref C) "what" = some none) (hf2 : PySem.W.findIn K (.ref C) "most" = some none) : ErrMk P w K mg x C 2 (fs2 "what" "most") :=
  ⟨fI, _, qual, T, fun vs us hl r => by
    cases r with
    | nil => cases hl
    | cons r1 r2 =>
      cases r2 with
      | nil => cases hl
      | cons r2 r3 =>
        cases r3 with
        | cons _ _ => cases hl
        | nil => exact ⟨_, init_many T hf hf2 _ _, rel_m2 r1 r2⟩⟩
section
variable {X : Cx} {C : Addr} {x : Str} {n k : Nat} {fs : List V → List (Str × V)} {e : Expr} {es : List Expr} {ta : TA} {p pos : Pos}
theorem pmk_err (M : ErrMk X.prog X.w X.K X.mg x C n fs) (hr : Room k X.A) (ha : PA X (e :: es) ta) (hn : n ≤ 1000) (hg : Gl X x) (hdb : (x == ("__debug__" : Str)) = false := by decide)
    (he : starEach (e :: es) X.env = (false, eval e X.env) :: starEach es X.env := by rfl) (hpl : (backTo pos (starEach es X.env)).any (·.1) = false := by rfl) :
    PMk X (.Call (.Name x p) (e :: es) [] pos) (fun σ H Q => ta σ H fun vs H1 => vs.length = n ∧ ∀ d, H1 d = none → Q (.ref C) (some d) (upd H1 d (.xd (fs vs)))) := by
  intro pins s σ H Q I h
  obtain ⟨fI, st, qual, T, hM⟩ := M
  refine wpAny_Call_Name_kw (ld_glob I hg T.gC ?_ hdb)
  refine PySem.W.callWith_K (h₀ := X.base) I.ok.mod.kin T.kC (thn (ha.run pos pins s σ H _ I h) fun us s1 ⟨vs, H1, I1, r1, hl, q1⟩ => ⟨I1.kIn, ?_⟩) he hpl
  obtain ⟨mA, hI, rel⟩ := hM vs us hl r1
  have hlim := I1.nolimit
  obtain ⟨mb, hb1, hb2⟩ := I1.mod.blt
  have hbn := hb1.keeps I1.bk
  have hgn := I1.mod.glob.keeps I1.bk
  have hul : us.length ≤ sizeLine := by
    rw [← Paired.length r1, hl]
    exact Nat.le_trans hn (by decide)
  obtain ⟨hp, g, dr, tk, os⟩ := s1
  refine wpAny_call (err_made T hI I1.kIn hlim hgn hbn ((hb2 _ (by decide)).trans (by first | rfl | kernel_rfl)) (by have := hr.dp; omega) hul fun h' tk' e d M => ?_)
  show MkP X pins σ Q (.ref e) ⟨h', g, dr, tk', os⟩
  obtain ⟨oe, fv, hoe, hc, hd, hdat, hv1⟩ := M.obj
  obtain ⟨G', g1, g2⟩ := restrict h' fun b => decide (b ≠ e)
  have gk : ∀ b, b ≠ e → G'.get? b = h'.get? b := fun b hb => g1 b (decide_eq_true hb)
  have ge : G'.get? e = none := g2 e (by simp)
  have old : ∀ b o, hp.get? b = some o → G'.get? b = some o := fun b o q => (gk b (Nat.ne_of_lt (Nat.lt_of_lt_of_le (Heap.lt_size q) M.new))).trans (M.keep b o q)
  have ob : ObjOk X.prog X.w (upd H1 d (.xd (fs vs))) G' d (.xd (fs vs)) := ⟨mA, M.ns.at (fun o q => (gk d M.dne).trans q), rel⟩
  refine ⟨e, oe, fv, ⟨G', g, dr, tk', os⟩, _, .ref C, some d, rfl, I1.laid (t' := tk') old M.dbig ob, fun b o q => ?_, ge, hoe, ⟨hc, hd⟩, hdat, hv1, ?_, rfl, I1.bare, raises_own T.exC T.tyC, q1 d (I1.hok.fresh M.dbig)⟩
  · by_cases hb : b = e
    · rw [hb] at q
      rw [show G'.get? e = _ from ge] at q
      cases q
    · exact (gk b hb).symm.trans q
  · rw [upd_ne (Ne.symm M.dne)]
    exact I1.hok.fresh M.new
end
end My
/-! E4: what a def promises that raises. -/
namespace My
open PySem PySem.Spec PyProof.Rows L2 StX
/-- an exception of the class at C with the fields fs, all else as it was at H0 -/
def XkOk (H0 : Hp) (C : Addr) (fs : List (Str × V)) (E : XK) : Prop := ∀ d H', Same H0 H' → H' d = some (.xd fs) → E (.ref C) (some d) H'
def spX (g : Gc) (n : Nat) (R : List Da → Addr → List (Str × V) → Prop) : Sp := fun vs H _ E => ∃ (B : Addr → Prop) (as : List Da) (C : Addr) (fs : List (Str × V)), (∀ a, B a → H a ≠ none) ∧ as.length = n ∧ DVs g B H vs as ∧ R as C fs ∧ XkOk H C fs E
/-- an expression whose value never comes -/
def tR (g : Gc) (W : Wd) (ds : Ds) : TE := fun σ H _ => Pre g W ds σ H
def VR (g : Gc) (X : Cx) (W : Wd) (ds : Ds) (e : Expr) : Prop := PE X e (tR g W ds)
/-- what the air takes: an exception of the class at C with the fields fs, in the world W -/
def Air (X : Cx) (W : Wd) (C : Addr) (fs : List (Str × V)) : Prop := ∃ Wx : WX, Takes X Wx ∧ ∀ d σ H', W.M H' → H' d = some (.xd fs) → Wx (.ref C) (some d) σ H'
section
variable {P : Program} {w : World} {K : PySem.W.Frag} {mg : Str → Option Value} {base : Heap} {g : Gc} {k : Nat} {x qual : Str} {st : Stmt} {dvs : List V} {f : Addr} {fd : FuncData} {N ps : List Str}
/-- THE RULE for a def that raises -/
theorem fx_body {R : List Da → Addr → List (Str × V) → Prop} {n : Nat} (F : FunS K x qual st dvs f fd) (S : FnScope N ps (defScope st)) (hn : ps.length = n)
    (hb : ∀ (cdv : Value) (A : Around) (outer : List Env) (s : Shared) (H : Hp) (E : XK) (B : Addr → Prop) (hB : ∀ a, B a → H a ≠ none) (as : List Da) (C : Addr) (fs : List (Str × V)), Room k (A.deeper (envOfC qual (defScope st) s.heap.objs.size f cdv)) → as.length = n → R as C fs → Air (cxM P w K mg base N qual st f cdv A outer s H E) (Wd.ent B H hB) C fs →
      HS (cxM P w K mg base N qual st f cdv A outer s H E) (Pre g (Wd.ent B H hB) (as.map some ++ List.replicate (N.length - as.length) none)) (defBody st) (fun _ _ => False) (fun _ _ => False)) :
    FnOk P w K mg base (L2.CX P w) (k + 1) f fd ps (spX g n R) := by
  refine F.ok S (fun vs H Q E h => ?_) (fun cdv A outer s H vs Q E hr h => ?_)
  · obtain ⟨B, as, C, fs, _, hl, hv, _⟩ := h
    rw [hv.length, hl, hn]
  · obtain ⟨B, as, C, fs, hB, hl, hv, hR, q⟩ := h
    exact ⟨_, hb cdv A outer s H E B hB as C fs hr hl hR ⟨_, takes_of rfl rfl rfl rfl, fun d _ H' m e => q d H' m e⟩, ⟨⟨Same.refl H, start_sl hv⟩, fun _ _ z => z.elim, fun _ _ z => z.elim⟩⟩
end
section
variable {g : Gc} {X : Cx} {W : Wd} {ds : Ds} {e a b : Expr} {es : List Expr} {d : Da} {pos p pos2 : Pos} {as dds : List Da} {k j n : Nat} {x : Str} {dvs : List V} {R : List Da → Addr → List (Str × V) → Prop} {C : Addr} {fs : List (Str × V)} {rest : List Stmt} {N : SH} {Rt : V → Hp → Prop}
/-- f(..) of a def that raises -/
theorem vr_call (c : Pn X.prog X.w X.K X.mg X.base k x dvs (spX g n R)) (hr : Room j X.A) (va : VA g X W ds (e :: es) as) (hR : R (as ++ dds) C fs) (air : Air X W C fs) (hkj : k ≤ j := by decide) (hdd : ∀ B H, DVs g B H dvs dds := by exact fun _ _ => Paired.nil) (hn : (as ++ dds).length = n := by rfl)
    (hg : Gl X x := by rfl) (hdb : (x == ("__debug__" : Str)) = false := by decide) (he : starEach (e :: es) X.env = (false, eval e X.env) :: starEach es X.env := by rfl) (hpl : (backTo pos (starEach es X.env)).any (·.1) = false := by rfl) :
    VR g X W ds (.Call (.Name x p) (e :: es) [] pos) := by
  obtain ⟨f, fd, ps, us, F, nm, hb, hv⟩ := c
  obtain ⟨Wx, tk, hW⟩ := air
  refine PE.imp (pe_call F (hr.mono hkj) hg nm.mgx nm.kp hb hv (passes_call (E := fun cls d H' => ∃ dd, cls = .ref C ∧ d = some dd ∧ W.M H' ∧ H' dd = some (.xd fs)) tk fun cls d σ H ⟨dd, h1, h2, h3, h4⟩ => by
    subst h1 h2
    exact hW dd σ H h3 h4) va hdb he hpl) ?_
  rintro σ H Q p
  exact ⟨p, fun vs H2 m e dv => ⟨W.B, as ++ dds, C, fs, W.al m, hn, paired_app dv (hdd _ _), hR, fun dd H' s h => ⟨dd, rfl, rfl, W.mono s m, h⟩⟩⟩
theorem hs_exprR (he : VR g X W ds e) (hs : swapsWith e none pos.line X.env = pure false := by rfl) : HS X (Pre g W ds) (.Expr e pos :: rest) N Rt :=
  hs_cons (N1 := fun _ _ => False) (PS.imp (ps_expr he hs) fun _ _ _ ⟨p, _⟩ => p) hs_false
theorem hs_raise {fs0 : List V → List (Str × V)} {n : Nat} (M : ErrMk X.prog X.w X.K X.mg x C n fs0) (hr : Room k X.A) (va : VA g X W ds (e :: es) as) (air : Air X W C fs) (hfs : ∀ B H vs, DVs g B H vs as → fs0 vs = fs) (hn : as.length = n := by rfl) (hn2 : n ≤ 1000 := by decide) (hc : X.calm = true := by rfl) (hg : Gl X x := by rfl) (hdb : (x == ("__debug__" : Str)) = false := by decide)
    (he : starEach (e :: es) X.env = (false, eval e X.env) :: starEach es X.env := by rfl) (hpl : (backTo pos (starEach es X.env)).any (·.1) = false := by rfl) :
    HS X (Pre g W ds) (.Raise (some (.Call (.Name x p) (e :: es) [] pos)) none pos2 :: rest) N Rt := by
  obtain ⟨Wx, tk, hW⟩ := air
  refine hs_cons (N1 := fun _ _ => False) (PS.imp (ps_raise hc tk (pmk_err M hr va hn2 hg hdb he hpl)) ?_) hs_false
  rintro D σ H ⟨p, _, _⟩
  refine ⟨p, fun vs H1 m e dv => ⟨dv.length.trans hn, fun d hd => ?_⟩⟩
  rw [hfs _ _ _ dv]
  exact hW d σ _ (W.mono (same_new hd) m) upd_same
/-- if true: .. -/
theorem hs_ifT {c : Expr} {sts : List Stmt} (hc : VT g X W ds c true) (ha : HS X (Pre g W ds) sts (fun _ _ => False) Rt) : HS X (Pre g W ds) (.If c sts [] pos :: rest) N Rt :=
  hs_cons (N1 := fun _ _ => False) (h1_if hc (fun _ => ha) fun z => absurd z (by decide)) hs_false
end
/-- the errors' classes -/
structure Ec where
  CN : Addr
  CTm : Addr
  CWb : Addr
  CMy : Addr
  CS : Addr
  CO : Addr
  CF : Addr
structure Ex4 (P : Program) (w : World) (K : PySem.W.Frag) (mg : Str → Option Value) (c : Ec) : Prop where
  num : ErrMk P w K mg "BadNumber" c.CN 1 (fs1 "part")
  tms : ErrMk P w K mg "BadTeams" c.CTm 1 (fs1 "part")
  web : ErrMk P w K mg "BadWeb" c.CWb 1 (fs1 "part")
  many : ErrMk P w K mg "TooMany" c.CMy 2 (fs2 "what" "most")
def fPart (x : Str) : List (Str × V) := [("part", .str x)]
def fMany (x : Str) (n : Int) : List (Str × V) := [("most", .int n), ("what", .str x)]
theorem fs_part {g : Gc} {x : Str} : ∀ (B : Addr → Prop) (H : Hp) (vs : List V), DVs g B H vs [.py (.str x)] → fs1 "part" vs = fPart x := fun B H vs h => by
  cases h with
  | cons a b =>
    cases b
    cases a
    rfl
theorem fs_many {g : Gc} {x : Str} {n : Int} : ∀ (B : Addr → Prop) (H : Hp) (vs : List V), DVs g B H vs [.py (.str x), .py (.int n)] → fs2 "what" "most" vs = fMany x n := fun B H vs h => by
  cases h with
  | cons a b =>
    cases b with
    | cons b c =>
      cases c
      cases a
      cases b
      rfl
section
variable {P : Program} {w : World} {K : PySem.W.Frag} {mg : Str → Option Value} {base : Heap} {g : Gc} {c : Ec}
/-! ### the four guards, where they refuse -/
def RX14 (c : Ec) : List Da → Addr → List (Str × V) → Prop := fun as C fs => ∃ z x lo hi, scal z = true ∧ inR lo hi z = false ∧ as = [.py z, .py (.str x), .py (.int lo), .py (.int hi)] ∧ C = c.CN ∧ fs = fPart x
theorem okX14 {dvs : List V} {f : Addr} {fd : FuncData} (T : Tx K mg g) (Y : Ex4 P w K mg c) (c11 : Pn P w K mg base 2 "is_within" [] (spR g 3 R11)) (F : FunS K "need_number" "need_number" (tp 14) dvs f fd) : FnOk P w K mg base (L2.CX P w) 3 f fd ["value", "part", "least", "most"] (spX g 4 (RX14 c)) := by
  refine fx_body F sc14 rfl fun cdv A outer s H E B hB as C fs hr hl h air => ?_
  obtain ⟨z, x, lo, hi, h1, h2, rfl, rfl, rfl⟩ := h
  refine hs_ifT (vt_is (vt_not (vt_val (ve_call c11 hr (va_cons (ve_var 0) (va_cons (ve_var 2) (va_cons (ve_var 3) va_nil))) ⟨z, lo, hi, h1, rfl, rfl⟩))) ?_) (hs_raise Y.num hr (va_cons (ve_var 1) va_nil) air fs_part)
  rw [h2]
  rfl
def noCls : PyData → Bool
  | .none => true
  | .bool _ => true
  | .int _ => true
  | .tuple _ => true
  | _ => false
theorem kit_web {z : PyData} (T : Tx K mg g) (h : noCls z = true) : PySem.W.kitOne K (tyD g (.py z)) (.ref g.CW) = some false := by
  cases z with
  | none => exact T.isBW "NoneType" (by decide)
  | bool _ => exact T.isBW "bool" (by decide)
  | int _ => exact T.isBW "int" (by decide)
  | tuple _ => exact T.isBW "tuple" (by decide)
  | _ => cases h
theorem kit_tms {z : PyData} (T : Tx K mg g) (h : noCls z = true) : PySem.W.kitOne K (tyD g (.py z)) (.ref g.CT) = some false := by
  cases z with
  | none => exact T.isBT "NoneType" (by decide)
  | bool _ => exact T.isBT "bool" (by decide)
  | int _ => exact T.isBT "int" (by decide)
  | tuple _ => exact T.isBT "tuple" (by decide)
  | _ => cases h
theorem noCls_plain {z : PyData} (h : noCls z = true) : plainD (.py z) = true := by
  cases z <;> first | rfl | cases h
def RX37 (c : Ec) : List Da → Addr → List (Str × V) → Prop := fun as C fs => ∃ z, noCls z = true ∧ as = [.py z] ∧ C = c.CWb ∧ fs = fPart "web"
theorem okX37 {f : Addr} {fd : FuncData} (T : Tx K mg g) (Y : Ex4 P w K mg c) (F : FunS K "need_web" "need_web" (tp 37) [] f fd) : FnOk P w K mg base (L2.CX P w) 2 f fd ["value"] (spX g 1 (RX37 c)) := by
  refine fx_body F sc37 rfl fun cdv A outer s H E B hB as C fs hr hl h air => ?_
  obtain ⟨z, h1, rfl, rfl, rfl⟩ := h
  exact hs_ifT (vt_is (vt_not (vt_val (ve_isi T.cl T.tW T.tT T.isinst (ve_var 0) (noCls_plain h1) (ve_cls T.gW) (.own _) (kit_web T h1)))) rfl) (hs_raise Y.web hr (va_cons ve_str va_nil) air fs_part)
def RX29 (c : Ec) : List Da → Addr → List (Str × V) → Prop := fun as C fs => ∃ z x, noCls z = true ∧ as = [.py z, .py (.str x)] ∧ C = c.CTm ∧ fs = fPart x
theorem okX29 {f : Addr} {fd : FuncData} (T : Tx K mg g) (Y : Ex4 P w K mg c) (F : FunS K "need_teams" "need_teams" (tp 29) [.str "teams"] f fd) : FnOk P w K mg base (L2.CX P w) 2 f fd ["value", "part"] (spX g 2 (RX29 c)) := by
  refine fx_body F sc29 rfl fun cdv A outer s H E B hB as C fs hr hl h air => ?_
  obtain ⟨z, x, h1, rfl, rfl, rfl⟩ := h
  exact hs_ifT (vt_is (vt_not (vt_val (ve_isi T.cl T.tW T.tT T.isinst (ve_var 0) (noCls_plain h1) (ve_cls T.gT) (.own _) (kit_tms T h1)))) rfl) (hs_raise Y.tms hr (va_cons (ve_var 1) va_nil) air fs_part)
def RX38 (c : Ec) : List Da → Addr → List (Str × V) → Prop := fun as C fs => ∃ n : Int, 12 < n ∧ as = [.py (.int n)] ∧ C = c.CMy ∧ fs = fMany "people" 12
theorem okX38 {f : Addr} {fd : FuncData} (T : Tx K mg g) (Y : Ex4 P w K mg c) (F : FunS K "need_few_people" "need_few_people" (tp 38) [] f fd) : FnOk P w K mg base (L2.CX P w) 2 f fd ["many"] (spX g 1 (RX38 c)) := by
  refine fx_body F sc38 rfl fun cdv A outer s H E B hB as C fs hr hl h air => ?_
  obtain ⟨n, h1, rfl, rfl, rfl⟩ := h
  obtain ⟨u5, m5⟩ := T.mP
  exact hs_ifT (vt_is (vt_cmp op_gt (od_b0 (f := fun i j => decide (j < i))) (ve_var 0) (ve_glob rfl m5)) (decide_eq_true h1)) (hs_raise Y.many hr (va_cons ve_str (va_cons (ve_glob rfl m5) va_nil)) air fs_many)
end
end My
/-! E5: people_in, team_of, teams_of, web_of, where they refuse. -/
namespace My
open PySem PySem.Spec PyProof.Rows L2 StX
section
variable {P : Program} {w : World} {K : PySem.W.Frag} {mg : Str → Option Value} {base : Heap} {g : Gc} {c : Ec}
def RX44 (c : Ec) : List Da → Addr → List (Str × V) → Prop := fun as C fs => ∃ z, noCls z = true ∧ as = [.py z] ∧ C = c.CWb ∧ fs = fPart "web"
theorem okX44 {f : Addr} {fd : FuncData} (c37 : Pn P w K mg base 2 "need_web" [] (spX g 1 (RX37 c))) (F : FunS K "people_in" "people_in" (tp 44) [] f fd) : FnOk P w K mg base (L2.CX P w) 3 f fd ["web"] (spX g 1 (RX44 c)) := by
  refine fx_body F sc44 rfl fun cdv A outer s H E B hB as C fs hr hl h air => ?_
  obtain ⟨z, h1, rfl, rfl, rfl⟩ := h
  exact hs_exprR (vr_call c37 hr (va_cons (ve_var 0) va_nil) ⟨z, h1, rfl, rfl, rfl⟩ air)
def RX45 (c : Ec) : List Da → Addr → List (Str × V) → Prop := fun as C fs => (∃ (z : PyData) (d : Da), noCls z = true ∧ as = [.py z, d] ∧ C = c.CWb ∧ fs = fPart "web") ∨ ∃ (n : Nat) (ts : List PyData) (z : PyData), scal z = true ∧ inR 0 ((n : Int) - 1) z = false ∧ as = [.web (n : Nat) ts, .py z] ∧ C = c.CN ∧ fs = fPart "point"
theorem okX45 {f : Addr} {fd : FuncData} (T : Tx K mg g) (c37 : Pn P w K mg base 1 "need_web" [] (spR g 1 R37)) (x37 : Pn P w K mg base 2 "need_web" [] (spX g 1 (RX37 c))) (x14 : Pn P w K mg base 3 "need_number" [] (spX g 4 (RX14 c))) (F : FunS K "team_of" "team_of" (tp 45) [] f fd) : FnOk P w K mg base (L2.CX P w) 4 f fd ["web", "point"] (spX g 2 (RX45 c)) := by
  refine fx_body F sc45 rfl fun cdv A outer s H E B hB as C fs hr hl h air => ?_
  rcases h with ⟨z, d, h1, rfl, rfl, rfl⟩ | ⟨n, ts, z, h1, h2, rfl, rfl, rfl⟩
  · exact hs_exprR (vr_call x37 hr (va_cons (ve_var 0) va_nil) ⟨z, h1, rfl, rfl, rfl⟩ air)
  · refine hs_expr (ve_call c37 hr (va_cons (ve_var 0) va_nil) ⟨_, _, rfl, rfl⟩) ?_
    exact hs_exprR (vr_call x14 hr (va_cons (ve_var 1) (va_cons ve_str (va_cons ve_int (va_cons (ve_op op_sub od_i0 (ve_points T.cl (ve_var 0)) ve_int) va_nil)))) ⟨z, _, 0, (n : Int) - 1, h1, h2, rfl, rfl, rfl⟩ air)
def RX46 (c : Ec) : List Da → Addr → List (Str × V) → Prop := fun as C fs => (∃ z, noCls z = true ∧ as = [.py z] ∧ C = c.CWb ∧ fs = fPart "web") ∨ ∃ (n : Nat) (ts : List (List Int)), WebOk n ts ∧ 12 < webMany n ts ∧ as = [.web (n : Nat) (ts.map TD)] ∧ C = c.CMy ∧ fs = fMany "people" 12
theorem okX46 {f : Addr} {fd : FuncData} (c37 : Pn P w K mg base 1 "need_web" [] (spR g 1 R37)) (c40 : Pn P w K mg base 2 "web_teams" [] (spR g 1 R40)) (x37 : Pn P w K mg base 2 "need_web" [] (spX g 1 (RX37 c))) (x38 : Pn P w K mg base 2 "need_few_people" [] (spX g 1 (RX38 c))) (F : FunS K "teams_of" "teams_of" (tp 46) [] f fd) :
    FnOk P w K mg base (L2.CX P w) 3 f fd ["web"] (spX g 1 (RX46 c)) := by
  refine fx_body F sc46 rfl fun cdv A outer s H E B hB as C fs hr hl h air => ?_
  rcases h with ⟨z, h1, rfl, rfl, rfl⟩ | ⟨n, ts, ⟨h1, h2, h3⟩, h4, rfl, rfl, rfl⟩
  · exact hs_exprR (vr_call x37 hr (va_cons (ve_var 0) va_nil) ⟨z, h1, rfl, rfl, rfl⟩ air)
  · refine hs_expr (ve_call c37 hr (va_cons (ve_var 0) va_nil) ⟨_, _, rfl, rfl⟩) ?_
    refine hs_tup2 1 2 sc46.nd (ve_call c40 hr (va_cons (ve_var 0) va_nil) ⟨n, ts, h1, h2, h3, rfl, rfl⟩) ?_
    exact hs_exprR (vr_call x38 hr (va_cons (ve_var 1) va_nil) ⟨(webMany n ts : Nat), by omega, rfl, rfl, rfl⟩ air)
def RX43 (c : Ec) : List Da → Addr → List (Str × V) → Prop := fun as C fs => (∃ z, noCls z = true ∧ as = [.py z] ∧ C = c.CTm ∧ fs = fPart "teams") ∨ ∃ (p : Int) (ts : List PyData), 60 < ts.length ∧ as = [.tms p ts] ∧ C = c.CMy ∧ fs = fMany "points" 60
theorem okX43 {f : Addr} {fd : FuncData} (T : Tx K mg g) (Y : Ex4 P w K mg c) (c29 : Pn P w K mg base 1 "need_teams" [.str "teams"] (spR g 2 R29)) (x29 : Pn P w K mg base 2 "need_teams" [.str "teams"] (spX g 2 (RX29 c))) (F : FunS K "web_of" "web_of" (tp 43) [] f fd) :
    FnOk P w K mg base (L2.CX P w) 3 f fd ["teams"] (spX g 1 (RX43 c)) := by
  refine fx_body F sc43 rfl fun cdv A outer s H E B hB as C fs hr hl h air => ?_
  rcases h with ⟨z, h1, rfl, rfl, rfl⟩ | ⟨p, ts, h1, rfl, rfl, rfl⟩
  · exact hs_exprR (vr_call (dds := [.py (.str "teams")]) x29 hr (va_cons (ve_var 0) va_nil) ⟨z, _, h1, rfl, rfl, rfl⟩ air (by decide) (fun _ _ => .cons (.str _) .nil))
  · obtain ⟨u5, m5⟩ := T.mO
    refine hs_expr (ve_call (dds := [.py (.str "teams")]) c29 hr (va_cons (ve_var 0) va_nil) ⟨p, _, _, rfl, rfl⟩ (by decide) (fun _ _ => .cons (.str _) .nil)) ?_
    exact hs_ifT (vt_is (vt_cmp op_gt (od_b0 (f := fun i j => decide (j < i))) (ve_many T.cl (ve_var 0)) (ve_glob rfl m5)) (decide_eq_true (by omega))) (hs_raise Y.many hr (va_cons ve_str (va_cons (ve_glob rfl m5) va_nil)) air fs_many)
end
end My
/-! L0: an exception that is kept behind the suite. -/
namespace My
open PySem PySem.Spec PyProof.Rows L2 StX
/-- at a: an exception of the class cls, its dict at d -/
def ExH (cls : Value) (d : Option Addr) (a : Addr) : HO := .ext fun h => ∃ (oe : Obj) (vs : Array Value), h.get? a = some oe ∧ Zc cls d oe ∧ oe.data = .fields vs
theorem exH_ok {P : Program} {w : World} {H : Hp} {h : Heap} {a : Addr} {cls : Value} {d : Option Addr} {oe : Obj} {vs : Array Value} (e : h.get? a = some oe) (z : Zc cls d oe) (f : oe.data = .fields vs) : ObjOk P w H h a (ExH cls d a) :=
  ⟨⟨oe, vs, e, z, f⟩, ⟨oe, e⟩, fun h1 h2 z k => by
    obtain ⟨o1, v1, a1, a2, a3⟩ := z
    exact ⟨o1, v1, k _ a1, a2, a3⟩⟩
section
variable {X : Cx} {pins : List (Addr × Obj)} {σ : L2.St} {H : Hp} {s : Shared}
/-- an object that came in between is told of from now on -/
theorem inv_track {a : Addr} {oe : Obj} {o : HO} (I : Inv X pins σ H s) (ha : s.heap.get? a = some oe) (na : H a = none) (h0 : X.s_0.heap.get? a = none) (nL : a ≠ X.env.locals) (hp : ∀ p ∈ X.pn ++ pins, p.1 ≠ a) (hc : ∀ x c, X.env.cells.lookup x = some c → c ≠ a)
    (ob : ObjOk X.prog X.w (upd H a o) s.heap a o) : Inv X pins σ (upd H a o) s := by
  have ne : ∀ {b : Addr} {u : HO}, H b = some u → b ≠ a := fun {b u} e => ne_of_none e na
  have n0 : ∀ {b : Addr} {u : Obj}, X.s_0.heap.get? b = some u → b ≠ a := fun {b u} e z => by
    rw [z, h0] at e
    cases e
  exact {
    ok := I.ok
    os := I.os
    bare := I.bare
    base := {
      keep := I.base.keep
      slot := I.base.slot
      free := fun b u e n x => (upd_ne (n0 e)).trans (I.base.free b u e n x)
      there := I.base.there
      tups := fun b xs e => (upd_ne (ne (I.base.tups b xs e))).trans (I.base.tups b xs e)
      frzs := fun b u xs e => (upd_ne (ne (I.base.frzs b u xs e))).trans (I.base.frzs b u xs e)
      tbls := fun b ps e => by
        obtain ⟨m, q⟩ := I.base.tbls b ps e
        exact ⟨m, (upd_ne (ne q)).trans q⟩ }
    loc := I.loc
    cell := I.cell
    free := (upd_ne (Ne.symm nL)).trans I.free
    freeC := fun y c e => (upd_ne (hc y c e)).trans (I.freeC y c e)
    pin := fun p q => by
      obtain ⟨z1, z2, z3⟩ := I.pin p q
      exact ⟨z1, (upd_ne (hp p q)).trans z2, z3⟩
    hok := fun b u e => by
      by_cases hb : b = a
      · subst hb
        rw [upd_same] at e
        cases e
        exact ob
      · rw [upd_ne hb] at e
        exact (I.hok b u e).stay (fun _ _ _ q => q) (fun c q => (upd_ne (ne q)).trans q) fun c xs q => (upd_ne (ne q)).trans q
    len := I.len }
theorem inv_suite (I : Inv X pins σ H s) (a : Addr) : Inv (X.suite a (X.pn ++ pins)) [] σ H s :=
  ⟨I.ok.suite _ _, I.os, I.bare, I.base, I.loc, I.cell, I.free, I.freeC, fun p q => I.pin p (by simpa using q), I.hok, I.len⟩
theorem inv_unsuite {a : Addr} {pn' : List (Addr × Obj)} (I : Inv (X.suite a (X.pn ++ pins)) pn' σ H s) (ok : X.Ok) : Inv X pins σ H s :=
  ⟨ok, I.os, I.bare, I.base, I.loc, I.cell, I.free, I.freeC, fun p q => I.pin p (List.mem_append_left _ q), I.hok, I.len⟩
end
/-- what the clause wishes of an exception of the body: slot i is its name's -/
def wKp (K : PySem.W.Frag) (c : Value) (i : Nat) (ts : TS) (Wout : WX) (D : Ends) : WX := fun cls d σ H =>
  ∃ b, PySem.W.exmOne K cls c = some b ∧ (b = true → ∀ a, H a = none → ts { nx := fun σ' H' => D.nx (σ'.set i none) H', rt := D.rt, bk := fun σ' H' => D.bk (σ'.set i none) H', ct := fun σ' H' => D.ct (σ'.set i none) H' } (σ.set i (some (.ref a))) (upd H a (ExH cls d a))) ∧
    (b = false → Wout cls d σ H)
section
variable {X : Cx} {x n : Str} {c : Value} {i : Nat} {body suite : List Stmt} {b₀ : Stmt} {np pos pos' : Pos} {tb : WX → TS} {ts : TS} {Wout : WX}
theorem ps_try_keep (hs : X.stack = X.env :: X.outer) (hf : X.env.frame = some X.env.locals) (hex : X.ex = []) (hN : X.N.Nodup) (hi : X.N[i]? = some n) (hln : X.env.kindOf n = some .local) (hc : Names X x c) (tk : Takes X Wout)
    (hb : ∀ (W : WX) (pn : List (Addr × Obj)) (xe : Value → Shared → Prop), Takes (X.tr pn xe) W → PassesOwn (model X.prog X.w) X.A X.env xe → PSs (X.tr pn xe) body (tb W))
    (hsu : ∀ (a : Addr) (pn : List (Addr × Obj)), PSs (X.suite a pn) (b₀ :: suite) ts) :
    PS X (.Try body [.ExceptHandler (some (.Name x np)) (some n) (b₀ :: suite) pos'] [] [] pos) (fun D σ H => tb (wKp X.K c i ts Wout D) D σ H) := by
  refine ⟨fun pins s σ H D I h => wpAny_Try_except ?_⟩
  have ok := I.ok
  have fr1 : X.A.frames = some (X.env :: X.outer) := ok.frames.trans (congrArg some hs)
  refine wpAny_mono ((hb (wKp X.K c i ts Wout D) (X.pn ++ pins) (fun e t => wpAny (model X.prog X.w) X.A (noteFrame e X.env) (fun _ t => wpAny (model X.prog X.w) X.A (setFlight e none) (fun _ t =>
    wpAny (model X.prog X.w) X.A (handleBy e X.env [.ExceptHandler (some (.Name x np)) (some n) (b₀ :: suite) pos']) (SP X pins D) X.xe t) X.xe t) X.xe t) (fun u t caught => ?_) PassesOwn.looking).run [] s σ H D (I.toTry _) h) (fun f t hsp => ?_) (fun _ _ z => z)
  · obtain ⟨a, B, sI, pins', σ1, H1, cls, d, rfl, J0, nb, up, sky, na, os, ag, b, eb, yes, no⟩ := caught
    have J : Inv X pins σ1 H1 sI := J0.ofTry ok
    rw [show (X.tr (X.pn ++ pins) _).stack = X.env :: X.outer from hs] at sky
    refine Sky.land Zc.steady fr1 hf sky fun h2 fly2 up2 => ?_
    have J2 : Inv X pins σ1 H1 { t with heap := h2 } := J.landed nb fly2.1 (up.trans up2) os ag
    obtain ⟨oe2, vs2, he2, hz2, hd2⟩ := fly2.there
    have nfr : a ∉ frs X.stack := fun hm => by
      rw [hs] at hm
      obtain ⟨_, o', e', hnf⟩ := fly2.2.2.1.mem hm
      rw [he2] at e'
      cases e'
      exact hnf _ hd2
    -- it stands nowhere before
    have nI : sI.heap.get? a = none := by
      cases e : sI.heap.get? a with
      | none => rfl
      | some o =>
        have z := nb a o e nfr
        rw [fly2.2.1] at z
        cases z
    have n0 : X.s_0.heap.get? a = none := by
      cases e : X.s_0.heap.get? a with
      | none => rfl
      | some o =>
        obtain ⟨o', z⟩ := J.base.there a o e (by rw [hex]; exact fun q => (nomatch q))
        rw [nI] at z
        cases z
    have nL : a ≠ X.env.locals := fun z => by
      obtain ⟨m, ⟨o, _, _, e, _⟩, _⟩ := J.loc
      rw [← z, nI] at e
      cases e
    have np1 : ∀ p ∈ X.pn ++ pins, p.1 ≠ a := fun p hp z => by
      have e := (J.pin p hp).1
      rw [z, nI] at e
      cases e
    have nc : ∀ y c, X.env.cells.lookup y = some c → c ≠ a := fun y c e z => by
      obtain ⟨v, o, q, _⟩ := J.cell y c e
      rw [z, nI] at q
      cases q
    have S2 := inv_suite J2 a
    refine wpAny_handleBy_cons (codeAny_handlers_test ?_) (by intro q; cases q)
    have ty2 : PySem.W.Looks (model X.prog X.w) h2 (typeOf (.ref a)) cls := fun A Q E s k q => wpAny_typeOf_ref (k _ _ he2) (by rw [hz2.1]; exact q)
    have LM := PySem.W.exm_one (M := model X.prog X.w) (J2.kIn) ty2 eb
    have named : ∀ {Q : Value → Shared → Prop} {E : Value → Shared → Prop}, Q c { t with heap := h2 } → wpAny (model X.prog X.w) (X.A.mark (some (.ref a))) (eval (.Name x np) X.env) Q E { t with heap := h2 } := fun {Q E} q => by
      obtain ⟨g1, g2, g3 | ⟨g3, g4, g5⟩⟩ := hc
      · exact ld_glob (X := X.suite a (X.pn ++ pins)) S2 g1 g3 q g2
      · exact ld_blt (X := X.suite a (X.pn ++ pins)) S2 g1 g3 g4 q g5 g2
    refine named (LM.here ?_)
    cases b with
    | true =>
      refine codeAny_handlers_suite_as (HandSPX.lands_againZ fly2 fun h3 fly3 up3 => ?_)
      have J3 : Inv X pins σ1 H1 { t with heap := h3 } := J.landed nb fly3.1 ((up.trans up2).trans up3) os ag
      obtain ⟨oe3, vs3, he3, hz3, hd3⟩ := fly3.there
      have S3 := inv_suite (inv_track J3 he3 na n0 nL np1 nc (exH_ok he3 hz3 hd3)) a
      refine store_ok (X := X.suite a (X.pn ++ pins)) (v := .ref a) S3 hN hi (.inl hln) rfl (fun t4 S4 => ?_) (.inr hln)
      refine wpAny_mono ((hsu a (X.pn ++ pins)).run [] t4 _ _ _ S4 (yes rfl a na)) (fun f t5 hsp => ?_) (fun _ _ z => z.elim)
      have gone : ∀ {σ6 : L2.St} {H6 : Hp} {Q : Shared → Prop}, Inv (X.suite a (X.pn ++ pins)) [] σ6 H6 t5 → (∀ t6, Inv X pins (σ6.set i none) H6 t6 → Q t6) →
          wpAny (model X.prog X.w) X.A (do bindName X.env n .none; unbindBehindTheSuite X.env n pos') (fun _ t6 => Q t6) X.xe t5 := fun {σ6 H6 Q} S6 q => gone_ok (inv_unsuite S6 ok) hN hi hln q
      cases f with
      | ret u =>
        obtain ⟨v6, σ6, H6, S6, r6, q6⟩ := hsp
        exact gone S6 fun t6 J6 => ⟨_, _, _, J6, r6, q6⟩
      | next =>
        obtain ⟨σ6, H6, S6, q6⟩ := hsp
        exact gone S6 fun t6 J6 => ⟨_, _, J6, q6⟩
      | brk =>
        obtain ⟨σ6, H6, S6, q6⟩ := hsp
        exact gone S6 fun t6 J6 => ⟨_, _, J6, q6⟩
      | cont =>
        obtain ⟨σ6, H6, S6, q6⟩ := hsp
        exact gone S6 fun t6 J6 => ⟨_, _, J6, q6⟩
    | false =>
      show wpAny _ X.A (handleBy (.ref a) X.env []) _ _ _
      refine wpAny_handleBy_nil ?_
      obtain ⟨k1, k2, k3, oe, vs, T, oT, ts', he, hz, hd, h1, hr⟩ := id fly2
      unfold PySem.passOn
      refine wpAny_bind (wpAny_field he hd h1 ?_)
      rw [if_neg (show ¬ ((Value.ref T == Value.none) = true) from by simp)]
      have onward : wpAny (model X.prog X.w) X.A (setFlight (.ref a) X.env.frame) (fun _ t4 => wpAny (model X.prog X.w) X.A (throw (.ref a) : Sem Flow) (SP X pins D) X.xe t4) X.xe { t with heap := h2 } := by
        rw [hf]
        refine HandSPX.setFlight_upZ fly2 fun h4 hh4 up4 => wpAny_throw (tk _ _ ?_)
        exact ⟨a, B, sI, pins, σ1, H1, cls, d, rfl, J, nb, (up.trans up2).trans up4, .inr (.inr (by rw [hs]; exact hh4)), na, os, ag, no rfl⟩
      first
        | exact wpAny_bind (wpAny_pure (wpAny_bind onward))
        | exact wpAny_bind onward
  · cases f with
    | ret u =>
      obtain ⟨v, σ', H', J', r, q⟩ := hsp
      exact ⟨v, σ', H', J'.ofTry ok, r, q⟩
    | next =>
      obtain ⟨σ', H', J', q⟩ := hsp
      exact wpAny_execs_nil ⟨σ', H', J'.ofTry ok, q⟩
    | brk =>
      obtain ⟨σ', H', J', q⟩ := hsp
      exact ⟨σ', H', J'.ofTry ok, q⟩
    | cont =>
      obtain ⟨σ', H', J', q⟩ := hsp
      exact ⟨σ', H', J'.ofTry ok, q⟩
end
end My
/-! L1: what is asked of a kept exception. -/
namespace My
open PySem PySem.Spec PyProof.Rows L2 StX
/-- one fact more: a kept exception, its fields -/
theorem exH_ne {cls : Value} {d : Option Addr} {a : Addr} {u : HO} (h : ∀ φ, u ≠ .ext φ) : ExH cls d a ≠ u := fun z => h _ z.symm
def Wd.exc (W : Wd) (a C dd : Addr) (fs : List (Str × V)) : Wd := W.fac (fun H => H a = some (ExH (.ref C) (some dd) a) ∧ H dd = some (.xd fs)) fun s h => ⟨s _ _ h.1, s _ _ h.2⟩
theorem Wd.Loc.exc {W : Wd} {a C dd : Addr} {fs : List (Str × V)} (h : W.Loc) : (W.exc a C dd fs).Loc := by
  obtain ⟨F, h1, h2⟩ := h
  refine ⟨fun b => F b ∨ b = a ∨ b = dd, fun H m b z => ?_, fun H H' k m => ⟨h2 H H' (fun b z => k b (.inl z)) m.1, ?_, ?_⟩⟩
  · rcases z with z | z | z
    · exact h1 H m.1 b z
    · rw [z]
      exact nn2 m.2.1
    · rw [z]
      exact nn2 m.2.2
  · rw [k a (.inr (.inl rfl))]
    exact m.2.1
  · rw [k dd (.inr (.inr rfl))]
    exact m.2.2
/-- what the top says of an error's class, for looking at its instances -/
structure ErrC (K : PySem.W.Frag) (C : Addr) : Prop where
  cl : (PySem.W.clsIn K C).isSome = true
  ex : ExcC K C
section
variable {X : Cx} {pins : List (Addr × Obj)} {σ : L2.St} {H : Hp} {s : Shared} {a C dd : Addr} {fs : List (Str × V)}
theorem inst_exc (I : Inv X pins σ H s) (ha : H a = some (ExH (.ref C) (some dd) a)) (hd : H dd = some (.xd fs)) : ∃ oe od, PySem.W.InstAt s.heap a oe C (some od) ∧ ∃ mA : Str → Option Value, (∀ f, PySem.W.lookIn f od = some (mA f)) ∧ ∀ f, RelO (fs.lookup f) (mA f) := by
  obtain ⟨⟨oe, vs, e1, e2, e3⟩, _⟩ := (show ObjOk X.prog X.w H s.heap a (.ext _) from I.hok a _ ha)
  obtain ⟨mA, hns, hr⟩ := (show ObjOk X.prog X.w H s.heap dd (.xd fs) from I.hok dd _ hd)
  obtain ⟨od, ho, hl⟩ := lookIn_ns hns
  exact ⟨oe, od, ⟨e1, e2.1, by unfold PySem.W.notCls; rw [e3] <;> rfl, by rw [e2.2]; exact ho⟩, mA, hl, hr⟩
def rIsX (K : PySem.W.Frag) (C : Addr) : List V → Hp → VK → Prop := fun xs H Q => ∃ (a dd : Addr) (fs : List (Str × V)) (c : V) (u : Value) (b : Bool), xs = [.ref a, c] ∧ ClsV c u ∧ H a = some (ExH (.ref C) (some dd) a) ∧ H dd = some (.xd fs) ∧ PySem.W.kitOne K (.ref C) u = some b ∧ Q (.bl b) H
theorem call_isX (T : ErrC X.K C) : CallR X (.builtin "isinstance") (rIsX X.K C) := by
  intro pins s σ H xs us Q I r h
  obtain ⟨a, dd, fs, c, u, b, rfl, k, ha, hd, e, q⟩ := h
  obtain ⟨u1, u2, rfl, r1, r2⟩ := vals2 r
  have e2 := k.eq r2
  subst e2
  obtain rfl : u1 = Value.ref a := r1
  obtain ⟨oe, od, J, _⟩ := inst_exc I ha hd
  exact PySem.W.kia_one (PySem.W.kitx_exc T.cl T.ex.hg T.ex.hk T.ex.hs T.ex.ha T.ex.hn T.ex.ht T.ex.hm) I.kIn J e (fun z => nomatch z) fun tk => ⟨.bl b, H, I.tok tk, rfl, q⟩
end
section
variable {g : Gc} {X : Cx} {W : Wd} {ds : Ds} {e c1 : Expr} {a C D dd : Addr} {fs : List (Str × V)} {k : Bool} {pos p p2 p3 : Pos} {x f : Str} {v : V} {d : Da}
theorem ve_isX {cv : V} {cu : Value} (T : ErrC X.K C) (hm : X.mg "isinstance" = none) (at_ : ∀ H, W.M H → H a = some (ExH (.ref C) (some dd) a) ∧ H dd = some (.xd fs)) (he : VE g X W ds e (.raw (.ref a))) (hc : VE g X W ds c1 (.raw cv)) (hcv : ClsV cv cu) (hk : PySem.W.kitOne X.K (.ref C) cu = some k) (hg : Gl X "isinstance" := by rfl)
    (h1 : starEach [e, c1] X.env = (false, eval e X.env) :: starEach [c1] X.env := by rfl) (h2 : starEach [c1] X.env = (false, eval c1 X.env) :: starEach [] X.env := by rfl) (hpl : (backTo pos (starEach [c1] X.env)).any (·.1) = false := by rfl) :
    VE g X W ds (.Call (.Name "isinstance" p) [e, c1] [] pos) (.py (.bool k)) :=
  PE.imp (pe_callB (call_isX T) hg hm PyProof.Rows.boot_isinstance (va_cons he (va_cons hc va_nil h2) h1) (by decide) (by decide) h1 hpl) fun σ H Q ⟨p, q⟩ => ⟨p, fun vs H2 m e2 dv => by
    cases dv with
    | cons a1 a2 =>
      cases a2 with
      | cons a2 a3 =>
        cases a3
        cases a1
        cases a2
        exact ⟨a, dd, fs, cv, cu, k, rfl, hcv, (at_ H2 m).1, (at_ H2 m).2, hk, q _ H2 m e2 (.bl k)⟩⟩
/-- e.f of a kept exception -/
theorem ve_excF (T : ErrC X.K C) (hno : PySem.W.findIn X.K (.ref C) f = some none) (at_ : ∀ H, W.M H → H a = some (ExH (.ref C) (some dd) a) ∧ H dd = some (.xd fs)) (he : VE g X W ds e (.raw (.ref a))) (hf : fs.lookup f = some v) (hv : ∀ H, W.M H → DV g W.B H v d)
    (hb : attributeBase e f X.env (eval e X.env) = eval e X.env := by rfl) : VE g X W ds (.Attribute e f pos) d := by
  refine ⟨fun pins s σ H Q I ⟨p, q⟩ => attr_of hb (thn (he.run pins s σ H (fun x H1 => x = .ref a ∧ W.M H1 ∧ Ex W.B H H1) I ⟨p, fun v H2 m e dv => ⟨dv, m, e⟩⟩) fun u s1 hh => ?_)⟩
  obtain ⟨x, H1, I1, rx, rfl, m, e⟩ := hh
  obtain rfl : u = Value.ref a := rx
  obtain ⟨oe, od, J, mA, hl, hr⟩ := inst_exc I1 (at_ H1 m).1 (at_ H1 m).2
  obtain ⟨u, hu, ru⟩ := RelO.some_of (v := v) (o := mA f) (by rw [← hf]; exact hr f)
  exact HandSPX.exc_get I1.kIn J T.ex.hg T.ex.hk T.ex.hs (PySem.W.findObj_own T.ex.hd hno rfl (by rw [hl, hu])) (handed_of ru) ⟨v, H1, I1.tok _, ru, q v H1 m e (hv H1 m)⟩
end
end My
/-! P13: what the law hears. -/
namespace My
open PySem PySem.Spec PyProof.Rows L2 StX
/-- what the top says of the errors, for the law's ear -/
structure Hd (K : PySem.W.Frag) (mg : Str → Option Value) (c : Ec) : Prop where
  k_CN_CMy : PySem.W.kitOne K (.ref c.CN) (.ref c.CMy) = some false
  k_CN_CN : PySem.W.kitOne K (.ref c.CN) (.ref c.CN) = some true
  k_CN_CTm : PySem.W.kitOne K (.ref c.CN) (.ref c.CTm) = some false
  k_CN_CWb : PySem.W.kitOne K (.ref c.CN) (.ref c.CWb) = some false
  k_CN_CO : PySem.W.kitOne K (.ref c.CN) (.ref c.CO) = some false
  k_CN_CF : PySem.W.kitOne K (.ref c.CN) (.ref c.CF) = some false
  k_CTm_CMy : PySem.W.kitOne K (.ref c.CTm) (.ref c.CMy) = some false
  k_CTm_CN : PySem.W.kitOne K (.ref c.CTm) (.ref c.CN) = some false
  k_CTm_CTm : PySem.W.kitOne K (.ref c.CTm) (.ref c.CTm) = some true
  k_CTm_CWb : PySem.W.kitOne K (.ref c.CTm) (.ref c.CWb) = some false
  k_CTm_CO : PySem.W.kitOne K (.ref c.CTm) (.ref c.CO) = some false
  k_CTm_CF : PySem.W.kitOne K (.ref c.CTm) (.ref c.CF) = some false
  k_CWb_CMy : PySem.W.kitOne K (.ref c.CWb) (.ref c.CMy) = some false
  k_CWb_CN : PySem.W.kitOne K (.ref c.CWb) (.ref c.CN) = some false
  k_CWb_CTm : PySem.W.kitOne K (.ref c.CWb) (.ref c.CTm) = some false
  k_CWb_CWb : PySem.W.kitOne K (.ref c.CWb) (.ref c.CWb) = some true
  k_CWb_CO : PySem.W.kitOne K (.ref c.CWb) (.ref c.CO) = some false
  k_CWb_CF : PySem.W.kitOne K (.ref c.CWb) (.ref c.CF) = some false
  k_CMy_CMy : PySem.W.kitOne K (.ref c.CMy) (.ref c.CMy) = some true
  x_CN : PySem.W.exmOne K (.ref c.CN) (.ref c.CS) = some true
  e_CN : ErrC K c.CN
  x_CTm : PySem.W.exmOne K (.ref c.CTm) (.ref c.CS) = some true
  e_CTm : ErrC K c.CTm
  x_CWb : PySem.W.exmOne K (.ref c.CWb) (.ref c.CS) = some true
  e_CWb : ErrC K c.CWb
  x_CMy : PySem.W.exmOne K (.ref c.CMy) (.ref c.CS) = some true
  e_CMy : ErrC K c.CMy
  f_CN : PySem.W.findIn K (.ref c.CN) "part" = some none
  f_CTm : PySem.W.findIn K (.ref c.CTm) "part" = some none
  f_CWb : PySem.W.findIn K (.ref c.CWb) "part" = some none
  f_what : PySem.W.findIn K (.ref c.CMy) "what" = some none
  f_most : PySem.W.findIn K (.ref c.CMy) "most" = some none
  g_CS : mg "StairError" = some (.ref c.CS)
  g_CMy : mg "TooMany" = some (.ref c.CMy)
  g_CN : mg "BadNumber" = some (.ref c.CN)
  g_CTm : mg "BadTeams" = some (.ref c.CTm)
  g_CWb : mg "BadWeb" = some (.ref c.CWb)
  g_CO : mg "BadOrder" = some (.ref c.CO)
  g_CF : mg "BadFilling" = some (.ref c.CF)
abbrev N54 : List Str := ["_law_ask", "_law_caught", "error", "_law_words", "_law_found", "_law_word", "_law_is_so"]
theorem sc54 : FnScope N54 ["_law_ask"] (defScope (tp 54)) := ⟨rfl, rfl, rfl, by decide +kernel, rfl, by decide +kernel, by decide +kernel⟩
/-- what is asked raises, in the def's own context Z, entered at H0 -/
def ActR (Z : Cx) (f : Addr) (H0 : Hp) (C : Addr) (fs : List (Str × V)) : Prop := ∀ (Wx : WX) (pn : List (Addr × Obj)) (xe : Value → Shared → Prop) (p1 p2 : Pos), Takes (Z.tr pn xe) Wx →
  PE (Z.tr pn xe) (.Call (.Name "_law_ask" p1) [] [] p2) (fun σ H _ => σ[0]? = some (some (.ref f)) ∧ Same H0 H ∧ ∀ d H', Same H0 H' → H' d = some (.xd fs) → Wx (.ref C) (some d) σ H')
/-- it returns -/
def ActN (Z : Cx) (f : Addr) (H0 : Hp) : Prop := ∀ (Wx : WX) (pn : List (Addr × Obj)) (xe : Value → Shared → Prop) (p1 p2 : Pos), Takes (Z.tr pn xe) Wx →
  PE (Z.tr pn xe) (.Call (.Name "_law_ask" p1) [] [] p2) (fun σ H Q => σ[0]? = some (some (.ref f)) ∧ Same H0 H ∧ ∀ v H', Same H0 H' → Q v H')
section
variable {P : Program} {w : World} {K : PySem.W.Frag} {mg : Str → Option Value} {base : Heap} {g : Gc} {c : Ec} {f : Addr} {cdv : Value} {A : Around} {outer : List Env} {s : Shared} {H0 : Hp} {E : XK} {ga : Addr} {B : Addr → Prop} {hB : ∀ a, B a → H0 a ≠ none} {C : Addr} {fs : List (Str × V)}
/-- data that no heap bears -/
def flatD : Da → Bool
  | .raw _ => true
  | .py .none => true
  | .py (.int _) => true
  | .py (.bool _) => true
  | .py (.str _) => true
  | _ => false
def flatO : Option Da → Bool
  | some d => flatD d
  | none => true
theorem dv_flat {g : Gc} {B B' : Addr → Prop} {H H' : Hp} {v : V} {d : Da} (f : flatD d = true) (h : DV g B H v d) : DV g B' H' v d := by
  cases d with
  | raw u => exact h
  | py z =>
    cases z with
    | none =>
      cases h
      exact .non
    | int i =>
      cases h
      exact .int i
    | bool i =>
      cases h
      exact .bl i
    | str i =>
      cases h
      exact .str i
    | _ => cases f
  | _ => cases f
theorem Sl.flat {g : Gc} {B B' : Addr → Prop} {H H' : Hp} {σ : L2.St} {ds : Ds} (h : Sl g B H σ ds) (f : ds.all flatO = true) : Sl g B' H' σ ds := ⟨h.1, fun i d q => by
  obtain ⟨v, a, b⟩ := h.2 i d q
  exact ⟨v, a, dv_flat (List.all_eq_true.mp f _ (List.mem_of_getElem? q)) b⟩⟩
abbrev Z54 (P : Program) (w : World) (K : PySem.W.Frag) (mg : Str → Option Value) (base : Heap) (ga : Addr) (cdv : Value) (A : Around) (outer : List Env) (s : Shared) (H0 : Hp) (E : XK) : Cx := cxM P w K mg base N54 "_law_heard" (tp 54) ga cdv A outer s H0 E
def exP (g : Gc) (W : Wd) (f : Addr) (C : Addr) (fs : List (Str × V)) (k : Bool) : SH := fun σ H => ∃ a dd, Pre g (W.exc a C dd fs) [some (.raw (.ref f)), some (.raw (.ref a)), if k then some (.raw (.ref a)) else none, none, none, none, none] σ H
/-- the try, where it is raised -/
theorem try54 (Y : Hd K mg c) (hC : PySem.W.exmOne K (.ref C) (.ref c.CS) = some true) (act : ActR (Z54 P w K mg base ga cdv A outer s H0 E) f H0 C fs) {p1 p2 p3 p4 p5 p6 p7 p8 p9 : Pos} {R : V → Hp → Prop}
    (hsw : swapsWith (.Name "error" p5) (some (.Name "_law_caught" p4)) p6.line (Z54 P w K mg base ga cdv A outer s H0 E).env = pure false := by rfl) (hsw2 : swapsWith (.Call (.Name "_law_ask" p1) [] [] p2) none p3.line (Z54 P w K mg base ga cdv A outer s H0 E).env = pure false := by rfl) :
    H1 (Z54 P w K mg base ga cdv A outer s H0 E) (Pre g (Wd.ent B H0 hB) [some (.raw (.ref f)), some (.py .none), none, none, none, none, none]) (.Try [.Expr (.Call (.Name "_law_ask" p1) [] [] p2) p3] [.ExceptHandler (some (.Name "StairError" p7)) (some "error") [.Assign [.Name "_law_caught" p4] (.Name "error" p5) p6] p8] [] [] p9)
      (exP g (Wd.ent B H0 hB) f C fs false) R := by
  have su : ∀ (a : Addr) (pn : List (Addr × Obj)), HS ((Z54 P w K mg base ga cdv A outer s H0 E).suite a pn) (fun σ H => ∃ a dd, Pre g ((Wd.ent B H0 hB).exc a C dd fs) [some (.raw (.ref f)), some (.py .none), some (.raw (.ref a)), none, none, none, none] σ H) [.Assign [.Name "_law_caught" p4] (.Name "error" p5) p6] (exP g (Wd.ent B H0 hB) f C fs true) R := fun a pn =>
    hs_ex fun b => hs_ex fun dd => hs_set 1 sc54.nd (ve_var 2) (hs_nil fun σ H p => ⟨b, dd, p⟩) rfl (Or.inl rfl) hsw
  refine PS.imp (ps_try_keep (X := Z54 P w K mg base ga cdv A outer s H0 E) (i := 2) (c := .ref c.CS) (Wout := fun cls d _ H => E cls d H) (tb := fun W D σ H => σ[0]? = some (some (.ref f)) ∧ Same H0 H ∧ ∀ d H', Same H0 H' → H' d = some (.xd fs) → W (.ref C) (some d) σ H')
    rfl rfl rfl sc54.nd rfl rfl ⟨rfl, by decide, .inl Y.g_CS⟩ (takes_of rfl rfl rfl rfl) (fun W pn xe tk _ => ?_) su) ?_
  · exact pss_one (PS.imp (ps_expr (act W pn xe p1 p2 tk) hsw2) fun D σ H h => h)
  · rintro D σ H ⟨p, n, r⟩
    obtain ⟨v, h1, h2⟩ := p.2.2 0 _ rfl
    have h2 : v = .ref f := h2
    subst h2
    refine ⟨h1, p.1, fun d H' s1 hd => ⟨true, hC, fun _ a na => ⟨⟨a, d, ⟨⟨s1.trans (same_new na), ⟨upd_same, ?_⟩⟩, ?_⟩⟩, fun σ' H2 ⟨b, dd, q⟩ => n _ _ ⟨b, dd, ⟨q.1, ?_⟩⟩, fun v H' q => r v H' q⟩, fun z => absurd z (by decide)⟩⟩
    · rw [upd_ne (ne_of_none hd na)]
      exact hd
    · exact (p.2.flat (B' := B) (H' := upd H' a (ExH (.ref C) (some d) a)) rfl).set (i := 2) (v := .ref a) (d := .raw (.ref a)) rfl
    · have q2 := q.2.forget (i := 2) none
      exact q2
end
end My
/-! P14: what the law hears, to its end. -/
namespace My
open PySem PySem.Spec PyProof.Rows L2 StX
/-- the words' list -/
def wdl (l : List (Str × Bool)) : PyData := .list (l.map fun a => .tuple [.str a.1, .bool a.2])
section
variable {g : Gc} {X : Cx} {W : Wd} {ds : Ds} {elt e : Expr} {ifs : List Expr} {scope : Scope} {x y z : Str} {px p pos p2 p3 p4 : Pos} {kt : Nat} {rest : List Stmt} {N : SH} {R : V → Hp → Prop}
/-- x = [elt for y, z in list if ..] to a plain local -/
theorem hs_setLcP (i j k : Nat) {α : Type} (c1 c2 : α → PyData) (l : List α) (q : α → Bool) (F : α → PyData) (hjk : j ≠ k) (hN : X.N.Nodup) (L : W.Loc) (hl : l.length ≤ sizeLine) (he : VE g X W ds e (.py (.list (l.map fun a => .tuple [c1 a, c2 a]))))
    (hif : ∀ a, a ∈ l → ∀ D acc, InB X scope fun Y => VTs g Y (W.o1 D (.lst acc)) (((wipeD ds [j, k]).set j (some (.py (c1 a)))).set k (some (.py (c2 a)))) ifs (fun b => b = q a))
    (hel : ∀ a, a ∈ l → q a = true → ∀ D acc, InB X scope fun Y => VE g Y (W.o1 D (.lst acc)) (((wipeD ds [j, k]).set j (some (.py (c1 a)))).set k (some (.py (c2 a)))) elt (.py (F a)))
    (h : HS X (Pre g W (ds.set i (some (.py (.list ((l.filter q).map F)))))) rest N R)
    (ok : blkB X.N X.env.scope scope [(y, j), (z, k)] = true := by rfl) (hc : X.calm = true := by rfl) (hx : X.N[i]? = some x := by rfl) (hxl : X.env.scope.names.lookup x = some .local := by rfl) (hyi : X.N[j]? = some y := by rfl) (hzi : X.N[k]? = some z := by rfl)
    (hyl : scope.names.lookup y = some .local ∨ scope.names.lookup y = some .cell := by first | exact Or.inl rfl | exact Or.inr rfl) (hzl : scope.names.lookup z = some .local ∨ scope.names.lookup z = some .cell := by first | exact Or.inl rfl | exact Or.inr rfl)
    (hsw : swapsWith (.ListComp elt [⟨.Tuple [.Name y p2, .Name z p3] kt p4, e, ifs, 0⟩] scope p) (some (.Name x px)) pos.line X.env = pure true := by rfl)
    (hs : ∀ x, foldedSetIterable e X.env x = pure x := by intro _; rfl) : HS X (Pre g W ds) (.Assign [.Name x px] (.ListComp elt [⟨.Tuple [.Name y p2, .Name z p3] kt p4, e, ifs, 0⟩] scope p) pos :: rest) N R := by
  have he2 : VE g X W ds e (.py (.list ((l.map fun a => (c1 a, c2 a)).map pr2))) := ve_is he (by rw [List.map_map]; rfl)
  have gd : ∀ i (h : i < l.length), (l.map fun a => (c1 a, c2 a)).getD i (.none, .none) = (c1 l[i], c2 l[i]) := fun i h => by
    rw [List.getD_eq_getElem?_getD, List.getElem?_map, List.getElem?_eq_getElem h]
    rfl
  refine hs_setLc i (own := [(y, j), (z, k)]) (q := fun i => if h : i < l.length then q l[i] else false) (el := fun i => if h : i < l.length then F l[i] else .none) hN L (by rw [List.length_map]; exact hl) (vi_list2 (K' := X.K) hjk he2) (blk_of ok) (pgI2 hc hN hyi hzi hyl hzl)
    (fun i hi D acc s H C cl fp => by
      rw [List.length_map] at hi
      have z := hif l[i] (List.getElem_mem hi) D acc s H C cl fp
      rw [dif_pos hi]
      show VTs g _ _ (((wipeD ds [j, k]).set j (some (.py ((l.map fun a => (c1 a, c2 a)).getD i (.none, .none)).1))).set k (some (.py ((l.map fun a => (c1 a, c2 a)).getD i (.none, .none)).2))) ifs _
      rw [gd i hi]
      exact z)
    (fun i hi hq D acc s H C cl fp => by
      rw [List.length_map] at hi
      rw [dif_pos hi] at hq
      have z := hel l[i] (List.getElem_mem hi) hq D acc s H C cl fp
      rw [dif_pos hi]
      show VE g _ _ (((wipeD ds [j, k]).set j (some (.py ((l.map fun a => (c1 a, c2 a)).getD i (.none, .none)).1))).set k (some (.py ((l.map fun a => (c1 a, c2 a)).getD i (.none, .none)).2))) elt _
      rw [gd i hi]
      exact z) ?_ hc hx hxl hsw hs
  rw [List.length_map, range_pick l q F _ _ (fun i h => dif_pos h) (fun i h => dif_pos h)]
  exact h
end
section
variable {P : Program} {w : World} {K : PySem.W.Frag} {mg : Str → Option Value} {base : Heap} {g : Gc} {c : Ec} {f : Addr} {cdv : Value} {A : Around} {outer : List Env} {s : Shared} {H0 : Hp} {E : XK} {ga : Addr} {B : Addr → Prop} {hB : ∀ a, B a → H0 a ≠ none} {C : Addr} {k : Nat}
abbrev D54 (f : Addr) : Ds := [some (.raw (.ref f)), none, none, none, none, none, none]
theorem heard_part {b1 b2 b3 : Bool} {wd x : Str} (T : Tx K mg g) (Y : Hd K mg c) (EC : ErrC K C) (hC : PySem.W.exmOne K (.ref C) (.ref c.CS) = some true) (hno : PySem.W.findIn K (.ref C) "part" = some none)
    (k0 : PySem.W.kitOne K (.ref C) (.ref c.CMy) = some false) (k1 : PySem.W.kitOne K (.ref C) (.ref c.CN) = some b1) (k2 : PySem.W.kitOne K (.ref C) (.ref c.CTm) = some b2) (k3 : PySem.W.kitOne K (.ref C) (.ref c.CWb) = some b3) (k4 : PySem.W.kitOne K (.ref C) (.ref c.CO) = some false) (k5 : PySem.W.kitOne K (.ref C) (.ref c.CF) = some false)
    (hw : (([("number", b1), ("teams", b2), ("web", b3), ("order", false), ("filling", false)] : List (Str × Bool)).filter fun a => a.2).map (fun a => PyData.str a.1) = [.str wd])
    (hr : Room k (Z54 P w K mg base ga cdv A outer s H0 E).A) (act : ActR (Z54 P w K mg base ga cdv A outer s H0 E) f H0 C (fPart x)) :
    HS (Z54 P w K mg base ga cdv A outer s H0 E) (Pre g (Wd.ent B H0 hB) (D54 f)) (defBody (tp 54)) (fun _ _ => False) (fun v H' => Same H0 H' ∧ DV g B H' v (.py (.tuple [.str wd, .str x]))) := by
  refine hs_set 1 sc54.nd ve_non ?_
  refine hs_cons (try54 Y hC act) (hs_ex fun a => hs_ex fun dd => ?_)
  have at_ : ∀ H, ((Wd.ent B H0 hB).exc a C dd (fPart x)).M H → H a = some (ExH (.ref C) (some dd) a) ∧ H dd = some (.xd (fPart x)) := fun H m => m.2
  refine hs_ifF (vt_isN (ve_var 1 (d := .raw (.ref a))) fun B H v h => by rw [show v = .ref a from h]; rfl) ?_
  refine hs_ifF (vt_val (ve_isX EC T.isinst at_ (ve_var 1) (ve_cls Y.g_CMy) (.own _) k0)) ?_
  refine hs_set 3 sc54.nd (d := .py (wdl [("number", b1), ("teams", b2), ("web", b3)])) (ve_lst (xs := [.tuple [.str "number", .bool b1], .tuple [.str "teams", .bool b2], .tuple [.str "web", .bool b3]])
    (va_cons (ve_pair ve_str (ve_isX EC T.isinst at_ (ve_var 1) (ve_cls Y.g_CN) (.own _) k1)) (va_cons (ve_pair ve_str (ve_isX EC T.isinst at_ (ve_var 1) (ve_cls Y.g_CTm) (.own _) k2)) (va_cons (ve_pair ve_str (ve_isX EC T.isinst at_ (ve_var 1) (ve_cls Y.g_CWb) (.own _) k3)) va_nil))) (by show 3 ≤ sizeLine; decide)) ?_
  refine hs_set 3 sc54.nd (d := .py (wdl [("number", b1), ("teams", b2), ("web", b3), ("order", false), ("filling", false)])) (ve_op op_cat (od_cat (xs := [.tuple [.str "number", .bool b1], .tuple [.str "teams", .bool b2], .tuple [.str "web", .bool b3]]) (ys := [.tuple [.str "order", .bool false], .tuple [.str "filling", .bool false]]) (by show 5 ≤ sizeLine; decide)) (ve_var 3) (ve_lst (xs := [.tuple [.str "order", .bool false], .tuple [.str "filling", .bool false]])
    (va_cons (ve_pair ve_str (ve_isX EC T.isinst at_ (ve_var 1) (ve_cls Y.g_CO) (.own _) k4)) (va_cons (ve_pair ve_str (ve_isX EC T.isinst at_ (ve_var 1) (ve_cls Y.g_CF) (.own _) k5)) va_nil)))) ?_
  refine hs_setLcP 4 5 6 (fun a : Str × Bool => PyData.str a.1) (fun a => .bool a.2) [("number", b1), ("teams", b2), ("web", b3), ("order", false), ("filling", false)] (fun a => a.2) (fun a => .str a.1) (by decide) sc54.nd loc_ent.exc (by show 5 ≤ sizeLine; decide) (ve_var 3)
    (fun a ha D acc _ _ _ _ _ => vts_one (vt_val (ve_var 6))) (fun a ha hq D acc _ _ _ _ _ => ve_var 5) ?_
  rw [hw]
  refine hs_ret (ve_if (k := true) (vt_cmp (op_eqD (hu64 hr)) (od_eq (sh_int _) (sh_int _) rfl) (ve_lenL T.tlen (ve_var 4)) ve_int) (fun _ => ve_pair (ve_ixL (ve_var 4) ve_int rfl) (ve_excF EC hno at_ (ve_var 1) rfl fun H m => .str x)) fun z => absurd z (by decide)) fun _ _ _ p dv => ⟨p.1.1, dv⟩
theorem heard_many {x : Str} {n : Int} (T : Tx K mg g) (Y : Hd K mg c) (act : ActR (Z54 P w K mg base ga cdv A outer s H0 E) f H0 c.CMy (fMany x n)) :
    HS (Z54 P w K mg base ga cdv A outer s H0 E) (Pre g (Wd.ent B H0 hB) (D54 f)) (defBody (tp 54)) (fun _ _ => False) (fun v H' => Same H0 H' ∧ DV g B H' v (.py (.tuple [.str "many", .str x, .int n]))) := by
  refine hs_set 1 sc54.nd ve_non ?_
  refine hs_cons (try54 Y Y.x_CMy act) (hs_ex fun a => hs_ex fun dd => ?_)
  have at_ : ∀ H, ((Wd.ent B H0 hB).exc a c.CMy dd (fMany x n)).M H → H a = some (ExH (.ref c.CMy) (some dd) a) ∧ H dd = some (.xd (fMany x n)) := fun H m => m.2
  refine hs_ifF (vt_isN (ve_var 1 (d := .raw (.ref a))) fun B H v h => by rw [show v = .ref a from h]; rfl) ?_
  exact hs_ifT (vt_val (ve_isX Y.e_CMy T.isinst at_ (ve_var 1) (ve_cls Y.g_CMy) (.own _) Y.k_CMy_CMy)) (hs_ret (ve_tup (xs := [.str "many", .str x, .int n]) (va_cons ve_str (va_cons (ve_excF Y.e_CMy Y.f_what at_ (ve_var 1) rfl fun H m => .str x) (va_cons (ve_excF Y.e_CMy Y.f_most at_ (ve_var 1) rfl fun H m => .int n) va_nil))) (by show 3 ≤ sizeLine; decide)) fun _ _ _ p dv => ⟨p.1.1, dv⟩)
/-- the try, where it returns -/
theorem tryN54 (Y : Hd K mg c) (act : ActN (Z54 P w K mg base ga cdv A outer s H0 E) f H0) {p1 p2 p3 p4 p5 p6 p7 p8 p9 : Pos} {R : V → Hp → Prop}
    (hsw : swapsWith (.Name "error" p5) (some (.Name "_law_caught" p4)) p6.line (Z54 P w K mg base ga cdv A outer s H0 E).env = pure false := by rfl) (hsw2 : swapsWith (.Call (.Name "_law_ask" p1) [] [] p2) none p3.line (Z54 P w K mg base ga cdv A outer s H0 E).env = pure false := by rfl) :
    H1 (Z54 P w K mg base ga cdv A outer s H0 E) (Pre g (Wd.ent B H0 hB) [some (.raw (.ref f)), some (.py .none), none, none, none, none, none]) (.Try [.Expr (.Call (.Name "_law_ask" p1) [] [] p2) p3] [.ExceptHandler (some (.Name "StairError" p7)) (some "error") [.Assign [.Name "_law_caught" p4] (.Name "error" p5) p6] p8] [] [] p9)
      (Pre g (Wd.ent B H0 hB) [some (.raw (.ref f)), some (.py .none), none, none, none, none, none]) R := by
  have su : ∀ (a : Addr) (pn : List (Addr × Obj)), HS ((Z54 P w K mg base ga cdv A outer s H0 E).suite a pn) (fun σ H => ∃ b, Pre g (Wd.ent B H0 hB) [some (.raw (.ref f)), some (.py .none), some (.raw (.ref b)), none, none, none, none] σ H) [.Assign [.Name "_law_caught" p4] (.Name "error" p5) p6] (fun _ _ => True) R := fun a pn =>
    hs_ex fun b => hs_set 1 sc54.nd (ve_var 2) (hs_nil fun σ H p => trivial) rfl (Or.inl rfl) hsw
  refine PS.imp (ps_try_keep (X := Z54 P w K mg base ga cdv A outer s H0 E) (i := 2) (c := .ref c.CS) (Wout := fun cls d _ H => E cls d H) (tb := fun W D σ H => σ[0]? = some (some (.ref f)) ∧ Same H0 H ∧ ∀ H', Same H0 H' → D.nx σ H')
    rfl rfl rfl sc54.nd rfl rfl ⟨rfl, by decide, .inl Y.g_CS⟩ (takes_of rfl rfl rfl rfl) (fun W pn xe tk _ => ?_) su) ?_
  · exact pss_one (PS.imp (ps_expr (act W pn xe p1 p2 tk) hsw2) fun D σ H h => ⟨h.1, h.2.1, fun v H' s => h.2.2 H' s⟩)
  · rintro D σ H ⟨p, n, r⟩
    obtain ⟨v, h1, h2⟩ := p.2.2 0 _ rfl
    have h2 : v = .ref f := h2
    subst h2
    exact ⟨h1, p.1, fun H' s1 => n σ H' ⟨s1, p.2.flat rfl⟩⟩
theorem heard_none (Y : Hd K mg c) (act : ActN (Z54 P w K mg base ga cdv A outer s H0 E) f H0) :
    HS (Z54 P w K mg base ga cdv A outer s H0 E) (Pre g (Wd.ent B H0 hB) (D54 f)) (defBody (tp 54)) (fun _ _ => False) (fun v H' => Same H0 H' ∧ DV g B H' v (.py .none)) := by
  refine hs_set 1 sc54.nd ve_non ?_
  refine hs_cons (tryN54 Y act) ?_
  exact hs_ifT (vt_isN (ve_var 1 (d := .py .none)) fun B H v h => by cases h; rfl) (hs_ret ve_non fun _ _ _ p dv => ⟨p.1, dv⟩)
end
end My
/-! La: lambdas are made, with defaults too. -/
namespace My
open PySem PySem.Spec PyProof.Rows PySem.W PySem.Calls
/-- a lambda's function data, its object -/
abbrev lamFd (qual : Str) (params : Arguments) (body : Expr) (scope : Scope) (cl : List (Str × Addr)) (dV pm cdv ct : Value) : FuncData :=
  { name := "<lambda>", qualname := qual, params := params, body := .expr body, scope := scope, globals := mainGlobals, closure := cl, defaults := dV, kwdefaults := .none, doc := .none, pyModule := pm, annotations := none, code := cdv, closureTuple := ct, builtins := builtinsNs }
abbrev lamOb (qual : Str) (params : Arguments) (body : Expr) (scope : Scope) (cl : List (Str × Addr)) (dV pm cdv ct : Value) : Obj := { cls := .type "function", data := .func (lamFd qual params body scope cl dV pm cdv ct) }
section
variable {M : Model} {A : Around} {E : Value → Shared → Prop} {s : Shared} {qual : Str} {params : Arguments} {body : Expr} {scope : Scope} {env : Env} {c P : Addr} {ps : Array Value} {pos : Pos} {fl : Nat} {mg : Str → Option Value} {clos : List (Str × Addr)} {dV : Value} {Q : Value → Shared → Prop}
/-- the closure's tuple -/
theorem clo_tup {β : Type} {xs : List Value} {jp : Value → Sem β} {R : β → Shared → Prop} (h : ∀ (ctv : Value) (h' : Heap), (∀ b o, s.heap.get? b = some o → h'.get? b = some o) → s.heap.objs.size ≤ h'.objs.size → wpAny M A (jp ctv) R E { s with heap := h' }) :
    wpAny M A (if clos.isEmpty = true then (do let t ← pure .none; jp t) else (do let t ← newTextTuple xs; jp t)) R E s := by
  by_cases e : clos.isEmpty = true
  · rw [if_pos e]
    exact wpAny_bind (wpAny_pure (h _ s.heap (fun _ _ z => z) (Nat.le_refl _)))
  · rw [if_neg e]
    exact wpAny_bind (wpAny_newTextTuple (h _ _ (fun _ _ z => Heap.get?_push_of_some _ z) (by rw [Heap.size_push]; exact Nat.le_succ _)))
/-- the function object is laid: its code object new, or found in the table -/
theorem lam_tail (hcl : closureFor scope env = pure clos) (e0 : env.globals = mainGlobals) (hg : s.heap.Ns mainGlobals mg) (hcode : env.code = .ref c) (C : CodeHd s.heap c P) (hP : s.heap.get? P = some (tabObj ps)) (ht : TriplesOk ps.toList) (hgP : mainGlobals ≠ P) (hb : s.heap.BuiltinsAt mg P)
    (hnew : codeAmong pos ps.toList = none → ∀ (c' : Addr) (ctv : Value) (h' : Heap) (tk : Tok), Heap.ExtBut P s.heap h' → s.heap.objs.size ≤ c' → c' < h'.objs.size → h'.CodeRec (.ref c') qual → h'.get? P = some (tabObj (ps ++ #[rawInt pos.line, rawInt pos.col, .ref c'])) →
      Q (.ref h'.objs.size) { s with heap := h'.push (lamOb qual params body scope clos dV ((mg "__name__").getD .none) (.ref c') ctv), toks := tk })
    (hhit : ∀ cv, codeAmong pos ps.toList = some cv → ∀ (ctv : Value) (h' : Heap) (tk : Tok), (∀ b o, s.heap.get? b = some o → h'.get? b = some o) → s.heap.objs.size ≤ h'.objs.size →
      Q (.ref h'.objs.size) { s with heap := h'.push (lamOb qual params body scope clos dV ((mg "__name__").getD .none) cv ctv), toks := tk }) :
    wpAny M A (makeTail "<lambda>" qual params (.expr body) scope env dV .none none pos fl) Q E s := by
  obtain ⟨bm, ob, q1, q2, _, q3, q4, q5, q6, q7⟩ := hb
  unfold makeTail
  rw [hcl, e0]
  refine wpAny_bind (wpAny_pure (clo_tup fun ctv h1 k1 z1 => ?_))
  have hg1 : h1.Ns mainGlobals mg := hg.keeps k1
  have C1 := C.keeps k1
  cases hf : codeAmong pos ps.toList with
  | none =>
    refine wpAny_bind (wpAny_functionCodeX hcode (C1.code (k1 _ _ hP) ht) (C1.tab (k1 _ _ hP)) hf fun c' h2 tk hx hge hlt _ hrec htb _ => ?_)
    have hg2 := hg1.extBut hx hgP
    refine wpAny_bind (wpAny_builtinsFor hg2 q1 q2 (hx _ _ q3 (k1 _ _ q4)) q5 q6 q7 (wpAny_bind (wpAny_nsGet hg2 ?_)))
    exact wpAny_bind (wpAny_pure (wpAny_newObj_type (hnew hf c' ctv h2 tk (fun b o hb e => hx b o hb (k1 b o e)) (Nat.le_trans z1 hge) hlt hrec htb.2) (by size_fits)))
  | some cv =>
    refine wpAny_bind (wpAny_functionCode_hit hcode (C1.code (k1 _ _ hP) ht) hf ?_)
    refine wpAny_bind (wpAny_builtinsFor hg1 q1 q2 (k1 _ _ q4) q5 q6 q7 (wpAny_bind (wpAny_nsGet hg1 ?_)))
    exact wpAny_bind (wpAny_pure (wpAny_newObj_type (hhit cv hf ctv h1 _ k1 z1) (by size_fits)))
end
end My
namespace My
open PySem PySem.Spec PyProof.Rows L2 StX LamX
section
variable {X : Cx} {pins : List (Addr × Obj)} {σ : L2.St} {H : Hp} {s : Shared}
/-- what stands of a lambda: its object, its code's name -/
structure LamAt (X : Cx) (H : Hp) (h : Heap) (params : Arguments) (body : Expr) (scope : Scope) (dV : Value) (f c' : Addr) : Prop where
  ob : ∃ pm ctv, h.get? f = some (lamOb (X.env.qual ++ "<lambda>") params body scope (cloFrom X.env.cells scope.names []) dV pm (.ref c') ctv)
  nf : H f = none
  fr : f ∉ frs X.stack
  co : H c' = some (CodeO c' (X.env.qual ++ "<lambda>"))
theorem lam_core {c P : Addr} {params : Arguments} {body : Expr} {scope : Scope} {pos : Pos} {dV : Value} {E : Value → Shared → Prop} {Q : Value → Shared → Prop} (I : Inv X pins σ H s) (TB : TabB X.base X.mg c P) (hcode : X.env.code = .ref c) (hT : TabS H P (X.env.qual ++ "<lambda>"))
    (hfree : ∀ y ∈ scope.names, y.2 = .free → ∃ c, X.env.cells.lookup y.1 = some c)
    (h : ∀ f c' H1 s', Inv X pins σ H1 s' → (∀ b o, b ≠ P → H b = some o → H1 b = some o) → TabS H1 P (X.env.qual ++ "<lambda>") → LamAt X H1 s'.heap params body scope dV f c' → Q (.ref f) s') :
    wpAny (model X.prog X.w) X.A (makeTail "<lambda>" (X.env.qual ++ "<lambda>") params (.expr body) scope X.env dV .none none pos pos.line) Q E s := by
  obtain ⟨ps, hP, ht, ha⟩ := hT
  have hP' : s.heap.get? P = some { cls := .none, data := .fields ps } := I.hok P _ hP
  have nofr : ∀ f, s.heap.objs.size ≤ f → f ∉ frs X.stack := fun f hf z => by
    rcases List.mem_cons.mp (I.stkSub _ z) with e | e
    · have lt := I.lt
      rw [← e] at lt
      exact absurd (Nat.lt_of_lt_of_le lt hf) (Nat.lt_irrefl _)
    · exact I.nofs hf e
  refine lam_tail (mg := X.mg) (ps := ps) (closure_ok hfree) I.ok.glob (I.mod.glob.keeps I.bk) hcode (TB.code.keeps I.bk) hP' ht TB.gP (TB.bm.keeps I.bk) (fun hc c' ctv h' tk hx hge hlt hrec htb => ?_) fun cv hc ctv h' tk hx hsz => ?_
  · obtain ⟨c2, oc, vs, t, e2, hoc, hd, hv⟩ := hrec
    cases e2
    have nC : H c' = none := I.hok.fresh hge
    have hsz : s.heap.objs.size ≤ h'.objs.size := Nat.le_trans hge (Nat.le_of_lt hlt)
    have keep : ∀ b o, b ≠ P → H b = some o → upd (upd H P (.tbl (ps ++ #[rawInt pos.line, rawInt pos.col, .ref c']))) c' (CodeO c' (X.env.qual ++ "<lambda>")) b = some o := fun b o hb e => by
      rw [upd_ne (ne_of_none e nC), upd_ne hb]
      exact e
    refine h h'.objs.size c' _ _ (inv_table (t' := tk) (more := #[rawInt pos.line, rawInt pos.col, .ref c']) (h' := h'.push (lamOb (X.env.qual ++ "<lambda>") params body scope (cloFrom X.env.cells scope.names []) dV ((X.mg "__name__").getD .none) (.ref c') ctv)) I hP
      (fun b o hb e => Heap.get?_push_of_some _ (hx b o hb e)) (Heap.get?_push_of_some _ htb) hge ⟨oc, vs, t, Heap.get?_push_of_some _ hoc, hd, hv⟩) keep ?_ ⟨⟨_, ctv, Heap.get?_push_size _ rfl⟩, ?_, nofr _ hsz, upd_same⟩
    · have eL : (ps ++ #[rawInt pos.line, rawInt pos.col, .ref c']).toList = ps.toList ++ [rawInt pos.line, rawInt pos.col, .ref c'] := by simp
      refine ⟨_, by rw [upd_ne (ne_of_none hP nC), upd_same], by rw [eL]; exact PySem.TriplesOk_snoc _ _ _ _ ht, fun p' cv hcv => ?_⟩
      rw [eL] at hcv
      rcases among_app _ ht hcv with z | z
      · obtain ⟨c0, e1, e2⟩ := ha p' cv z
        exact ⟨c0, e1, keep _ _ (fun q => by
          rw [q, hP] at e2
          exact codeO_ne ps (Option.some.inj e2).symm) e2⟩
      · exact ⟨c', z, upd_same⟩
    · have n1 : h'.objs.size ≠ c' := Nat.ne_of_gt hlt
      have n2 : h'.objs.size ≠ P := Nat.ne_of_gt (Nat.lt_of_lt_of_le (Heap.lt_size hP') hsz)
      rw [upd_ne n1, upd_ne n2]
      exact I.hok.fresh hsz
  · obtain ⟨c', rfl, hco⟩ := ha pos cv hc
    exact h h'.objs.size c' H _ (I.kept (t' := tk) fun b o e => Heap.get?_push_of_some _ (hx b o e)) (fun _ _ _ e => e) ⟨ps, hP, ht, ha⟩ ⟨⟨_, ctv, Heap.get?_push_size _ rfl⟩, I.hok.fresh hsz, nofr _ hsz, hco⟩
end
/-- a lambda's defaults: none, or the one 0 -/
def DfAt (one : Bool) (dV : Value) (H : Hp) : Prop := if one = true then ∃ T, dV = .ref T ∧ H T = some (.tup [.int 0]) else dV = .none
def DfOf (one : Bool) (params : Arguments) (env : Env) : Prop := ∃ j p, defaultsOf params env = (if one = true then [eval (.Constant (.int 0) j p) env] else [], []) ∧ params.kwonlyargs = []
section
variable {X : Cx} {pins : List (Addr × Obj)} {σ : L2.St} {H : Hp} {s : Shared}
theorem lam_make3 {one : Bool} {c P : Addr} {params : Arguments} {body : Expr} {scope : Scope} {pos : Pos} {E : Value → Shared → Prop} {Q : Value → Shared → Prop} (I : Inv X pins σ H s) (TB : TabB X.base X.mg c P) (hcode : X.env.code = .ref c) (hT : TabS H P (X.env.qual ++ "<lambda>")) (hD : DfOf one params X.env)
    (hfree : ∀ y ∈ scope.names, y.2 = .free → ∃ c, X.env.cells.lookup y.1 = some c)
    (h : ∀ f c' dV H1 s', Inv X pins σ H1 s' → (∀ b o, b ≠ P → H b = some o → H1 b = some o) → TabS H1 P (X.env.qual ++ "<lambda>") → LamAt X H1 s'.heap params body scope dV f c' → DfAt one dV H1 → Q (.ref f) s') :
    wpAny (model X.prog X.w) X.A (eval (.Lambda params body scope pos) X.env) Q E s := by
  obtain ⟨j, p, hd, hk⟩ := hD
  rw [PySem.arm_eval_Lambda, hd]
  cases one with
  | false =>
    refine wpAny_bind (wpAny_pure (wpAny_bind (wpAny_holding (wpAny_pure ?_))))
    rw [PySem.makeFunction_eq]
    simp only [hk, List.zip_nil_left, List.filterMap_nil, List.isEmpty_nil, if_true, pure_bind]
    exact lam_core I TB hcode hT hfree fun f c' H1 s' I1 k1 t1 L1 => h f c' _ H1 s' I1 k1 t1 L1 rfl
  | true =>
    refine wpAny_bind ?_
    show wpAny _ _ (do let v ← eval (.Constant (.int 0) j p) X.env; return v :: (← holding [v] (evalAll []))) _ _ _
    refine wpAny_bind (wpAny_Constant_int (wpAny_bind (wpAny_holding (wpAny_pure (wpAny_pure (wpAny_bind (wpAny_holding (wpAny_pure ?_))))))))
    rw [PySem.makeFunction_eq]
    simp only [hk, List.zip_nil_left, List.filterMap_nil, List.isEmpty_nil, List.isEmpty_cons, Bool.false_eq_true, if_true, if_false, pure_bind]
    refine wpAny_bind (wpAny_newTextTuple ?_)
    have I0 := I.tok (s.toks + 1)
    have nT : H s.heap.objs.size = none := I.hok.fresh (Nat.le_refl _)
    have I1 : Inv X pins σ (upd H s.heap.objs.size (.tup [.int 0])) _ := I0.laid (a := s.heap.objs.size) (o := .tup [.int 0]) (h' := s.heap.push { cls := .type "tuple", data := .seq [Value.int 0 s.toks].toArray }) (t' := s.toks + 1) (fun b o e => Heap.get?_push_of_some _ e) (Nat.le_refl _)
      ⟨by show 1 ≤ sizeLine; decide, [.int 0 s.toks], .cons ⟨_, rfl⟩ .nil, IsTup.new _ _⟩
    have k0 : ∀ b o, H b = some o → upd H s.heap.objs.size (.tup [.int 0]) b = some o := fun b o e => (upd_ne (ne_of_none e nT)).trans e
    refine lam_core I1 TB hcode (hT.ext k0) hfree fun f c' H1 s' I2 k1 t1 L1 => h f c' _ H1 s' I2 (fun b o hb e => k1 b o hb (k0 b o e)) t1 L1 ⟨_, rfl, k1 _ _ (fun z => ?_) upd_same⟩
    obtain ⟨ps, hP, _⟩ := hT
    rw [z] at nT
    rw [hP] at nT
    cases nT
end
end My
/-! Lb: a lambda is called in the def that got it. -/
namespace My
open PySem PySem.Spec PyProof.Rows L2 StX LamX
/-- a lambda's names: captured ones, globals, and its own, which the maker's names don't tell -/
structure LamD (N : List Str) (sc scope : Scope) : Prop where
  kind : scope.kind = .function
  co : scope.isCoroutine = false
  gen : scope.isGenerator = false
  nc : ∀ y ∈ scope.names, y.2 ≠ .cell
  own : ∀ y ∈ scope.names, y.2 = .local → y.1 ∉ N
  free : ∀ y ∈ scope.names, y.2 = .free → sc.names.lookup y.1 = some .cell ∨ sc.names.lookup y.1 = some .free
def lamDB (N : List Str) (sc scope : Scope) : Bool :=
  decide (scope.kind = .function) && !scope.isCoroutine && !scope.isGenerator && scope.names.all fun y => !decide (y.2 = .cell) && (!decide (y.2 = .local) || decide (y.1 ∉ N)) && (!decide (y.2 = .free) || decide (sc.names.lookup y.1 = some .cell) || decide (sc.names.lookup y.1 = some .free))
theorem lamD_by {N : List Str} {sc scope : Scope} (h : lamDB N sc scope = true) : LamD N sc scope := by
  unfold lamDB at h
  simp only [Bool.and_eq_true, Bool.or_eq_true, Bool.not_eq_true', decide_eq_true_eq, decide_eq_false_iff_not, List.all_eq_true] at h
  obtain ⟨⟨⟨h1, h2⟩, h3⟩, h4⟩ := h
  refine ⟨h1, h2, h3, fun y hy => (h4 y hy).1.1, fun y hy e => ?_, fun y hy e => ?_⟩
  · rcases (h4 y hy).1.2 with z | z
    · exact absurd e z
    · exact z
  · rcases (h4 y hy).2 with (z | z) | z
    · exact absurd e z
    · exact .inl z
    · exact .inr z
section
variable {X : Cx} {pins : List (Addr × Obj)} {σ : L2.St} {H HZ : Hp} {s s1 : Shared} {scope : Scope}
theorem LamD.has (L : LamD X.N X.env.scope scope) (ok : X.Ok) : ∀ y ∈ scope.names, y.2 = .free → ∃ c, X.env.cells.lookup y.1 = some c := fun y hy e => ok.has _ (L.free y hy e)
theorem lam_start3 {A : Around} {outer : List Env} {E : XK} {f c' : Addr} {h₁ : Heap} {tk : Nat} {m : Str → Option Value} (I : Inv X pins σ H s) (L : LamD X.N X.env.scope scope) (e0 : Env0 X.prog X.w X.K X.mg X.base A outer s1 HZ) (hd : A.handled = none)
    (un : Un (frs X.stack) [] H HZ s.heap s1.heap) (hns : h₁.Ns s1.heap.objs.size m) (kp : ∀ b o, s1.heap.get? b = some o → h₁.get? b = some o) : Inv (lamCx X A outer s1 HZ E scope f c') [] σ HZ { s1 with heap := h₁, toks := tk } := by
  have hfree := L.has I.ok
  have sub : ∀ {y c}, (cloFrom X.env.cells scope.names []).lookup y = some c → X.env.cells.lookup y = some c := fun {y c} e => by
    rcases cloFrom_mem (PySem.mem_of_lookup e) with hm | ⟨h1, h2⟩
    · cases hm
    · obtain ⟨c1, hc⟩ := hfree _ h1 rfl
      have hc : X.env.cells.lookup y = some c1 := hc
      rw [hc, show c = c1 by rw [h2, hc] <;> rfl]
  have got : ∀ {y}, scope.names.lookup y = some .free → ∃ c, (cloFrom X.env.cells scope.names []).lookup y = some c := fun {y} hl => mem_lookup (cloFrom_has (cells := X.env.cells) (acc := []) (show (y, NameKind.free) ∈ scope.names from PySem.mem_of_lookup hl))
  have cellK : ∀ {c : Addr} {v : Option Value}, H c = none → s.heap.IsCell c v → h₁.IsCell c v := fun {c v} n ⟨o, ho, hd⟩ => by
    obtain ⟨sl, q⟩ := un.any ho n (by simp)
    exact ⟨_, kp _ _ q, hd⟩
  have none_ : ∀ b : Addr, b ∉ (lamCx X A outer s1 HZ E scope f c').ex := fun b z => (nomatch (show b ∈ ([] : List Addr) from z))
  refine ⟨⟨e0.mod, L.kind, rfl, rfl, Nat.le_refl _, fun y z c e1 e2 => I.ok.inj y z c (sub e1) (sub e2), fun y hy => ?_, fun y c z _ => ?_, fun _ => hd, Around.frames_deeper e0.frames, .inr ⟨rfl, rfl⟩, fun b z => absurd z (none_ b), e0.bs, e0.bsz, fun b _ _ => none_ b,
      fun b z => absurd z (none_ b), e0.funs, e0.frf⟩,
    rfl, e0.bare, Un.kept kp, ⟨_, hns, fun i y v e1 e2 e3 => ?_⟩, fun y c e => ?_, e0.hok.fresh (Nat.le_refl _), fun y c e => ?_, fun q hq => (nomatch (show q ∈ ([] : List (Addr × Obj)) ++ [] from hq)), e0.hok.kept kp, I.len⟩
  · rcases (show scope.names.lookup y = some .cell ∨ scope.names.lookup y = some .free from hy) with hy | hy
    · exact absurd rfl (L.nc _ (PySem.mem_of_lookup hy))
    · exact got hy
  · exact absurd (show false = true from z) (by decide)
  · rcases (show Vis scope y from e3) with k | k | k
    · exact absurd (List.mem_of_getElem? e1) (L.own _ (PySem.mem_of_lookup k) rfl)
    · exact absurd rfl (L.nc _ (PySem.mem_of_lookup k))
    · obtain ⟨m0, hn, hl⟩ := I.loc
      obtain ⟨w', r, q⟩ := hl i y v e1 e2 (.inr (L.free _ (PySem.mem_of_lookup k) rfl))
      obtain ⟨c2, h2⟩ := got k
      refine ⟨w', r, .inr ⟨.inr k, c2, h2, ?_⟩⟩
      have c1 := sub h2
      rcases q with ⟨k', _⟩ | ⟨_, c3, e', z⟩
      · have k' : X.env.scope.names.lookup y = some .local := k'
        rcases L.free _ (PySem.mem_of_lookup k) rfl with k2 | k2
        · rw [show X.env.scope.names.lookup y = _ from k2] at k'
          cases k'
        · rw [show X.env.scope.names.lookup y = _ from k2] at k'
          cases k'
      · rw [c1] at e'
        cases e'
        exact cellK (I.freeC y _ c1) z
  · obtain ⟨w', z⟩ := I.cell y c (sub e)
    exact ⟨w', cellK (I.freeC y c (sub e)) z⟩
  · obtain ⟨v, o, ho, hd⟩ := I.cell y c (sub e)
    exact un.free c o ho (I.freeC y c (sub e)) (by simp)
/-- what a call without arguments binds -/
def BindL (one : Bool) (params : Arguments) (body : Expr) (scope : Scope) (a : Str) : Prop :=
  if one = true then scope.names.lookup a = some .local ∧ ∀ (q : Str) (cl : List (Str × Addr)) (T : Addr) (pm cv ctv : Value), ∃ k, bindArgs (lamFd q params body scope cl (.ref T) pm cv ctv) ⟨[], []⟩ = seqItems? (.ref T) >>= k ∧ ∀ v, k (some #[v]) = pure [(a, v)]
  else ∀ (q : Str) (cl : List (Str × Addr)) (pm cv ctv : Value), bindArgs (lamFd q params body scope cl .none pm cv ctv) ⟨[], []⟩ = pure []
theorem bind_lam {one : Bool} {params : Arguments} {body : Expr} {a q : Str} {cl : List (Str × Addr)} {dV pm cv ctv : Value} (b : BindL one params body scope a) (hok : HOk X.prog X.w HZ s.heap) (d : DfAt one dV HZ) :
    ∃ binds, BindsTo s (lamFd q params body scope cl dV pm cv ctv) ⟨[], []⟩ binds ∧ ∀ y ∈ binds, scope.names.lookup y.1 = some .local := by
  cases one with
  | false =>
    have d : dV = .none := d
    subst d
    exact ⟨[], .of_eq (b q cl pm cv ctv), fun y hy => (nomatch hy)⟩
  | true =>
    obtain ⟨T, rfl, hT⟩ := d
    obtain ⟨ha, b⟩ := b
    obtain ⟨k, e1, e2⟩ := b q cl T pm cv ctv
    obtain ⟨_, its, rv, o, z1, z2, n, z3⟩ := (show ObjOk X.prog X.w HZ s.heap T (.tup [.int 0]) from hok T _ hT)
    cases rv with
    | @cons _ v _ _ r1 r2 =>
      cases r2
      refine ⟨[(a, v)], fun M A Q E h => ?_, fun y hy => by rw [List.mem_singleton.mp hy]; exact ha⟩
      rw [e1]
      refine wpAny_bind (wpAny_seqItems z1 z3 ?_)
      rw [e2]
      exact wpAny_pure h
end
section
variable {X : Cx} {pins : List (Addr × Obj)} {σ : L2.St} {H : Hp} {s : Shared} {scope : Scope}
/-- the lambda is called by its name in the def that got it -/
theorem act_lam {one : Bool} {params : Arguments} {body : Expr} {a : Str} {dV cdg : Value} {f c' ga : Addr} {k : Nat} {E0 : XK} {tb : XK → TE} (I : Inv X pins σ H s) (L : LamD X.N X.env.scope scope) (LA : LamAt X H s.heap params body scope dV f c') (hD : DfAt one dV H) (hB : BindL one params body scope a) (hr : Room (k + 1) (X.A.deeper (envOfC "_law_heard" (defScope (tp 54)) s.heap.objs.size ga cdg)))
    (hbody : ∀ (A : Around) (outer : List Env) (s : Shared) (H : Hp) (E : XK), Room k (A.deeper (lamEnv X scope s.heap.objs.size f c')) → PE (lamCx X A outer s H E scope f c') body (tb E))
    (Wx : WX) (pn : List (Addr × Obj)) (xe : Value → Shared → Prop) (p1 p2 : Pos) (tk : Takes ((Z54 X.prog X.w X.K X.mg X.base ga cdg X.A X.stack s H E0).tr pn xe) Wx) :
    PE ((Z54 X.prog X.w X.K X.mg X.base ga cdg X.A X.stack s H E0).tr pn xe) (.Call (.Name "_law_ask" p1) [] [] p2) (fun σZ HZ Q => σZ[0]? = some (some (.ref f)) ∧ Same H HZ ∧ tb (fun cls d H' => Wx cls d σZ H') σ HZ Q) := by
  refine ⟨fun pinsZ sZ σZ HZ Q IZ ⟨hs, hsm, ht⟩ => ?_⟩
  refine wpAny_Call_Name_kw (thn ((pe_var (pos := p1) (i := 0) rfl (.inl rfl) (by decide) (by decide)).run pinsZ sZ σZ HZ (fun v H1 => v = .ref f ∧ H1 = HZ) IZ ⟨.ref f, hs, rfl, rfl⟩) fun u s1 ⟨v, H1, I1, r1, ev, eH⟩ => ?_)
  subst ev
  rw [eH] at I1
  obtain rfl : u = Value.ref f := r1
  obtain ⟨pm, ctv, hf⟩ := LA.ob
  have of1 := I1.base.keep f _ hf LA.nf LA.fr (fun z => (nomatch (show f ∈ ([] : List Addr) from z)))
  refine PySem.W.callWith_F0 ⟨_, _, _, _, of1⟩ ?_
  have un : Un (frs X.stack) [] H HZ s.heap s1.heap := I1.base
  obtain ⟨⟨oc, vs, t, hoc, hdc, hvc⟩, _, _⟩ := (show ObjOk X.prog X.w HZ s1.heap c' (.ext _) from I1.hok c' _ (hsm _ _ LA.co))
  have hDZ : DfAt one dV HZ := by
    cases one with
    | false => exact hD
    | true =>
      obtain ⟨T, e1, e2⟩ := hD
      exact ⟨T, e1, hsm _ _ e2⟩
  obtain ⟨binds, hb, hl⟩ := bind_lam (X := X) (q := X.env.qual ++ "<lambda>") (cl := cloFrom X.env.cells scope.names []) (pm := pm) (cv := .ref c') (ctv := ctv) hB I1.hok hDZ
  have rc : codeAny (model X.prog X.w) (X.A.deeper (envOfC "_law_heard" (defScope (tp 54)) s.heap.objs.size ga cdg)) (.call (.ref f) ⟨[], []⟩) (CR (L2.CX X.prog X.w) (envOfC "_law_heard" (defScope (tp 54)) s.heap.objs.size ga cdg :: X.stack) X.prog X.w HZ s1 Q (fun cls d H' => Wx cls d σZ H')) s1 := by
    refine PySem.W.kla_callFunE hr.depth of1 rfl L.co L.gen rfl ⟨c', oc, vs, t, rfl, hoc, hdc, hvc⟩ (hb _ _ _ _ ?_)
    refine wpAny_newFunctionEnv L.nc hl (fun h₁ hns hsb => ⟨I1.nolimit.fresh _ hsb, ?_⟩) L.kind
    show codeAny _ _ (.expr body (lamEnv X scope s1.heap.objs.size f c')) _ _
    have kp : ∀ b o, s1.heap.get? b = some o → h₁.get? b = some o := fun b o e => hsb.extBut b o (Nat.ne_of_lt (Heap.lt_size e)) (Heap.get?_push_of_some _ e)
    have J : Inv (lamCx X (X.A.deeper (envOfC "_law_heard" (defScope (tp 54)) s.heap.objs.size ga cdg)) (envOfC "_law_heard" (defScope (tp 54)) s.heap.objs.size ga cdg :: X.stack) s1 HZ (fun cls d H' => Wx cls d σZ H') scope f c') [] σ HZ { s1 with heap := h₁, toks := s1.toks + binds.length } :=
      lam_start3 I L I1.env0 hr.hd un hns kp
    refine PySem.W.kla_codeExpr (wpAny_mono ((hbody _ _ s1 HZ _ (hr.deeper _)).run [] _ _ HZ Q J ht) (fun v s' ⟨w', H', J', rv, q⟩ => ⟨w', H', J'.os, J'.bare, J'.base, J'.hok, rv, q⟩) fun e s' hq => hq)
  refine wpAny_call (codeAny_mono rc fun r s' hq => ?_)
  cases r with
  | error e => exact tk e s' (XE.of_call I1 (fun cls d H' h => h) hq)
  | ok fl =>
    cases fl with
    | ret u => exact I1.after hq
    | next => exact hq.elim
    | brk => exact hq.elim
    | cont => exact hq.elim
end
end My
/-! Lc: _law_heard(lambda: ..) as an expression. -/
namespace My
open PySem PySem.Spec PyProof.Rows L2 StX LamX
/-- the ear, as the top has it -/
structure Ear (K : PySem.W.Frag) (mg : Str → Option Value) (ga : Addr) (fd : FuncData) : Prop where
  F : FunS K "_law_heard" "_law_heard" (tp 54) [] ga fd
  mgx : mg "_law_heard" = some (.ref ga)
  bi : Binds K fd ["_law_ask"] []
/-- a world in which the table at P may grow -/
structure TabW (W : Wd) (P : Addr) (q : Str) : Prop where
  tab : ∀ H, W.M H → TabS H P q
  grow : ∀ H H1, W.M H → (∀ b o, b ≠ P → H b = some o → H1 b = some o) → TabS H1 P q → W.M H1
  b : W.B P
section
variable {g : Gc} {X : Cx} {W : Wd} {ds : Ds} {params : Arguments} {body : Expr} {scope : Scope} {p pos lpos : Pos} {c P ga : Addr} {fd : FuncData} {k : Nat} {d : Da} {one : Bool} {a : Str}
theorem ve_heard0 {tb : XK → Hp → TE} (ear : Ear X.K X.mg ga fd) (hr : Room (k + 2) X.A) (TB : TabB X.base X.mg c P) (hcode : X.env.code = .ref c) (L : LamD X.N X.env.scope scope) (hD : DfOf one params X.env) (hB : BindL one params body scope a) (TW : TabW W P (X.env.qual ++ "<lambda>"))
    (hbody : ∀ (A : Around) (outer : List Env) (s : Shared) (H : Hp) (E : XK) (H1 : Hp) (f c' : Addr), W.M H1 → Room k (A.deeper (lamEnv X scope s.heap.objs.size f c')) → PE (lamCx X A outer s H E scope f c') body (tb E H1))
    (hear : ∀ (cdv : Value) (s : Shared) (H1 : Hp) (hB1 : ∀ a, W.B a → H1 a ≠ none) (f : Addr) (σ : L2.St), Pre g W ds σ H1 → Room (k + 1) (Z54 X.prog X.w X.K X.mg X.base ga cdv X.A X.stack s H1 (fun _ _ _ => False)).A →
      (∀ (Wx : WX) (pn : List (Addr × Obj)) (xe : Value → Shared → Prop) (p1 p2 : Pos), Takes ((Z54 X.prog X.w X.K X.mg X.base ga cdv X.A X.stack s H1 (fun _ _ _ => False)).tr pn xe) Wx →
        PE ((Z54 X.prog X.w X.K X.mg X.base ga cdv X.A X.stack s H1 (fun _ _ _ => False)).tr pn xe) (.Call (.Name "_law_ask" p1) [] [] p2) (fun σZ HZ Q => σZ[0]? = some (some (.ref f)) ∧ Same H1 HZ ∧ tb (fun cls d H' => Wx cls d σZ H') H1 σ HZ Q)) →
      HS (Z54 X.prog X.w X.K X.mg X.base ga cdv X.A X.stack s H1 (fun _ _ _ => False)) (Pre g (Wd.ent W.B H1 hB1) (D54 f)) (defBody (tp 54)) (fun _ _ => False) (fun v H' => Same H1 H' ∧ DV g W.B H' v d))
    (hg : Gl X "_law_heard" := by rfl) : VE g X W ds (.Call (.Name "_law_heard" p) [.Lambda params body scope lpos] [] pos) d := by
  refine ⟨fun pins s σ H Q I ⟨pp, q⟩ => ?_⟩
  refine wpAny_Call_Name_kw (ld_glob I hg ear.mgx ?_ (by decide))
  refine PySem.W.callWith_K (h₀ := X.base) I.ok.mod.kin ear.F.kp ?_ (by rfl) (by rfl)
  show wpAny _ _ (spliced ((false, eval (.Lambda params body scope lpos) X.env) :: backTo pos (starEach [] X.env))) _ _ s
  refine Calls.spliced_cons (lam_make3 I TB hcode (TW.tab H pp.1) hD (L.has I.ok) fun f c' dV H1 s' I1 kH t1 LA hd1 => ?_)
  refine Calls.spliced_nil ⟨I1.kIn, ?_⟩
  have m1 := TW.grow H H1 pp.1 kH t1
  have e1 : Ex W.B H H1 := fun a o nb e => kH a o (fun z => nb (by rw [z]; exact TW.b)) e
  obtain ⟨oc, od, dV0, kV, doc, pm, an, cdv, ct, osl, rfl, lk, hcd, _, _⟩ := ear.F.ex
  have rc : codeAny (model X.prog X.w) X.A (.call (.ref ga) ⟨[.ref f], []⟩) (CR (L2.CX X.prog X.w) X.stack X.prog X.w H1 s' Q (fun _ _ _ => False)) s' := by
    refine run_ofS (N := N54) (ps := ["_law_ask"]) (us := [.ref f]) (vs := [.ref f]) lk hcd sc54 hr I1.env0 (ear.bi s' [.ref f] I1.kIn rfl) (.cons rfl .nil) rfl fun hr' => ?_
    refine ⟨_, hear cdv s' H1 (W.al m1) f σ (pp.go m1 e1) hr' (fun Wx pn xe p1 p2 tk => act_lam I1 L LA hd1 hB hr' (fun A outer s H E hr2 => hbody A outer s H E H1 f c' m1 hr2) Wx pn xe p1 p2 tk), ⟨⟨Same.refl H1, ?_⟩, fun _ _ z => z.elim, fun v H' ⟨s2, dv⟩ => q v H' (W.mono s2 m1) (e1.trans (.of s2)) dv⟩⟩
    exact start_sl (g := g) (N := N54) (vs := [.ref f]) (as := [.raw (.ref f)]) (.cons rfl .nil)
  refine wpAny_call (codeAny_mono rc fun r s2 hq => ?_)
  cases r with
  | error e =>
    obtain ⟨_, _, _, _, _, _, _, _, _, _, _, _, z⟩ := (show L2.CX X.prog X.w X.stack H1 s' (fun _ _ _ => False) e s2 from hq)
    exact z.elim
  | ok fl =>
    cases fl with
    | ret u => exact I1.after hq
    | next => exact hq.elim
    | brk => exact hq.elim
    | cont => exact hq.elim
/-- the lambda's body raises -/
theorem ve_heardR {C : Addr} {fs : List (Str × V)} (ear : Ear X.K X.mg ga fd) (hr : Room (k + 2) X.A) (TB : TabB X.base X.mg c P) (hcode : X.env.code = .ref c) (TW : TabW W P (X.env.qual ++ "<lambda>"))
    (hear : ∀ (cdv : Value) (A : Around) (outer : List Env) (s : Shared) (H0 : Hp) (hB : ∀ a, W.B a → H0 a ≠ none) (f : Addr), Room (k + 1) (Z54 X.prog X.w X.K X.mg X.base ga cdv A outer s H0 (fun _ _ _ => False)).A → ActR (Z54 X.prog X.w X.K X.mg X.base ga cdv A outer s H0 (fun _ _ _ => False)) f H0 C fs →
      HS (Z54 X.prog X.w X.K X.mg X.base ga cdv A outer s H0 (fun _ _ _ => False)) (Pre g (Wd.ent W.B H0 hB) (D54 f)) (defBody (tp 54)) (fun _ _ => False) (fun v H' => Same H0 H' ∧ DV g W.B H' v d))
    (hbody : ∀ (A : Around) (outer : List Env) (s : Shared) (H : Hp) (E : XK) (H1 : Hp) (hB1 : ∀ a, W.B a → H1 a ≠ none) (f c' : Addr), Room k (A.deeper (lamEnv X scope s.heap.objs.size f c')) → Air (lamCx X A outer s H E scope f c') (Wd.ent W.B H1 hB1) C fs → VR g (lamCx X A outer s H E scope f c') (Wd.ent W.B H1 hB1) ds body)
    (L : lamDB X.N X.env.scope scope = true := by rfl) (hD : DfOf one params X.env := by first | exact ⟨_, _, rfl, rfl⟩ | exact ⟨0, ⟨0, 0, 0, 0⟩, rfl, rfl⟩) (hB : BindL one params body scope a := by first | exact fun _ _ _ _ _ => rfl | exact ⟨rfl, fun _ _ _ _ _ _ => ⟨_, rfl, fun _ => rfl⟩⟩) (hg : Gl X "_law_heard" := by rfl) : VE g X W ds (.Call (.Name "_law_heard" p) [.Lambda params body scope lpos] [] pos) d := by
  refine ve_heard0 (tb := fun E H1 σ HZ Q => ∃ hB1 : ∀ a, W.B a → H1 a ≠ none, (∀ d H', Same H1 H' → H' d = some (.xd fs) → E (.ref C) (some d) H') ∧ Pre g (Wd.ent W.B H1 hB1) ds σ HZ) ear hr TB hcode (lamD_by L) hD hB TW (fun A outer s H E H1 f c' m1 hr2 => ?_) (fun cdv s H1 hB1 f σ pp hr2 act => ?_) hg
  · refine ⟨fun pins s2 σ2 H2 Q I2 ⟨hB1, air, pp⟩ => ?_⟩
    exact (hbody A outer s H E H1 hB1 f c' hr2 ⟨fun cls d _ H => E cls d H, takes_of rfl rfl rfl rfl, fun d _ H' m e => air d H' m e⟩).run pins s2 σ2 H2 Q I2 pp
  · refine hear cdv X.A X.stack s H1 hB1 f hr2 fun Wx pn xe p1 p2 tk => PE.imp (act Wx pn xe p1 p2 tk) fun σZ HZ Q ⟨h1, h2, h3⟩ => ⟨h1, h2, hB1, fun d H' s1 e => h3 d H' s1 e, h2, pp.2.keep (.of h2)⟩
/-- it returns -/
theorem ve_heardN {d0 : Da} (ear : Ear X.K X.mg ga fd) (hr : Room (k + 2) X.A) (TB : TabB X.base X.mg c P) (hcode : X.env.code = .ref c) (TW : TabW W P (X.env.qual ++ "<lambda>"))
    (hear : ∀ (cdv : Value) (A : Around) (outer : List Env) (s : Shared) (H0 : Hp) (hB : ∀ a, W.B a → H0 a ≠ none) (f : Addr), Room (k + 1) (Z54 X.prog X.w X.K X.mg X.base ga cdv A outer s H0 (fun _ _ _ => False)).A → ActN (Z54 X.prog X.w X.K X.mg X.base ga cdv A outer s H0 (fun _ _ _ => False)) f H0 →
      HS (Z54 X.prog X.w X.K X.mg X.base ga cdv A outer s H0 (fun _ _ _ => False)) (Pre g (Wd.ent W.B H0 hB) (D54 f)) (defBody (tp 54)) (fun _ _ => False) (fun v H' => Same H0 H' ∧ DV g W.B H' v d))
    (hbody : ∀ (A : Around) (outer : List Env) (s : Shared) (H : Hp) (E : XK) (H1 : Hp) (hB1 : ∀ a, W.B a → H1 a ≠ none) (f c' : Addr), Room k (A.deeper (lamEnv X scope s.heap.objs.size f c')) → VE g (lamCx X A outer s H E scope f c') (Wd.ent W.B H1 hB1) ds body d0)
    (L : lamDB X.N X.env.scope scope = true := by rfl) (hD : DfOf one params X.env := by first | exact ⟨_, _, rfl, rfl⟩ | exact ⟨0, ⟨0, 0, 0, 0⟩, rfl, rfl⟩) (hB : BindL one params body scope a := by first | exact fun _ _ _ _ _ => rfl | exact ⟨rfl, fun _ _ _ _ _ _ => ⟨_, rfl, fun _ => rfl⟩⟩) (hg : Gl X "_law_heard" := by rfl) : VE g X W ds (.Call (.Name "_law_heard" p) [.Lambda params body scope lpos] [] pos) d := by
  refine ve_heard0 (tb := fun E H1 σ HZ Q => ∃ hB1 : ∀ a, W.B a → H1 a ≠ none, tE g (Wd.ent W.B H1 hB1) ds d0 σ HZ Q) ear hr TB hcode (lamD_by L) hD hB TW (fun A outer s H E H1 f c' m1 hr2 => ?_) (fun cdv s H1 hB1 f σ pp hr2 act => ?_) hg
  · exact ⟨fun pins s2 σ2 H2 Q I2 ⟨hB1, h⟩ => (hbody A outer s H E H1 hB1 f c' hr2).run pins s2 σ2 H2 Q I2 h⟩
  · exact hear cdv X.A X.stack s H1 hB1 f hr2 fun Wx pn xe p1 p2 tk => PE.imp (act Wx pn xe p1 p2 tk) fun σZ HZ Q ⟨h1, h2, h3⟩ => ⟨h1, h2, hB1, ⟨h2, pp.2.keep (.of h2)⟩, fun v H' m e dv => h3 v H' m⟩
end
end My
/-! Ld: worlds with the bag and a table of code objects. -/
namespace My
open PySem PySem.Spec PyProof.Rows L2 StX LamX
theorem codeO_lst {c : Addr} {q : Str} {xs : List V} : CodeO c q ≠ .lst xs := fun z => by
  unfold CodeO at z
  cases z
/-- a table stands where the bag alone changes -/
theorem tabS_but {bag P : Addr} {q : Str} {H H' : Hp} (t : TabS H P q) (hb : ∃ xs, H bag = some (.lst xs)) (e : Ex (Ofs bag) H H') : TabS H' P q := by
  obtain ⟨ps, h1, h2, h3⟩ := t
  obtain ⟨xs, hb⟩ := hb
  refine ⟨ps, e _ _ (fun z => ?_) h1, h2, fun pos cv hc => ?_⟩
  · have z : P = bag := z
    rw [z, hb] at h1
    cases h1
  · obtain ⟨c, e1, e2⟩ := h3 pos cv hc
    refine ⟨c, e1, e _ _ (fun z => ?_) e2⟩
    have z : c = bag := z
    rw [z, hb] at e2
    exact codeO_lst (Option.some.inj e2).symm
theorem Bag.lst {bag cells : Addr} {cs : List Int} {c : Nat} {H : Hp} (b : Bag bag cells cs c H) : ∃ xs, H bag = some (.lst xs) := let ⟨_, _, _, e⟩ := b.at_; ⟨_, e⟩
/-- the bag is not the table -/
theorem bag_ne {bag cells P : Addr} {q : Str} {cs : List Int} {c : Nat} {H : Hp} (b : Bag bag cells cs c H) (t : TabS H P q) : bag ≠ P ∧ cells ≠ P := by
  obtain ⟨ps, h1, _⟩ := t
  obtain ⟨xs, h2⟩ := b.lst
  exact ⟨ne_of h2 h1 (fun z => by cases z), ne_of b.ce h1 (fun z => by cases z)⟩
theorem Bag.offP {bag cells P : Addr} {q : Str} {cs : List Int} {c : Nat} {H H' : Hp} (b : Bag bag cells cs c H) (t : TabS H P q) (e : ∀ b o, b ≠ P → H b = some o → H' b = some o) : Bag bag cells cs c H' := by
  obtain ⟨n1, n2⟩ := bag_ne b t
  obtain ⟨i, r, h, k⟩ := b.at_
  exact ⟨b.ne, ⟨i, r, h, e _ _ n1 k⟩, e _ _ n2 b.ce⟩
abbrev Ofs2 (bag P : Addr) : Addr → Prop := fun a => a = bag ∨ a = P
/-- as it was at H0 but for the bag and the table at P -/
def Wd.bt (B : Addr → Prop) (H0 : Hp) (hB : ∀ a, B a → H0 a ≠ none) (bag cells : Addr) (cs : List Int) (P : Addr) (q : Str) (c : Nat) : Wd where
  B := fun a => B a ∨ Ofs2 bag P a
  M := fun H => Ex (Ofs2 bag P) H0 H ∧ Bag bag cells cs c H ∧ TabS H P q
  mono := fun s h => ⟨h.1.trans (.of s), h.2.1.same s, h.2.2.ext s⟩
  al := fun {H} h a z => by
    have hb : H bag ≠ none := let ⟨_, e⟩ := h.2.1.lst; nn2 e
    have hp : H P ≠ none := let ⟨_, e, _⟩ := h.2.2; nn2 e
    rcases z with z | z | z
    · by_cases e : Ofs2 bag P a
      · rcases e with e | e
        · rw [e]
          exact hb
        · rw [e]
          exact hp
      · cases q : H0 a with
        | none => exact (hB a z q).elim
        | some o => exact nn2 (h.1 a o e q)
    · rw [z]
      exact hb
    · rw [z]
      exact hp
section
variable {B : Addr → Prop} {H0 : Hp} {hB : ∀ a, B a → H0 a ≠ none} {bag cells P : Addr} {cs : List Int} {q : Str} {c : Nat}
theorem hasbag_bt : HasBag (Wd.bt B H0 hB bag cells cs P q) bag cells cs where
  b := fun _ => rfl
  bb := .inr (.inl rfl)
  hg := fun c H m => m.2.1
  up := fun c c' H H' m e b => ⟨m.1.trans (e.mono fun a z => .inl z), b, tabS_but m.2.2 m.2.1.lst e⟩
theorem tabw_bt : TabW (Wd.bt B H0 hB bag cells cs P q c) P q where
  tab := fun H m => m.2.2
  grow := fun H H1 m e t => ⟨m.1.trans fun a o n h => e a o (fun z => n (.inr z)) h, m.2.1.offP m.2.2 e, t⟩
  b := .inr (.inr rfl)
end
section
variable {g : Gc} {X : Cx} {W W' : Wd} {ds : Ds} {a b e : Expr} {pos : Pos} {S : Da → Prop} {xs : List PyData} {sts : List Stmt} {N : SH} {R : V → Hp → Prop}
/-- list[i], i changes the bag -/
theorem vx_ixL (hB : W'.B = W.B) (ha : VE g X W ds a (.py (.list xs))) (hb : VX g X W W' ds b S) (hS : ∀ d, S d → ∃ i : Nat, i < xs.length ∧ d = .py (.int (i : Nat))) (hs : PlainIx b := by intro _ _; rfl) : VX g X W W' ds (.Subscript a b pos) (fun d => ∃ z ∈ xs, d = .py z) :=
  PE.imp (pe_ix ix_list ha hb hs) fun _ _ Q ⟨p, q⟩ => ⟨p, fun v H1 m1 e1 v1 => ⟨p.go m1 e1, fun u H2 d z m2 e2 v2 => by
    obtain ⟨i, hi, rfl⟩ := hS d z
    have v1 := v1.keep e2
    have ev := dv_int v2
    subst ev
    cases v1 with
    | @lst _ us _ n hA da =>
      have hx : xs[i]? = some xs[i] := List.getElem?_eq_getElem hi
      obtain ⟨y, hy, dy⟩ := da.get hx
      exact ⟨_, us, (i : Nat), y, rfl, rfl, SqL.of hA, atI_nat hy, q y H2 _ ⟨_, List.getElem_mem hi, rfl⟩ m2 (e1.trans e2) dy⟩⟩⟩
/-- -i -/
theorem ve_neg {i : Int} (h : VE g X W ds a (.py (.int i))) : VE g X W ds (.UnaryOp .USub a pos) (.py (.int (-i))) :=
  PE.imp (pe_un un_neg h) fun _ _ Q ⟨p, q⟩ => ⟨p, fun v H2 m e dv => by
    have := dv_int dv
    subst this
    exact ⟨i, rfl, q _ H2 m e (.int _)⟩⟩
theorem DqAll.flatRep {B : Addr → Prop} {H : Hp} {us : List V} (h : DqAll B H us xs) : ∀ k, DqAll B H (List.replicate k us).flatten (List.replicate k xs).flatten
  | 0 => .nil
  | k + 1 => by
    rw [List.replicate_succ, List.replicate_succ, List.flatten_cons, List.flatten_cons]
    exact DqAll.append h (DqAll.flatRep h k)
/-- list * k -/
theorem od_rep {k : Nat} (hl : xs.length * k ≤ sizeLine) (hk : k < 1000) : OpD g rRep (.py (.list xs)) (.py (.int (k : Nat))) (.py (.list (List.replicate k xs).flatten)) := fun B H x y Q hB h1 h2 q => by
  have e2 := dv_int h2
  subst e2
  cases h1 with
  | @lst _ us _ n a d =>
    refine ⟨_, (k : Nat), us, rfl, rfl, a, by omega, by omega, ?_, fun p hp => ?_⟩
    · rw [Int.toNat_natCast, d.length]
      exact hl
    · rw [Int.toNat_natCast]
      have s := same_new (o := .lst (List.replicate k us).flatten) hp
      exact q _ _ s (.lst (fun z => hB p z hp) upd_same (DqAll.keep (.of s) _ _ (DqAll.flatRep d k)))
/-- all stands still for a while -/
theorem hs_froz (h : ∀ H0 (hB : ∀ a, W.B a → H0 a ≠ none), W.M H0 → HS X (Pre g (Wd.ent W.B H0 hB) ds) sts N R) : HS X (Pre g W ds) sts N R :=
  hs_at fun σ0 H0 p => hs_pre (h H0 (W.al p.1) p.1) fun σ H ⟨_, e, q⟩ => ⟨by rw [e]; exact Same.refl H0, q.2⟩
theorem Pre.thaw {σ : L2.St} {H H0 : Hp} {hB : ∀ a, W.B a → H0 a ≠ none} (m : W.M H0) (p : Pre g (Wd.ent W.B H0 hB) ds σ H) : Pre g W ds σ H := ⟨W.mono p.1 m, p.2⟩
end
/-- a def whose code object is known -/
structure FunCd (K : PySem.W.Frag) (x qual : Str) (st : Stmt) (cd : Addr) (f : Addr) (fd : FuncData) : Prop where
  ex : ∃ (oc : Value) (od : Option Addr) (kV doc pm : Value) (an : Option Addr) (ct : Value) (osl : Array (Option Value)), fd = PySem.W.fnOf x qual (defArgs st) (defBody st) (defScope st) .none kV doc pm an (.ref cd) ct ∧ K.lookup f = some ⟨oc, od, .func fd, osl⟩ ∧ PySem.W.codeIn K (.ref cd) qual = true
  kp : PySem.W.keepIn K (.ref f) = true
theorem FunCd.ok {P : Program} {w : World} {K : PySem.W.Frag} {mg : Str → Option Value} {base : Heap} {CX : CXT} {N ps : List Str} {k : Nat} {sp : Sp} {x qual : Str} {st : Stmt} {cd f : Addr} {fd : FuncData} (F : FunCd K x qual st cd f fd) (S : FnScope N ps (defScope st)) (len : ∀ vs H Q E, sp vs H Q E → vs.length = ps.length)
    (hbody : ∀ (A : Around) (outer : List Env) (s : Shared) (H : Hp) (vs : List V) (Q : VK) (E : XK), Room k (A.deeper (envOfC qual (defScope st) s.heap.objs.size f (.ref cd))) → sp vs H Q E →
      ∃ t, PSs (cxOf CX P w K mg base N qual (defScope st) f (.ref cd) A outer s H E) (defBody st) t ∧ t { nx := fun _ H' => Q .non H', rt := Q } (L2.start N vs) H) : FnOk P w K mg base CX (k + 1) f fd ps sp := by
  obtain ⟨oc, od, kV, doc, pm, an, ct, osl, rfl, lk, hcd⟩ := F.ex
  exact fn_of lk hcd S len fun A outer s H vs Q E hr hsp => hbody A outer s H vs Q E hr hsp
end My
/-! P15: the law tries what is refused. -/
namespace My
open PySem PySem.Spec PyProof.Rows L2 StX LamX
theorem mem4 {a b c d z : PyData} (h : z ∈ [a, b, c, d]) : z = a ∨ z = b ∨ z = c ∨ z = d := by simpa using h
theorem mem5 {a b c d e z : PyData} (h : z ∈ [a, b, c, d, e]) : z = a ∨ z = b ∨ z = c ∨ z = d ∨ z = e := by simpa using h
def some12 : List (List Int) := (untied 12 []).map pI
theorem some12_len : some12.length = 66 := by decide +kernel
def wPart (a b : Str) : PyData := .tuple [.str a, .str b]
def wMany (a : Str) (n : Int) : PyData := .tuple [.str "many", .str a, .int n]
def due55 : List PyData := [wPart "web" "web", wPart "web" "web", wPart "web" "web", wPart "teams" "teams", wPart "number" "point", wMany "people" 12, wMany "points" 60, .none]
theorem due55_sh : SeqAt.shaped (.list due55) = true := by decide +kernel
theorem due55_eq : PyData.eqv (.list due55) (.list due55) = true := by decide +kernel
theorem many6 : 12 < webMany 6 [] := by decide +kernel
section
variable {P : Program} {w : World} {K : PySem.W.Frag} {mg : Str → Option Value} {base : Heap} {g : Gc} {c : Ec} {k : Nat} {cdv : Value} {A : Around} {outer : List Env} {s : Shared} {H0 : Hp} {E : XK} {ga f : Addr} {B : Addr → Prop} {hB : ∀ a, B a → H0 a ≠ none} {x : Str} {n : Int}
theorem hear_web (T : Tx K mg g) (Y : Hd K mg c) (hr : Room k (Z54 P w K mg base ga cdv A outer s H0 E).A) (act : ActR (Z54 P w K mg base ga cdv A outer s H0 E) f H0 c.CWb (fPart x)) :
    HS (Z54 P w K mg base ga cdv A outer s H0 E) (Pre g (Wd.ent B H0 hB) (D54 f)) (defBody (tp 54)) (fun _ _ => False) (fun v H' => Same H0 H' ∧ DV g B H' v (.py (wPart "web" x))) := heard_part T Y Y.e_CWb Y.x_CWb Y.f_CWb Y.k_CWb_CMy Y.k_CWb_CN Y.k_CWb_CTm Y.k_CWb_CWb Y.k_CWb_CO Y.k_CWb_CF rfl hr act
theorem hear_num (T : Tx K mg g) (Y : Hd K mg c) (hr : Room k (Z54 P w K mg base ga cdv A outer s H0 E).A) (act : ActR (Z54 P w K mg base ga cdv A outer s H0 E) f H0 c.CN (fPart x)) :
    HS (Z54 P w K mg base ga cdv A outer s H0 E) (Pre g (Wd.ent B H0 hB) (D54 f)) (defBody (tp 54)) (fun _ _ => False) (fun v H' => Same H0 H' ∧ DV g B H' v (.py (wPart "number" x))) := heard_part T Y Y.e_CN Y.x_CN Y.f_CN Y.k_CN_CMy Y.k_CN_CN Y.k_CN_CTm Y.k_CN_CWb Y.k_CN_CO Y.k_CN_CF rfl hr act
theorem hear_tms (T : Tx K mg g) (Y : Hd K mg c) (hr : Room k (Z54 P w K mg base ga cdv A outer s H0 E).A) (act : ActR (Z54 P w K mg base ga cdv A outer s H0 E) f H0 c.CTm (fPart x)) :
    HS (Z54 P w K mg base ga cdv A outer s H0 E) (Pre g (Wd.ent B H0 hB) (D54 f)) (defBody (tp 54)) (fun _ _ => False) (fun v H' => Same H0 H' ∧ DV g B H' v (.py (wPart "teams" x))) := heard_part T Y Y.e_CTm Y.x_CTm Y.f_CTm Y.k_CTm_CMy Y.k_CTm_CN Y.k_CTm_CTm Y.k_CTm_CWb Y.k_CTm_CO Y.k_CTm_CF rfl hr act
end
/-! the teams of two -/
theorem pair_ok {m : Nat} {p : Nat × Nat} (h : p ∈ untied m []) (hm : m ≤ 12) : TeamOk 12 (pI p) := by
  have h := (mem_untied.mp h).1
  refine ⟨?_, (show 2 < 1000 by decide), (fun z => nomatch z), fun i hi => ?_⟩
  · show [((p.1 : Nat) : Int), ((p.2 : Nat) : Int)].Nodup
    rw [List.nodup_cons]
    refine ⟨fun z => ?_, by simp⟩
    have := List.mem_singleton.mp z
    omega
  · rcases List.mem_cons.mp hi with e | e
    · omega
    · have := List.mem_singleton.mp e
      omega
theorem sort_pair {p : Nat × Nat} (h : p.1 < p.2) : sortI (pI p) = pI p := by
  refine List.mergeSort_of_pairwise ?_
  show List.Pairwise _ [((p.1 : Nat) : Int), ((p.2 : Nat) : Int)]
  rw [List.pairwise_cons]
  refine ⟨fun y hy => ?_, List.pairwise_singleton _ _⟩
  have := List.mem_singleton.mp hy
  exact decide_eq_true (by omega)
theorem some12_ok (k : Nat) : ∀ t ∈ some12.take k, TeamOk 12 t := fun t ht => by
  obtain ⟨p, hp, rfl⟩ := List.mem_map.mp (List.mem_of_mem_take ht)
  exact pair_ok hp (Nat.le_refl _)
theorem some12_sort (k : Nat) : (some12.take k).map sortI = some12.take k := by
  have e : ∀ t ∈ some12.take k, sortI t = t := fun t ht => by
    obtain ⟨p, hp, rfl⟩ := List.mem_map.mp (List.mem_of_mem_take ht)
    exact sort_pair (mem_untied.mp hp).1.1
  rw [List.map_congr_left e, List.map_id']
theorem some12_nd (k : Nat) : ((some12.take k).map sortI).Nodup := by
  rw [some12_sort]
  exact (nodup_pI ((prs_nodup 12).filter _)).sublist (List.take_sublist _ _)
theorem kept12 (k : Nat) : keptTeams (some12.take k) = some12.take k := by
  unfold keptTeams
  rw [some12_sort]
  refine List.mergeSort_of_pairwise ?_
  have h : some12.Pairwise fun a b => decide (a ≤ b) = true := by decide +kernel
  exact h.sublist (List.take_sublist _ _)
theorem apart12 : (apartPrs (some12.take 60)).length ≤ 1228 := by decide +kernel
end My
/-! P16: _law_refused_right. -/
namespace My
open PySem PySem.Spec PyProof.Rows L2 StX LamX
abbrev N55 : List Str := ["_law_bag_here", "_law_web_here", "_law_points", "_law_none", "_law_far", "_law_heard_here", "_law_some", "_law_one", "_law_due", "_law_other"]
theorem sc55 : FnScope N55 ["_law_bag_here", "_law_web_here", "_law_points"] (defScope (tp 55)) := ⟨rfl, rfl, rfl, by decide +kernel, rfl, by decide +kernel, by decide +kernel⟩
/-- what the def promises: True, the bag asked twice, its table grown -/
def spRf (g : Gc) (Pt : Addr) (q : Str) : Sp := fun vs H Q _ => ∃ (B : Addr → Prop) (bag cells : Addr) (cs : List Int) (c : Nat) (us : List V) (n : Nat) (ts : List (List Int)), vs = .ref bag :: us ∧ (∀ a, B a → H a ≠ none) ∧ B bag ∧ B Pt ∧ Bag bag cells cs c H ∧ TabS H Pt q ∧ c + 2 ≤ 400 ∧ DVs g B H us [.web (n : Nat) (ts.map TD), .py (.int (n : Nat))] ∧ (1 ≤ n ∧ n ≤ 60) ∧
  ∀ H', Ex (Ofs2 bag Pt) H H' → Bag bag cells cs (c + 2) H' → TabS H' Pt q → Q (.bl true) H'
theorem kept0 : keptTies [] = [] := List.mergeSort_nil
section
variable {P : Program} {w : World} {K : PySem.W.Frag} {mg : Str → Option Value} {base : Heap} {g : Gc} {c : Ec}
/-- all that the law's refusals call -/
structure Calls55 (P : Program) (w : World) (K : PySem.W.Frag) (mg : Str → Option Value) (base : Heap) (g : Gc) (c : Ec) : Prop where
  grab : Pn P w K mg base 1 "_law_grab" [] (spB g 1 1 R49)
  x44 : Pn P w K mg base 3 "people_in" [] (spX g 1 (RX44 c))
  x45 : Pn P w K mg base 4 "team_of" [] (spX g 2 (RX45 c))
  x46 : Pn P w K mg base 3 "teams_of" [] (spX g 1 (RX46 c))
  x43 : Pn P w K mg base 3 "web_of" [] (spX g 1 (RX43 c))
  c43 : Pn P w K mg base 7 "web_of" [] (spR g 1 R43)
  cW : Pmk P w K mg base 5 "Web" g.CW (spI g g.CW 2 RW_)
  cT : Pmk P w K mg base 6 "Teams" g.CT (spI g g.CT 2 RT)
theorem ok55 {cd Pt f ga : Addr} {fd fdg : FuncData} (T : Tx K mg g) (Y : Hd K mg c) (ear : Ear K mg ga fdg) (C : Calls55 P w K mg base g c) (TB : TabB base mg cd Pt) (F : FunCd K "_law_refused_right" "_law_refused_right" (tp 55) cd f fd) :
    FnOk P w K mg base (L2.CX P w) 10 f fd ["_law_bag_here", "_law_web_here", "_law_points"] (spRf g Pt "_law_refused_right.<locals>.<lambda>") := by
  refine F.ok sc55 (fun vs H Q E h => ?_) (fun A outer s H vs Q E hr h => ?_)
  · obtain ⟨B, bag, cells, cs, c0, us, n, ts, rfl, _, _, _, _, _, _, hv, _⟩ := h
    rw [List.length_cons, hv.length]
    rfl
  · obtain ⟨B, bag, cells, cs, c0, us, n, ts, rfl, hB, bb, bP, bg, tg, hc, hv, hn, q⟩ := h
    have hW : ∀ m, (Wd.bt B H hB bag cells cs Pt "_law_refused_right.<locals>.<lambda>" m).B = B := fun m => by
      funext a
      refine propext ⟨fun z => ?_, fun z => .inl z⟩
      rcases z with z | z | z
      · exact z
      · rw [z]
        exact bb
      · rw [z]
        exact bP
    have TW := fun m => tabw_bt (B := B) (H0 := H) (hB := hB) (bag := bag) (cells := cells) (P := Pt) (cs := cs) (q := "_law_refused_right.<locals>.<lambda>") (c := m)
    refine ⟨_, (?_ : HS _ (Pre g (Wd.bt B H hB bag cells cs Pt "_law_refused_right.<locals>.<lambda>" c0) [some (.raw (.ref bag)), some (.web (n : Nat) (ts.map TD)), some (.py (.int (n : Nat))), none, none, none, none, none, none, none]) _ (fun _ _ => False) (fun v H' => v = .bl true ∧ (Wd.bt B H hB bag cells cs Pt "_law_refused_right.<locals>.<lambda>" (c0 + 2)).M H')), ⟨⟨⟨Ex.refl H, bg, tg⟩, ?_⟩, fun _ _ z => z.elim, fun v H' z => ?_⟩⟩
    · refine hs_setX 3 (W' := Wd.bt B H hB bag cells cs Pt "_law_refused_right.<locals>.<lambda>" (c0 + 1)) sc55.nd (by rfl) (vx_ixL (by rfl) (ve_lst (xs := [.none, .int 5, .tuple [.int (n : Nat), .tuple []], .bool true]) (va_cons ve_non (va_cons ve_int (va_cons (ve_pair (ve_var 2) (ve_tup (xs := []) va_nil)) (va_cons ve_bl va_nil)))) (by show 4 ≤ sizeLine; decide))
        (vx_call (W := fun m => Wd.bt B H hB bag cells cs Pt "_law_refused_right.<locals>.<lambda>" m) hasbag_bt C.grab hr (va_cons (ve_var 0) (va_cons ve_int va_nil)) (r49 4)) fun d ⟨i, i1, i2, e⟩ => ⟨i.toNat, by show i.toNat < 4; omega, by rw [e, Int.toNat_of_nonneg i1]⟩) fun d hd => ?_
      obtain ⟨z, hz, rfl⟩ := hd
      have nz : noCls z = true := by
        rcases mem4 hz with rfl | rfl | rfl | rfl <;> rfl
      clear hz
      refine hs_setX 4 (W' := Wd.bt B H hB bag cells cs Pt "_law_refused_right.<locals>.<lambda>" (c0 + 1 + 1)) sc55.nd (by rfl) (vx_ixL (by rfl) (ve_lst (xs := [.none, .int (-1), .int (n : Nat), .bool true, .str "0"]) (va_cons ve_non (va_cons (ve_neg ve_int) (va_cons (ve_var 2) (va_cons ve_bl (va_cons ve_str va_nil))))) (by show 5 ≤ sizeLine; decide))
        (vx_call (W := fun m => Wd.bt B H hB bag cells cs Pt "_law_refused_right.<locals>.<lambda>" m) hasbag_bt C.grab hr (va_cons (ve_var 0) (va_cons ve_int va_nil)) (r49 5)) fun d ⟨i, i1, i2, e⟩ => ⟨i.toNat, by show i.toNat < 5; omega, by rw [e, Int.toNat_of_nonneg i1]⟩) fun d hd => ?_
      obtain ⟨y, hy, rfl⟩ := hd
      have ny : scal y = true ∧ inR 0 ((n : Int) - 1) y = false := by
        rcases mem5 hy with rfl | rfl | rfl | rfl | rfl
        · exact ⟨rfl, rfl⟩
        · exact ⟨rfl, rfl⟩
        · refine ⟨rfl, ?_⟩
          show (decide ((0 : Int) ≤ ((n : Nat) : Int)) && decide (((n : Nat) : Int) ≤ (n : Int) - 1)) = false
          rw [decide_eq_false (show ¬ ((n : Nat) : Int) ≤ (n : Int) - 1 by omega), Bool.and_false]
        · exact ⟨rfl, rfl⟩
        · exact ⟨rfl, rfl⟩
      clear hy
      have r9 : Room (7 + 2) (cxM P w K mg base N55 "_law_refused_right" (tp 55) f (.ref cd) A outer s H E).A := hr
      refine hs_set 5 sc55.nd (ve_lst (xs := [wPart "web" "web", wPart "web" "web", wPart "web" "web"]) (va_cons (ve_heardR (k := 7) (one := false) (a := "") ear r9 TB rfl (TW _) (fun cdv A outer s H0 hB f hr act => hear_web T Y hr act) fun A outer s H E H1 hB1 f c' hr2 air => vr_call C.x44 hr2 (va_cons (ve_var 3) va_nil) ⟨z, nz, rfl, rfl, rfl⟩ air)
        (va_cons (ve_heardR (k := 7) (one := true) (a := "_law_a") ear r9 TB rfl (TW _) (fun cdv A outer s H0 hB f hr act => hear_web T Y hr act) fun A outer s H E H1 hB1 f c' hr2 air => vr_call C.x45 hr2 (va_cons (ve_var 3) (va_cons (ve_var 4) va_nil)) (.inl ⟨z, _, nz, rfl, rfl, rfl⟩) air)
        (va_cons (ve_heardR (k := 7) (one := true) (a := "_law_b") ear r9 TB rfl (TW _) (fun cdv A outer s H0 hB f hr act => hear_web T Y hr act) fun A outer s H E H1 hB1 f c' hr2 air => vr_call C.x46 hr2 (va_cons (ve_var 3) va_nil) (.inl ⟨z, nz, rfl, rfl, rfl⟩) air) va_nil))) (by show 3 ≤ sizeLine; decide)) ?_
      refine hs_set 5 sc55.nd (ve_op op_cat (od_cat (xs := [wPart "web" "web", wPart "web" "web", wPart "web" "web"]) (ys := [wPart "teams" "teams", wPart "number" "point", wMany "people" 12]) (by show 6 ≤ sizeLine; decide)) (ve_var 5) (ve_lst (xs := [wPart "teams" "teams", wPart "number" "point", wMany "people" 12])
        (va_cons (ve_heardR (k := 7) (one := false) (a := "") ear r9 TB rfl (TW _) (fun cdv A outer s H0 hB f hr act => hear_tms T Y hr act) fun A outer s H E H1 hB1 f c' hr2 air => vr_call C.x43 hr2 (va_cons (ve_var 3) va_nil) (.inl ⟨z, nz, rfl, rfl, rfl⟩) air)
        (va_cons (ve_heardR (k := 7) (one := true) (a := "_law_a") ear r9 TB rfl (TW _) (fun cdv A outer s H0 hB f hr act => hear_num T Y hr act) fun A outer s H E H1 hB1 f c' hr2 air => vr_call C.x45 hr2 (va_cons (ve_var 1) (va_cons (ve_var 4) va_nil)) (.inr ⟨n, _, y, ny.1, ny.2, rfl, rfl, rfl⟩) air)
        (va_cons (ve_heardR (k := 7) (one := true) (a := "_law_b") ear r9 TB rfl (TW _) (fun cdv A outer s H0 hB f hr act => heard_many T Y act) fun A outer s H E H1 hB1 f c' hr2 air => vr_call C.x46 hr2 (va_cons (ve_is (d2 := .web (6 : Nat) (([] : List (List Int)).map TD)) (ve_make C.cW hr2 (va_cons ve_int (va_cons (ve_lst (xs := []) va_nil) va_nil)) ⟨6, [], LT [], by decide, by decide, (fun p hp => (nomatch hp)), List.nodup_nil, by decide, .inl rfl, rfl, rfl⟩) (by rw [kept0])) va_nil) (.inr ⟨6, [], ⟨by decide, List.nodup_nil, by decide⟩, many6, rfl, rfl, rfl⟩) air) va_nil))) (by show 3 ≤ sizeLine; decide))) ?_
      refine hs_set 6 sc55.nd (ve_lst (xs := []) va_nil) ?_
      refine hs_froz fun H2 hB2 m2 => ?_
      refine hs_for (Z := Unit) (fun H3 _ _ => (Wd.ent (Wd.bt B H hB bag cells cs Pt "_law_refused_right.<locals>.<lambda>" (c0 + 1 + 1)).B H2 hB2).rel H3) (fun _ i _ => [some (.raw (.ref bag)), some (.web (n : Nat) (ts.map TD)), some (.py (.int (n : Nat))), some (.py z), some (.py y), some (.py (.list [wPart "web" "web", wPart "web" "web", wPart "web" "web", wPart "teams" "teams", wPart "number" "point", wMany "people" 12])), some (.py (.list (utp 12 [] i))), none, none, none])
        (vi_rng1 (j := 7) (k := 12) rfl T.trange ve_int (by decide)) (pg_name (i := 7) sc55.nd rfl (Or.inr rfl)) (fun H1 i z => .rel fun a h => h) (fun σ H1 p => ⟨(), p.torel⟩) (fun H3 i _ m3 hi => ?_) (fun H3 _ m3 => ?_)
      · have hi : i < 12 := hi
        refine hs_set 6 sc55.nd (ve_op op_cat (od_cat ?_) (ve_var 6) (ve_lcR2f 9 ((i : Int) + 1) 12 (fun m => !decide ([(i : Int), (i : Int) + 1 + (m : Nat)] ∈ ([] : List (List Int)))) (fun m => .tuple [.int (i : Nat), .int ((i : Int) + 1 + (m : Nat))]) sc55.nd loc_ent.rel T.trange (by omega) (ve_op op_add od_i0 (ve_var 7) ve_int) ve_int
          (fun m hm D acc _ _ _ _ _ => vts_nil) (fun m hm hq D acc _ _ _ _ _ => ve_pair (ve_var 7) (ve_var 9)))) (hs_nil fun σ H' p => ⟨(), ?_⟩)
        · rw [← List.length_append]
          show (utp 12 [] i ++ _).length ≤ sizeLine
          have e := utp_succ 12 [] i
          have e2 := utp_len 12 [] (i + 1)
          rw [e] at e2
          exact Nat.le_trans e2 (Nat.le_trans (Nat.mul_le_mul (show i + 1 ≤ 12 by omega) (Nat.le_refl 12)) (by decide))
        · have e := utp_succ 12 [] i
          show Pre g _ [_, _, _, _, _, _, some (.py (.list (utp 12 [] (i + 1)))), none, none, none] σ H'
          rw [e]
          exact p.less (.eq (.eq (.eq (.eq (.eq (.eq (.eq (.no (.eq (.eq .nil))))))))))
      · have e12 : utp 12 [] (12 : Int).toNat = some12.map TD := utp_eq 12 []
        rw [e12]
        refine hs_pre (P' := Pre g (Wd.bt B H hB bag cells cs Pt "_law_refused_right.<locals>.<lambda>" (c0 + 1 + 1)) [some (.raw (.ref bag)), some (.web (n : Nat) (ts.map TD)), some (.py (.int (n : Nat))), some (.py z), some (.py y), some (.py (.list [wPart "web" "web", wPart "web" "web", wPart "web" "web", wPart "teams" "teams", wPart "number" "point", wMany "people" 12])), some (.py (LT some12)), none, none, none]) ?_ fun σ H' p => p.unrel.thaw m2
        have cut : ∀ {X : Cx} {W : Wd} {ds : Ds} {a b : Expr} {pos p2 : Pos} (k : Nat), VE g X W ds a (.py (LT some12)) → VE g X W ds b (.py (.int (k : Nat))) → VE g X W ds (.Subscript a (.Slice none (some b) none p2) pos) (.py (LT (some12.take k))) := fun {X W ds a b pos p2} k ha hb => ve_is (ve_cut ha hb) (by rw [LT, List.map_take])
        have lt : ∀ k, k ≤ 66 → (some12.take k).length = k := fun k hk => by rw [List.length_take, some12_len]; omega
        refine hs_set 5 sc55.nd (ve_op op_cat (od_cat (xs := [wPart "web" "web", wPart "web" "web", wPart "web" "web", wPart "teams" "teams", wPart "number" "point", wMany "people" 12]) (ys := [wMany "points" 60, .none]) (by show 8 ≤ sizeLine; decide)) (ve_var 5) (ve_lst (xs := [wMany "points" 60, .none])
          (va_cons (ve_heardR (k := 7) (one := false) (a := "") ear r9 TB rfl (TW _) (fun cdv A outer s H0 hB f hr act => heard_many T Y act) fun A outer s H E H1 hB1 f c' hr2 air => vr_call C.x43 hr2 (va_cons (ve_make C.cT hr2 (va_cons ve_int (va_cons (cut 61 (ve_var 6) ve_int) va_nil)) ⟨12, some12.take 61, by decide, by decide, by rw [lt 61 (by decide)]; decide, by rw [lt 61 (by decide)]; decide, some12_ok 61, some12_nd 61, rfl, rfl⟩) va_nil)
              (.inr ⟨12, _, by rw [List.length_map, kept12, lt 61 (by decide)]; decide, rfl, rfl, rfl⟩) air)
          (va_cons (ve_heardN (k := 7) (one := true) (a := "_law_a") ear r9 TB rfl (TW _) (fun cdv A outer s H0 hB f hr act => heard_none Y act) fun A outer s H E H1 hB1 f c' hr2 => ve_call C.c43 hr2 (va_cons (ve_make C.cT hr2 (va_cons ve_int (va_cons (cut 60 (ve_var 6) ve_int) va_nil)) ⟨12, some12.take 60, by decide, by decide, by rw [lt 60 (by decide)]; decide, by rw [lt 60 (by decide)]; decide, some12_ok 60, some12_nd 60, rfl, rfl⟩) va_nil)
              ⟨12, keptTeams (some12.take 60), by rw [kept12, lt 60 (by decide)]; decide, by rw [kept12, lt 60 (by decide)]; decide, fun t ht => ?_, by rw [kept12]; exact apart12, rfl, rfl⟩) va_nil)) (by show 2 ≤ sizeLine; decide))) ?_
        · rw [kept12] at ht
          exact (some12_ok 60 t ht).2.1
        refine hs_set 8 sc55.nd (ve_op op_cat (od_cat (xs := (List.replicate 3 [wPart "web" "web"]).flatten) (ys := [wPart "teams" "teams", wPart "number" "point", wMany "people" 12, wMany "points" 60, .none]) (by show 8 ≤ sizeLine; decide)) (ve_op op_rep (od_rep (k := 3) (by show 3 ≤ sizeLine; decide) (by decide)) (ve_lst (xs := [wPart "web" "web"]) (va_cons (ve_pair ve_str ve_str) va_nil)) ve_int)
          (ve_lst (xs := [wPart "teams" "teams", wPart "number" "point", wMany "people" 12, wMany "points" 60, .none]) (va_cons (ve_pair ve_str ve_str) (va_cons (ve_pair ve_str ve_str) (va_cons (ve_tup (xs := [.str "many", .str "people", .int 12]) (va_cons ve_str (va_cons ve_str (va_cons ve_int va_nil))) (by show 3 ≤ sizeLine; decide)) (va_cons (ve_tup (xs := [.str "many", .str "points", .int 60]) (va_cons ve_str (va_cons ve_str (va_cons ve_int va_nil))) (by show 3 ≤ sizeLine; decide)) (va_cons ve_non va_nil))))) (by show 5 ≤ sizeLine; decide))) ?_
        refine hs_ret (ve_cmp (op_eqD (hu64 hr)) (od_eq (a := .list due55) (b := .list due55) due55_sh due55_sh due55_eq) (ve_var 5) (ve_var 8)) fun σ v H' p dv => ⟨?_, p.1⟩
        cases dv
        rfl
    · have z := start_sl (g := g) (B := (Wd.bt B H hB bag cells cs Pt "_law_refused_right.<locals>.<lambda>" c0).B) (H := H) (N := N55) (vs := .ref bag :: us) (as := [.raw (.ref bag), .web (n : Nat) (ts.map TD), .py (.int (n : Nat))]) (.cons rfl (L2.Paired.mapP hv fun _ _ z => by rw [hW]; exact z))
      exact z
    · rw [z.1]
      exact q H' z.2.1 z.2.2.1 z.2.2.2
end
end My
/-! P17: two webs told apart by !=. -/
namespace My
open PySem PySem.Spec PyProof.Rows
section
variable {M : Model} {prog : Program} {w : World} {A : Around} {E : Value → Shared → Prop} {s : Shared} {K : PySem.W.Frag} {x C f : Addr} {ox : Obj} {od : Option Obj} {b : Value} {r : Bool}
theorem if_ne {args : List Value} {Q : Option Value → Shared → Prop} (X : K.In s.heap) (I : PySem.W.InstAt s.heap x ox C od) (hs : PySem.W.findIn K (.ref C) "__ne__" = some (some (.builtin "object.__ne__")))
    (h : wpAny M A (call (.builtin "object.__ne__") (.ref x :: args)) (fun v => Q (some v)) E s) : wpAny M A (callSpecialIfBound? (.ref x) "__ne__" args) Q E s := by
  simp only [callSpecialIfBound?, bindSpecialIfBound?]
  refine wpAny_holding (wpAny_bind (wpAny_bind (wpAny_bind (I.type.here ((PySem.W.looks_findIn X hs).here (wpAny_bind (wpAny_askSetting (wpAny_ite ?_))))))))
  have last : wpAny M A (call (.builtin "object.__ne__") ([.ref x] ++ args) >>= fun v => pure (some v)) Q E s := wpAny_bind (wpAny_mono h (fun _ _ z => wpAny_pure z) fun _ _ z => z)
  split
  · exact wpAny_bind (wpAny_of_eq (F.cmp_object.ne.bind _) (wpAny_pure (by exact last)))
  · exact wpAny_tryCatch (wpAny_bind (wpAny_of_eq (F.cmp_object.ne.bind _) (wpAny_pure (by exact last))))
theorem entry_ne {Q : Fin → Shared → Prop} (hu : A.units < cLine) (X : K.In s.heap) (I : PySem.W.InstAt s.heap x ox C od) (hs : PySem.W.findIn K (.ref C) "__eq__" = some (some (.ref f))) (hf : PySem.W.isFn K (.ref f) = true)
    (h : wpAny M A (call (.ref f) [.ref x, b]) (fun v s' => v = .bool r ∧ Q (.done (.ret (.bool (!r)))) s') E s) : wpAny M A (Builtin.«object.__ne__» ⟨[.ref x, b], []⟩) Q E s := by
  unfold Builtin.«object.__ne__»
  refine wpAny_bind (wpAny_of_eq (a := ((Value.ref x : Value), [b])) (by first | rfl | (simp only [slotArgs]; rfl)) (wpAny_bind (wpAny_cRoomFor hu (wpAny_bind (PySem.W.ifBound_K X I hs hf (wpAny_mono h (fun v s' z => ?_) fun _ _ z => z))))))
  obtain ⟨rfl, q⟩ := z
  refine wpAny_bind (wpAny_truthy_bool ?_)
  exact wpAny_pure q
theorem rich_ne {tb : Value} {Q : Value → Shared → Prop} (hu : A.units + 1 < cLine) (X : K.In s.heap) (I : PySem.W.InstAt s.heap x ox C od) (hb : PySem.W.Looks (model prog w) s.heap (typeOf b) tb) (hn : PySem.W.notFirst K C tb = true) (hm : PySem.W.mroIn K C (.type "object") = some true)
    (hne : PySem.W.findIn K (.ref C) "__ne__" = some (some (.builtin "object.__ne__"))) (hs : PySem.W.findIn K (.ref C) "__eq__" = some (some (.ref f))) (hf : PySem.W.isFn K (.ref f) = true)
    (h : wpAny (model prog w) A.in1 (call (.ref f) [.ref x, b]) (fun v s' => v = .bool r ∧ Q (.bool (!r)) s') E s) : wpAny (model prog w) A (richCompare .NotEq (.ref x) b) Q E s := by
  have one : wpAny (model prog w) A (tryCompare (.ref x) "__ne__" b) (fun o s' => o = some (.bool (!r)) ∧ Q (.bool (!r)) s') E s := by
    unfold tryCompare
    refine wpAny_bind (if_ne X I hne (wpAny_call (codeAny_call_builtin F.cmp_object.ne.plain F.cmpEntry_ne (PySem.W.check_slot F.cmpKind_ne F.cmpSplit_ne (I.type.andThen (PySem.W.looks_mroIn X hm)) (F.cmpArgs_ne _ _) (entry_ne (A := A.in1) (r := r) (by show A.units + 1 < cLine; exact hu) X I hs hf ?_)))))
    exact wpAny_mono h (fun v s' z => ⟨z.1, wpAny_pure ⟨rfl, z.2⟩⟩) fun _ _ z => z
  simp only [richCompare, cmpInfo_NotEq, oneThing_ref]
  refine wpAny_holding (wpAny_bind (wpAny_cRoomFor (by omega) (wpAny_bind (I.type.here (wpAny_bind (hb.here ?_))))))
  split
  · rename_i q
    have e : PySem.W.subIn K tb (.ref C) = some false := by
      rcases Bool.or_eq_true_iff.mp hn with e | e
      · rw [beq_iff_eq.mp e] at q
        simp at q
      · exact beq_iff_eq.mp e
    refine wpAny_bind ((PySem.W.looks_subIn X e).here ?_)
    simp only [Bool.false_eq_true, if_false]
    refine wpAny_bind (wpAny_mono one (fun o s' z => ?_) fun _ _ z => z)
    obtain ⟨rfl, z⟩ := z
    exact wpAny_pure z
  · refine wpAny_bind (wpAny_pure ?_)
    simp only [Bool.false_eq_true, if_false]
    refine wpAny_bind (wpAny_mono one (fun o s' z => ?_) fun _ _ z => z)
    obtain ⟨rfl, z⟩ := z
    exact wpAny_pure z
end
end My
/-! P18: Web.__eq__, webs told apart. -/
namespace My
open PySem PySem.Spec PyProof.Rows L2 StX
section
variable {P : Program} {w : World} {K : PySem.W.Frag} {mg : Str → Option Value} {base : Heap} {g : Gc}
theorem scE : FnScope ["self", "other"] ["self", "other"] (defScope (inClass (tp 36) 1)) := ⟨rfl, rfl, rfl, by decide +kernel, rfl, by decide +kernel, by decide +kernel⟩
def REq : List Da → Da → Prop := fun as d => ∃ (n : Int) (ts : List (List Int)), as = [.web n (ts.map TD), .web n (ts.map TD)] ∧ d = .py (.bool true)
theorem okE {f : Addr} {fd : FuncData} (T : Tx K mg g) (F : FunS K "__eq__" "Web.__eq__" (inClass (tp 36) 1) [] f fd) : FnOk P w K mg base (L2.CX P w) 1 f fd ["self", "other"] (spR g 2 REq) := by
  refine fn_body F scE rfl fun cdv A outer s H E B hB as d hr hl h => ?_
  obtain ⟨n, ts, rfl, rfl⟩ := h
  refine hs_ret (ve_is (d2 := .py (.bool true)) (ve_and (ve_isi (k := true) T.cl T.tW T.tT T.isinst (ve_var 1) rfl (ve_cls T.gW) (.own _) (kit_self _)) fun _ => ve_and (ve_cmp (op_eqD (hu64 hr)) (od_eq (sh_int _) (sh_int _) (k := true) ?_) (ve_points T.cl (ve_var 0)) (ve_points T.cl (ve_var 1)))
    fun _ => ve_one (ve_cmp (op_eqD (hu64 hr)) (od_eq (sh_TT ts) (sh_TT ts) (k := true) ?_) (ve_ties T.cl (ve_var 0)) (ve_ties T.cl (ve_var 1)))) rfl) fun _ _ _ p dv => ⟨p.1, dv⟩
  · rw [PyData.eqv, beq_self_eq_true]
  · rw [eqv_TT, decide_eq_true rfl]
end
def rNeW (g : Gc) : R2 := fun x y H Q => ∃ (B : Addr → Prop) (n : Int) (ts : List (List Int)), (∀ a, B a → H a ≠ none) ∧ DV g B H x (.web n (ts.map TD)) ∧ DV g B H y (.web n (ts.map TD)) ∧ ∀ H', Same H H' → Q (.bl false) H'
/-- what the top says of the webs' class, for != -/
structure EqC (K : PySem.W.Frag) (C f : Addr) : Prop where
  eq : PySem.W.findIn K (.ref C) "__eq__" = some (some (.ref f))
  fn : PySem.W.isFn K (.ref f) = true
  ne : PySem.W.findIn K (.ref C) "__ne__" = some (some (.builtin "object.__ne__"))
  mo : PySem.W.mroIn K C (.type "object") = some true
section
variable {X : Cx} {g : Gc} {W : Wd} {ds : Ds} {a b : Expr} {n : Int} {ts : List (List Int)} {pos : Pos}
theorem op_neW {f : Addr} {fd : FuncData} {ps : List Str} {m : Nat} (F : FnOk X.prog X.w X.K X.mg X.base (L2.CX X.prog X.w) m f fd ps (spR g 2 REq)) (Y : EqC X.K g.CW f) (hb : Binds X.K fd ps []) (hr : Room (m + 1) X.A) : OpR X (compareOp .NotEq) (rNeW g) := by
  intro pins s σ H x y v u Q I rx ry h
  obtain ⟨B, n, ts, hB, hx, hy, q⟩ := h
  obtain ⟨a, dx, t, rfl, na, ha, ht⟩ := id hx
  obtain ⟨b, dy, t', rfl, nb, hb', ht'⟩ := id hy
  cases rx
  cases ry
  obtain ⟨mA, J, _⟩ := ins_get I.hok ha
  obtain ⟨mB, J', _⟩ := ins_get I.hok hb'
  obtain ⟨od, J, _⟩ := J.look
  obtain ⟨od', J', _⟩ := J'.look
  have hsp : spR g 2 REq [.ref a, .ref b] H (fun v H' => v = .bl true ∧ Same H H') (fun _ _ _ => False) := ⟨B, [.web n (ts.map TD), .web n (ts.map TD)], .py (.bool true), hB, rfl, .cons hx (.cons hy .nil), ⟨n, ts, rfl, rfl⟩, fun v H' s' dv => by
    cases dv
    exact ⟨rfl, s'⟩⟩
  have e0 : Env0 X.prog X.w X.K X.mg X.base X.A.in1 X.stack s H := by
    have e := I.env0
    exact ⟨e.frames, e.mod, e.bs, e.bsz, e.funs, e.frf, e.hok, e.bare⟩
  have hl := F.len _ _ _ _ hsp
  show wpAny (model X.prog X.w) X.A (richCompare .NotEq _ _) (EP X pins σ Q) X.xe s
  refine rich_ne (r := true) (tb := .ref g.CW) (by have := hr.un; omega) I.kIn J J'.type (by simp [PySem.W.notFirst]) Y.mo Y.ne Y.eq Y.fn ?_
  refine wpAny_call (codeAny_mono (F.run X.A.in1 X.stack s H ⟨[.ref a, .ref b], []⟩ [.ref a, .ref b] [.ref a, .ref b] _ (fun _ _ _ => False) hr.in1 e0 (by
    have z := hb s [.ref a, .ref b] I.kIn (by simpa using hl)
    simpa using z) (.cons rfl (.cons rfl .nil)) hsp) fun r s' hq => ?_)
  cases r with
  | error e =>
    obtain ⟨_, _, _, _, _, _, _, _, _, _, _, _, z⟩ := (show L2.CX X.prog X.w X.stack H s (fun _ _ _ => False) e s' from hq)
    exact z.elim
  | ok fl =>
    cases fl with
    | ret w =>
      obtain ⟨z, H', I', rz, ez, ex⟩ := I.after hq
      subst ez
      cases rz
      exact ⟨rfl, .bl false, H', I', rfl, q H' ex⟩
    | next => exact hq.elim
    | brk => exact hq.elim
    | cont => exact hq.elim
theorem vt_neW {f : Addr} {fd : FuncData} {ps : List Str} {m : Nat} (F : FnOk X.prog X.w X.K X.mg X.base (L2.CX X.prog X.w) m f fd ps (spR g 2 REq)) (Y : EqC X.K g.CW f) (hb : Binds X.K fd ps []) (hr : Room (m + 1) X.A) (h1 : VE g X W ds a (.web n (ts.map TD))) (h2 : VE g X W ds b (.web n (ts.map TD)))
    (hm : behindInMarks .NotEq b = false := by first | exact nomark _ | rfl | with_unfolding_all rfl) : VT g X W ds (.Compare a [.NotEq] [b] pos) false :=
  vt_cmp (op_neW F Y hb hr) (fun B H x y Q hB h1 h2 q => ⟨B, n, ts, hB, h1, h2, fun H' s => q _ H' s (.bl false)⟩) h1 h2 hm
end
end My
/-! Re: repr of lists, where no repr is under way. -/
namespace My
open PySem PySem.Spec PyProof.Rows L2 StX
/-- data that repr may show -/
def Tiny (z : PyData) : Prop := PyData.layable0 z = true ∧ z.showable = true ∧ z.intsShort 13 = true
def rRepr (K : PySem.W.Frag) : List V → Hp → VK → Prop := fun xs H Q => ∃ (x : V) (zs : List PyData), xs = [x] ∧ Dp K H x (.list zs) ∧ Tiny (.list zs) ∧ Q (.str (PyData.shown (.list zs))) H
section
variable {g : Gc} {X : Cx} {W : Wd} {ds : Ds} {a b e : Expr} {p p2 pos : Pos} {zs : List PyData} {k : Nat}
theorem call_repr (hG : X.A.guards = some []) (hr : Room k X.A) : CallR X (.builtin "repr") (rRepr X.K) := by
  intro pins s σ H xs us Q I r h
  obtain ⟨x, zs, rfl, hd, ⟨h1, h2, h3⟩, q⟩ := h
  cases r with
  | @cons _ u _ us' r1 r2 =>
    cases r2
    obtain ⟨as, rd⟩ := Dp.reads I (.list zs) x u hd r1
    have hl := shown_le13 h1 h3
    cases hd with
    | lst q0 d0 =>
      obtain rfl : u = Value.ref _ := r1
      refine repr_of_reads' rd h2 (PyData.noDict_hsm (PyData.hasDict_of_layable h1)) hG (room_of_layable h1 (by have := hr.un; omega)) (fun _ _ e => e) (fun h' w tk hk => ?_) (Nat.le_trans hl (by decide))
      exact ⟨.str _, H, I.kept hk, ⟨_, rfl⟩, q⟩
theorem ve_repr (hG : X.A.guards = some []) (hr : Room k X.A) (hm : X.mg "repr" = none) (h : VE g X W ds e (.py (.list zs))) (t : Tiny (.list zs)) (hg : Gl X "repr" := by rfl) (he : starEach [e] X.env = (false, eval e X.env) :: starEach [] X.env := by rfl) (hpl : (backTo pos (starEach [] X.env)).any (·.1) = false := by rfl) :
    VE g X W ds (.Call (.Name "repr" p) [e] [] pos) (.py (.str (PyData.shown (.list zs)))) :=
  ve_blt (call_repr hG hr) (cd1 (d1 := .py (.list zs)) fun B H v Q _ dv q => ⟨v, zs, rfl, Dq.dp (.list zs) v dv, t, q _ H (Same.refl H) (.str _)⟩) (by first | rfl | kernel_rfl) hm (va_cons h va_nil he) hg (by decide) (by decide) he hpl
theorem od_neS {x y : Str} : OpD g rNe (.py (.str x)) (.py (.str y)) (.py (.bool (!decide (V.str x = V.str y)))) := fun B H u v Q _ h1 h2 q => by
  cases h1
  cases h2
  exact ⟨rfl, q _ H (Same.refl H) (.bl _)⟩
theorem od_eqS {x y : Str} : OpD g rEq (.py (.str x)) (.py (.str y)) (.py (.bool (decide (V.str x = V.str y)))) := fun B H u v Q _ h1 h2 q => by
  cases h1
  cases h2
  exact ⟨rfl, q _ H (Same.refl H) (.bl _)⟩
/-- repr(a) != repr(b), the two alike -/
theorem vt_reprNe {pa pa2 pb pb2 : Pos} (hG : X.A.guards = some []) (hr : Room k X.A) (hm : X.mg "repr" = none) (h1 : VE g X W ds a (.py (.list zs))) (h2 : VE g X W ds b (.py (.list zs))) (t : Tiny (.list zs)) (hg : Gl X "repr" := by rfl)
    (e1 : starEach [a] X.env = (false, eval a X.env) :: starEach [] X.env := by rfl) (e2 : starEach [b] X.env = (false, eval b X.env) :: starEach [] X.env := by rfl) (hp1 : (backTo pa (starEach [] X.env)).any (·.1) = false := by rfl) (hp2 : (backTo pb (starEach [] X.env)).any (·.1) = false := by rfl) :
    VT g X W ds (.Compare (.Call (.Name "repr" pa2) [a] [] pa) [.NotEq] [.Call (.Name "repr" pb2) [b] [] pb] pos) false := by
  have z := vt_cmp (pos := pos) op_ne (od_neS (g := g)) (ve_repr (p := pa2) (pos := pa) hG hr hm h1 t hg e1 hp1) (ve_repr (p := pb2) (pos := pb) hG hr hm h2 t hg e2 hp2)
  rw [decide_eq_true rfl] at z
  exact z
theorem ve_reprEq {pa pa2 pb pb2 : Pos} (hG : X.A.guards = some []) (hr : Room k X.A) (hm : X.mg "repr" = none) (h1 : VE g X W ds a (.py (.list zs))) (h2 : VE g X W ds b (.py (.list zs))) (t : Tiny (.list zs)) (hg : Gl X "repr" := by rfl)
    (e1 : starEach [a] X.env = (false, eval a X.env) :: starEach [] X.env := by rfl) (e2 : starEach [b] X.env = (false, eval b X.env) :: starEach [] X.env := by rfl) (hp1 : (backTo pa (starEach [] X.env)).any (·.1) = false := by rfl) (hp2 : (backTo pb (starEach [] X.env)).any (·.1) = false := by rfl) :
    VE g X W ds (.Compare (.Call (.Name "repr" pa2) [a] [] pa) [.Eq] [.Call (.Name "repr" pb2) [b] [] pb] pos) (.py (.bool true)) := by
  have z := ve_cmp (pos := pos) op_eq (od_eqS (g := g)) (ve_repr (p := pa2) (pos := pa) hG hr hm h1 t hg e1 hp1) (ve_repr (p := pb2) (pos := pb) hG hr hm h2 t hg e2 hp2)
  rw [decide_eq_true rfl] at z
  exact z
end
/-! small data -/
/-- an int that repr may show, of few bits -/
def TinyI (i : Int) : Prop := 0 ≤ i ∧ i < 1000
theorem wt_int {i : Int} (h : TinyI i) : PyData.weight (.int i) ≤ 10 := by
  rw [PyData.weight]
  split
  · omega
  · have : i.natAbs.log2 < 10 := (Nat.log2_lt (by have := h.1; rename_i e; simp at e; omega)).mpr (by have := h.1; have := h.2; omega)
    omega
theorem show_int {i : Int} (h : TinyI i) : PyData.showable (.int i) = true := by
  rw [PyData.showable]
  refine decide_eq_true ?_
  by_cases e : i.natAbs = 0
  · rw [e]
    decide
  · exact (Nat.log2_lt e).mpr (Nat.lt_of_lt_of_le (show i.natAbs < 2 ^ 10 by have := h.1; have := h.2; omega) (Nat.pow_le_pow_right (by decide) (by decide)))
theorem short_int {i : Int} (h : TinyI i) : PyData.intsShort 13 (.int i) = true := by
  rw [PyData.intsShort]
  exact decide_eq_true (PyData.shown_int_le2 (by have := h.1; omega) (by have := h.2; omega))
theorem tiny_ints : ∀ {l : List Int}, (∀ i ∈ l, TinyI i) → PyData.weightAll (l.map .int) ≤ 11 * l.length ∧ PyData.showableAll (l.map .int) = true ∧ PyData.intsShortAll 13 (l.map .int) = true
  | [], _ => ⟨by simp [PyData.weightAll], by simp [PyData.showableAll], by simp [PyData.intsShortAll]⟩
  | x :: l, h => by
    have hx := h x List.mem_cons_self
    obtain ⟨h1, h2, h3⟩ := tiny_ints (l := l) fun i hi => h i (List.mem_cons_of_mem _ hi)
    refine ⟨?_, ?_, ?_⟩
    · show PyData.weightAll (.int x :: l.map .int) ≤ _
      rw [PyData.weightAll, List.length_cons]
      have := wt_int hx
      omega
    · show PyData.showableAll (.int x :: l.map .int) = true
      rw [PyData.showableAll, show_int hx, h2]
      rfl
    · show PyData.intsShortAll 13 (.int x :: l.map .int) = true
      rw [PyData.intsShortAll, short_int hx, h3]
      rfl
/-- teams that repr may show -/
def TinyT (ts : List (List Int)) : Prop := ts.length ≤ 100 ∧ ∀ t ∈ ts, t.length ≤ 100 ∧ ∀ i ∈ t, TinyI i
theorem tiny_TD {t : List Int} (h : ∀ i ∈ t, TinyI i) (hl : t.length ≤ 100) : PyData.weight (TD t) ≤ 1100 ∧ PyData.showable (TD t) = true ∧ PyData.intsShort 13 (TD t) = true := by
  obtain ⟨h1, h2, h3⟩ := tiny_ints h
  unfold TD
  refine ⟨?_, ?_, ?_⟩
  · rw [PyData.weight]
    omega
  · rw [PyData.showable]
    exact h2
  · rw [PyData.intsShort]
    exact h3
theorem tiny_TDs : ∀ {ts : List (List Int)}, (∀ t ∈ ts, t.length ≤ 100 ∧ ∀ i ∈ t, TinyI i) → PyData.weightAll (ts.map TD) ≤ 1101 * ts.length ∧ PyData.showableAll (ts.map TD) = true ∧ PyData.intsShortAll 13 (ts.map TD) = true
  | [], _ => ⟨by simp [PyData.weightAll], by simp [PyData.showableAll], by simp [PyData.intsShortAll]⟩
  | t :: ts, h => by
    obtain ⟨a1, a2⟩ := h t List.mem_cons_self
    obtain ⟨b1, b2, b3⟩ := tiny_TD a2 a1
    obtain ⟨h1, h2, h3⟩ := tiny_TDs (ts := ts) fun i hi => h i (List.mem_cons_of_mem _ hi)
    refine ⟨?_, ?_, ?_⟩
    · show PyData.weightAll (TD t :: ts.map TD) ≤ _
      rw [PyData.weightAll, List.length_cons]
      omega
    · show PyData.showableAll (TD t :: ts.map TD) = true
      rw [PyData.showableAll, b2, h2]
      rfl
    · show PyData.intsShortAll 13 (TD t :: ts.map TD) = true
      rw [PyData.intsShortAll, b3, h3]
      rfl
theorem tiny_of {zs : List PyData} (h1 : SeqAt.shaped (.list zs) = true) (h2 : PyData.weightAll zs ≤ 2 ^ 20) (h3 : PyData.showableAll zs = true) (h4 : PyData.intsShortAll 13 zs = true) : Tiny (.list zs) := by
  have h1 : (PyData.canLay0 (.list zs) && decide (PyData.depth (.list zs) ≤ 64)) = true := h1
  refine ⟨?_, by rw [PyData.showable]; exact h3, by rw [PyData.intsShort]; exact h4⟩
  show (PyData.canLay0 (.list zs) && decide (PyData.depth (.list zs) ≤ 64) && decide (PyData.weight (.list zs) ≤ 2 ^ 20)) = true
  rw [h1, PyData.weight, decide_eq_true h2]
  rfl
/-- [n, teams (a list), a team] -/
theorem tiny1 {n : Int} {ts : List (List Int)} {t : List Int} (hn : TinyI n) (h : TinyT ts) (ht : t.length ≤ 100 ∧ ∀ i ∈ t, TinyI i) : Tiny (.list [.int n, LT ts, TD t]) := by
  obtain ⟨h1, h2, h3⟩ := tiny_TDs h.2
  obtain ⟨b1, b2, b3⟩ := tiny_TD ht.2 ht.1
  refine tiny_of (sh_of ?_ ?_) ?_ ?_ ?_
  · simp only [PyData.canLay0, PyData.canLayAll0, lay_TDs, lay_TD]
    rfl
  · have := depth_TDs ts
    have := depth_TD t
    simp only [PyData.depth, PyData.depthAll]
    omega
  · have := wt_int hn
    have := h.1
    have e : PyData.weight (LT ts) = PyData.weightAll (ts.map TD) := by show PyData.weight (.list _) = _; rw [PyData.weight]
    simp only [PyData.weightAll, e]
    omega
  · have e : PyData.showable (LT ts) = PyData.showableAll (ts.map TD) := by show PyData.showable (.list _) = _; rw [PyData.showable]
    simp only [PyData.showableAll, e, show_int hn, h2, b2]
    rfl
  · have e : PyData.intsShort 13 (LT ts) = PyData.intsShortAll 13 (ts.map TD) := by show PyData.intsShort 13 (.list _) = _; rw [PyData.intsShort]
    simp only [PyData.intsShortAll, e, short_int hn, h3, b3]
    rfl
/-- [n, teams (a tuple)] -/
theorem tiny2 {n : Int} {ts : List (List Int)} (hn : TinyI n) (h : TinyT ts) : Tiny (.list [.int n, QT ts]) := by
  obtain ⟨h1, h2, h3⟩ := tiny_TDs h.2
  refine tiny_of (sh_of ?_ ?_) ?_ ?_ ?_
  · simp only [PyData.canLay0, PyData.canLayAll0, lay_TDs]
    rfl
  · have := depth_TDs ts
    simp only [PyData.depth, PyData.depthAll]
    omega
  · have := wt_int hn
    have := h.1
    have e : PyData.weight (QT ts) = PyData.weightAll (ts.map TD) := by show PyData.weight (.tuple _) = _; rw [PyData.weight]
    simp only [PyData.weightAll, e]
    omega
  · have e : PyData.showable (QT ts) = PyData.showableAll (ts.map TD) := by show PyData.showable (.tuple _) = _; rw [PyData.showable]
    simp only [PyData.showableAll, e, show_int hn, h2]
    rfl
  · have e : PyData.intsShort 13 (QT ts) = PyData.intsShortAll 13 (ts.map TD) := by show PyData.intsShort 13 (.tuple _) = _; rw [PyData.intsShort]
    simp only [PyData.intsShortAll, e, short_int hn, h3]
    rfl
end My
/-! Mb: the teams of a web, in plain lists. -/
namespace My
open PySem PySem.Spec PyProof.Rows L2 StX
theorem untied_congr {n : Nat} {ts ts' : List (List Int)} (h : ∀ t, t ∈ ts ↔ t ∈ ts') : untied n ts = untied n ts' := by
  unfold untied
  refine List.filter_congr fun p _ => ?_
  by_cases e : pI p ∈ ts
  · rw [decide_eq_true e, decide_eq_true ((h _).mp e)]
  · rw [decide_eq_false e, decide_eq_false fun z => e ((h _).mpr z)]
theorem many_congr {n : Nat} {ts ts' : List (List Int)} (h : ∀ t, t ∈ ts ↔ t ∈ ts') : webMany n ts = webMany n ts' := by
  unfold webMany
  rw [untied_congr h]
theorem teams_congr {n : Nat} {ts ts' : List (List Int)} (h : ∀ t, t ∈ ts ↔ t ∈ ts') : webTeams n ts = webTeams n ts' := by
  unfold webTeams
  rw [untied_congr h]
theorem mem_bareL {ps : List (Nat × Nat)} {q : Nat} {x : Int} : x ∈ bareL ps q ↔ ∃ k, x = (k : Nat) ∧ ∃ h : k < ps.length, q = (ps[k]).1 ∨ q = (ps[k]).2 := by
  unfold bareL
  rw [List.mem_map]
  constructor
  · rintro ⟨k, hk, rfl⟩
    obtain ⟨h1, h2⟩ := List.mem_filter.mp hk
    have hl := List.mem_range.mp h1
    refine ⟨k, rfl, hl, ?_⟩
    have e : ps.getD k (0, 0) = ps[k] := by
      rw [List.getD_eq_getElem?_getD, List.getElem?_eq_getElem hl]
      rfl
    rw [e] at h2
    exact mem_pI.mp (of_decide_eq_true h2)
  · rintro ⟨k, rfl, hl, h⟩
    have e : ps.getD k (0, 0) = ps[k] := by
      rw [List.getD_eq_getElem?_getD, List.getElem?_eq_getElem hl]
      rfl
    exact ⟨k, List.mem_filter.mpr ⟨List.mem_range.mpr hl, by rw [e]; exact decide_eq_true (mem_pI.mpr h)⟩, rfl⟩
theorem bareL_lt (ps : List (Nat × Nat)) (q : Nat) : (bareL ps q).Pairwise (· < ·) := by
  unfold bareL
  exact List.pairwise_map.mpr ((List.pairwise_lt_range.filter _).imp fun h => by omega)
theorem bareL_len (ps : List (Nat × Nat)) (q : Nat) : (bareL ps q).length ≤ ps.length := by
  unfold bareL
  rw [List.length_map]
  exact Nat.le_trans (List.length_filter_le _ _) (by rw [List.length_range]; exact Nat.le_refl _)
theorem mem_lones {n : Nat} {c : Nat → List Int} {q : Nat} : q ∈ lones n c ↔ q < n ∧ loneP n c q = true := by
  unfold lones
  rw [List.mem_filter, List.mem_range]
theorem two_len {l : List Nat} {a b : Nat} (ha : a ∈ l) (hb : b ∈ l) (h : a ≠ b) : 1 < l.length := by
  rcases l with _ | ⟨x, _ | ⟨y, l⟩⟩
  · cases ha
  · exact absurd ((List.mem_singleton.mp ha).trans (List.mem_singleton.mp hb).symm) h
  · show 1 < l.length + 1 + 1
    omega
theorem lones_nd (n : Nat) (c : Nat → List Int) : (lones n c).Nodup := List.nodup_range.filter _
theorem idx_inj {l : List Nat} {a b : Nat} (ha : a ∈ l) (hb : b ∈ l) (e : l.idxOf a = l.idxOf b) : a = b := by
  have h1 := List.getElem_idxOf (List.idxOf_lt_length_of_mem ha)
  have h2 := List.getElem_idxOf (List.idxOf_lt_length_of_mem hb)
  rw [← h1, ← h2]
  congr 1
theorem mem_team {n q : Nat} {c : Nat → List Int} {x : Int} : x ∈ teamAt n c q ↔ (q ∈ lones n c ∧ x = ((lones n c).idxOf q : Nat)) ∨ ∃ k ∈ c q, x = ((lones n c).length : Int) + k := by
  unfold teamAt
  rw [List.mem_append, List.mem_map]
  constructor
  · rintro (h | ⟨k, hk, e⟩)
    · by_cases z : q ∈ lones n c
      · rw [if_pos z] at h
        exact .inl ⟨z, List.mem_singleton.mp h⟩
      · rw [if_neg z] at h
        cases h
    · exact .inr ⟨k, hk, e.symm⟩
  · rintro (⟨z, e⟩ | ⟨k, hk, e⟩)
    · left
      rw [if_pos z, e]
      exact List.mem_singleton.mpr rfl
    · exact .inr ⟨k, hk, e.symm⟩
section
variable {n : Nat} {ts : List (List Int)}
theorem bare_of (n : Nat) (ts : List (List Int)) : bare (untied n ts) = bareL (untied n ts) := bare_eq untied_ne
abbrev teamW (n : Nat) (ts : List (List Int)) (q : Nat) : List Int := teamAt n (bare (untied n ts)) q
/-- a pair that shows at place k of both is the pair itself -/
theorem pair_at {n : Nat} {ts : List (List Int)} {a b k : Nat} (hab : a < b) (hk : k < (untied n ts).length) (ha : a = ((untied n ts)[k]).1 ∨ a = ((untied n ts)[k]).2) (hb : b = ((untied n ts)[k]).1 ∨ b = ((untied n ts)[k]).2) : (untied n ts)[k] = (a, b) := by
  have h := (mem_untied.mp (List.getElem_mem hk)).1.1
  refine Prod.ext ?_ ?_
  · show ((untied n ts)[k]).1 = a
    omega
  · show ((untied n ts)[k]).2 = b
    omega
/-- two points are tied where their teams share nobody -/
theorem tied_apart {a b : Nat} (hab : a < b) (hb : b < n) : decide ([(a : Int), (b : Int)] ∈ ts) = apartI (teamW n ts a) (teamW n ts b) := by
  have key : ([(a : Int), (b : Int)] ∈ ts) ↔ ∀ x ∈ teamW n ts a, x ∉ teamW n ts b := by
    constructor
    · intro h x h1 h2
      rw [mem_team, bare_of] at h1 h2
      rcases h1 with ⟨l1, e1⟩ | ⟨k1, m1, e1⟩
      · have i1 := List.idxOf_lt_length_of_mem l1
        rcases h2 with ⟨l2, e2⟩ | ⟨k2, m2, e2⟩
        · have := idx_inj l1 l2 (by omega)
          omega
        · obtain ⟨k, rfl, _⟩ := mem_bareL.mp m2
          omega
      · obtain ⟨k, rfl, hk, hka⟩ := mem_bareL.mp m1
        rcases h2 with ⟨l2, e2⟩ | ⟨k2, m2, e2⟩
        · have i2 := List.idxOf_lt_length_of_mem l2
          omega
        · obtain ⟨k', rfl, hk', hkb⟩ := mem_bareL.mp m2
          have ek : k' = k := by omega
          subst ek
          have e := pair_at hab hk hka hkb
          have z := (mem_untied.mp (List.getElem_mem hk)).2
          rw [e] at z
          exact z h
    · intro h
      refine Classical.byContradiction fun z => ?_
      have hm : (a, b) ∈ untied n ts := mem_untied.mpr ⟨⟨hab, hb⟩, z⟩
      obtain ⟨k, hk, e⟩ := List.mem_iff_getElem.mp hm
      have ma : ((k : Nat) : Int) ∈ bareL (untied n ts) a := mem_bareL.mpr ⟨k, rfl, hk, .inl (by rw [e])⟩
      have mb : ((k : Nat) : Int) ∈ bareL (untied n ts) b := mem_bareL.mpr ⟨k, rfl, hk, .inr (by rw [e])⟩
      refine h (((lones n (bare (untied n ts))).length : Int) + k) (mem_team.mpr (.inr ⟨k, by rw [bare_of]; exact ma, rfl⟩)) (mem_team.mpr (.inr ⟨k, by rw [bare_of]; exact mb, rfl⟩))
  unfold apartI
  by_cases h : [(a : Int), (b : Int)] ∈ ts
  · rw [decide_eq_true h]
    have : (teamW n ts a).any (fun x => decide (x ∈ teamW n ts b)) = false := List.any_eq_false.mpr fun x hx e => key.mp h x hx (of_decide_eq_true e)
    rw [this]
    rfl
  · rw [decide_eq_false h]
    have : (teamW n ts a).any (fun x => decide (x ∈ teamW n ts b)) = true := by
      refine Classical.byContradiction fun z => h (key.mpr fun x hx hy => z (List.any_eq_true.mpr ⟨x, hx, decide_eq_true hy⟩))
    rw [this]
    rfl
theorem team_lt (q : Nat) : (teamW n ts q).Pairwise (· < ·) := by
  show List.Pairwise _ (teamAt n (bare (untied n ts)) q)
  unfold teamAt
  rw [List.pairwise_append, bare_of]
  refine ⟨?_, List.pairwise_map.mpr ((bareL_lt _ q).imp fun h => by omega), fun x hx y hy => ?_⟩
  · split
    · exact List.pairwise_singleton _ _
    · exact List.Pairwise.nil
  · obtain ⟨k, hk, rfl⟩ := List.mem_map.mp hy
    obtain ⟨m, rfl, _⟩ := mem_bareL.mp hk
    by_cases z : q ∈ lones n (bareL (untied n ts))
    · rw [if_pos z] at hx
      have := List.mem_singleton.mp hx
      have i := List.idxOf_lt_length_of_mem z
      omega
    · rw [if_neg z] at hx
      cases hx
theorem team_in {q : Nat} {x : Int} (h : x ∈ teamW n ts q) : 0 ≤ x ∧ x < (webMany n ts : Nat) := by
  rw [mem_team] at h
  unfold webMany
  rcases h with ⟨l, e⟩ | ⟨k, hk, e⟩
  · have i := List.idxOf_lt_length_of_mem l
    omega
  · rw [bare_of] at hk
    obtain ⟨m, rfl, hm, _⟩ := mem_bareL.mp hk
    omega
theorem team_ne {q : Nat} (hq : q < n) : teamW n ts q ≠ [] := by
  intro e
  by_cases h : bare (untied n ts) q = []
  · have l : q ∈ lones n (bare (untied n ts)) := mem_lones.mpr ⟨hq, by unfold loneP; rw [decide_eq_true h]; rfl⟩
    have m : ((lones n (bare (untied n ts))).idxOf q : Int) ∈ teamW n ts q := mem_team.mpr (.inl ⟨l, rfl⟩)
    rw [e] at m
    cases m
  · obtain ⟨k, hk⟩ := List.exists_mem_of_ne_nil _ h
    have m : ((lones n (bare (untied n ts))).length : Int) + k ∈ teamW n ts q := mem_team.mpr (.inr ⟨k, hk, rfl⟩)
    rw [e] at m
    cases m
theorem team_len (q : Nat) : (teamW n ts q).length ≤ 1 + n * n := by
  show (teamAt n (bare (untied n ts)) q).length ≤ _
  unfold teamAt
  rw [List.length_append, List.length_map, bare_of]
  have h1 := bareL_len (untied n ts) q
  have h2 := untied_len n ts
  have h3 : (if q ∈ lones n (bareL (untied n ts)) then [((lones n (bareL (untied n ts))).idxOf q : Int)] else []).length ≤ 1 := by split <;> simp
  omega
/-- the teams tell the points apart -/
theorem team_inj {a b : Nat} (ha : a < n) (hb : b < n) (e : teamW n ts a = teamW n ts b) : a = b := by
  -- what they are bare of is the same
  have sub : ∀ {a b : Nat}, teamW n ts a = teamW n ts b → ∀ k ∈ bare (untied n ts) a, k ∈ bare (untied n ts) b := fun {a b} e k hk => by
    have m : ((lones n (bare (untied n ts))).length : Int) + k ∈ teamW n ts a := mem_team.mpr (.inr ⟨k, hk, rfl⟩)
    rw [e, mem_team] at m
    rcases m with ⟨l, z⟩ | ⟨k', hk', z⟩
    · have i := List.idxOf_lt_length_of_mem l
      rw [bare_of] at hk
      obtain ⟨j, rfl, _⟩ := mem_bareL.mp hk
      omega
    · have : k' = k := by omega
      rw [← this]
      exact hk'
  have srt : ∀ q, (bare (untied n ts) q).Pairwise (· < ·) := fun q => by rw [bare_of]; exact bareL_lt _ q
  have be : bare (untied n ts) a = bare (untied n ts) b := by
    have nd : ∀ q, (bare (untied n ts) q).Nodup := fun q => (srt q).imp fun h => by omega
    have p : (bare (untied n ts) a).Perm (bare (untied n ts) b) := (List.perm_ext_iff_of_nodup (nd a) (nd b)).mpr fun k => ⟨sub e k, sub e.symm k⟩
    exact p.eq_of_pairwise (fun x y _ _ h1 h2 => by omega) (srt a) (srt b)
  refine Classical.byContradiction fun hne => ?_
  -- then both are alone
  have cnt : 1 < (List.range n).countP fun r => decide (bare (untied n ts) r = bare (untied n ts) a) := by
    rw [List.countP_eq_length_filter]
    exact two_len (List.mem_filter.mpr ⟨List.mem_range.mpr ha, decide_eq_true rfl⟩) (List.mem_filter.mpr ⟨List.mem_range.mpr hb, decide_eq_true be.symm⟩) hne
  have la : a ∈ lones n (bare (untied n ts)) := mem_lones.mpr ⟨ha, by unfold loneP; rw [decide_eq_true cnt, Bool.or_true]⟩
  have lb : b ∈ lones n (bare (untied n ts)) := mem_lones.mpr ⟨hb, by unfold loneP; rw [← be, decide_eq_true cnt, Bool.or_true]⟩
  have m : ((lones n (bare (untied n ts))).idxOf a : Int) ∈ teamW n ts a := mem_team.mpr (.inl ⟨la, rfl⟩)
  rw [e, mem_team] at m
  rcases m with ⟨_, z⟩ | ⟨k, hk, z⟩
  · exact hne (idx_inj la lb (by omega))
  · have i := List.idxOf_lt_length_of_mem la
    rw [bare_of] at hk
    obtain ⟨j, rfl, _⟩ := mem_bareL.mp hk
    omega
end
end My
/-! Mc: what the law compares, in plain lists. -/
namespace My
open PySem PySem.Spec PyProof.Rows L2 StX
/-! the two orders -/
theorem sortT_sorted (l : List (List Int)) : (sortT l).Pairwise fun a b => a ≤ b := by
  have h := List.pairwise_mergeSort (le := fun a b : List Int => decide (a ≤ b)) (fun a b c h1 h2 => decide_eq_true (List.le_trans (of_decide_eq_true h1) (of_decide_eq_true h2))) (fun a b => by
    rcases List.le_total a b with h | h
    · rw [decide_eq_true h]
      rfl
    · rw [decide_eq_true h, Bool.or_true]) l
  exact h.imp fun h => of_decide_eq_true h
theorem sortT_perm2 {l m : List (List Int)} (h : l.Perm m) : sortT l = sortT m := by
  have p : (sortT l).Perm (sortT m) := (sortT_perm l).trans (h.trans (sortT_perm m).symm)
  exact p.eq_of_pairwise (fun x y _ _ h1 h2 => List.le_antisymm h1 h2) (sortT_sorted l) (sortT_sorted m)
theorem sortT_id {l : List (List Int)} (h : l.Pairwise fun a b => a ≤ b) : sortT l = l := List.mergeSort_of_pairwise (h.imp fun z => decide_eq_true z)
theorem sortT_idem (l : List (List Int)) : sortT (sortT l) = sortT l := sortT_id (sortT_sorted l)
theorem sortI_id {l : List Int} (h : l.Pairwise (· < ·)) : sortI l = l := List.mergeSort_of_pairwise (h.imp fun z => decide_eq_true (by omega))
theorem sortI_two (a b : Int) : sortI [a, b] = [min a b, max a b] := by
  by_cases h : a ≤ b
  · have e : sortI [a, b] = [a, b] := List.mergeSort_of_pairwise (by
      rw [List.pairwise_cons]
      exact ⟨fun y hy => by rw [List.mem_singleton.mp hy]; exact decide_eq_true h, List.pairwise_singleton _ _⟩)
    rw [e, Int.min_eq_left h, Int.max_eq_right h]
  · have p : (sortI [a, b]).Perm (sortI [b, a]) := (sortI_perm _).trans ((List.Perm.swap b a []).trans (sortI_perm _).symm)
    have e : sortI [b, a] = [b, a] := List.mergeSort_of_pairwise (by
      rw [List.pairwise_cons]
      exact ⟨fun y hy => by rw [List.mem_singleton.mp hy]; exact decide_eq_true (by omega), List.pairwise_singleton _ _⟩)
    have q : (sortI [a, b]).Pairwise fun x y => x ≤ y := by
      have h := List.pairwise_mergeSort (le := fun a b : Int => decide (a ≤ b)) (fun a b c h1 h2 => decide_eq_true (by have := of_decide_eq_true h1; have := of_decide_eq_true h2; omega)) (fun a b => by
        by_cases h : a ≤ b
        · rw [decide_eq_true h]
          rfl
        · rw [decide_eq_true (show b ≤ a by omega), Bool.or_true]) [a, b]
      exact h.imp fun h => of_decide_eq_true h
    rw [e] at p
    have z : sortI [a, b] = [b, a] := p.eq_of_pairwise (fun x y _ _ h1 h2 => by omega) q (by
      rw [List.pairwise_cons]
      exact ⟨fun y hy => by rw [List.mem_singleton.mp hy]; omega, List.pairwise_singleton _ _⟩)
    rw [z, Int.min_eq_right (by omega), Int.max_eq_left (by omega)]
theorem keptTeams_lt {ts : List (List Int)} (h : ∀ t ∈ ts, t.Pairwise (· < ·)) : ts.map sortI = ts := by
  rw [List.map_congr_left fun t ht => sortI_id (h t ht), List.map_id']
theorem kept_lt {ts : List (List Int)} (h : ∀ t ∈ ts, t.Pairwise (· < ·)) : keptTeams ts = sortT ts := by
  unfold keptTeams
  rw [keptTeams_lt h]
/-! the pairs lie in order -/
theorem lex_lt {a b c d : Int} (h : a < c ∨ a = c ∧ b < d) : [a, b] < [c, d] := by
  rcases h with h | ⟨rfl, h⟩
  · exact List.Lex.rel h
  · exact List.Lex.cons (List.Lex.rel h)
theorem prs_lt (n : Nat) : (prs n).Pairwise fun p q => p.1 < q.1 ∨ p.1 = q.1 ∧ p.2 < q.2 := by
  unfold prs
  rw [List.pairwise_flatMap]
  refine ⟨fun i hi => List.pairwise_map.mpr (List.pairwise_lt_range.imp fun h => .inr ⟨rfl, by dsimp only; omega⟩), List.pairwise_lt_range.imp fun {i j} h => ?_⟩
  intro x h1 y h2
  obtain ⟨a, _, rfl⟩ := List.mem_map.mp h1
  obtain ⟨b, _, rfl⟩ := List.mem_map.mp h2
  exact .inl h
theorem pI_sorted {ps : List (Nat × Nat)} (h : ps.Pairwise fun p q => p.1 < q.1 ∨ p.1 = q.1 ∧ p.2 < q.2) : (ps.map pI).Pairwise fun a b => a ≤ b :=
  List.pairwise_map.mpr (h.imp fun z => List.le_of_lt (lex_lt (by omega)))
theorem kept_sub {n : Nat} {ps : List (Nat × Nat)} (h : ps.Sublist (prs n)) : keptTies ps = ps.map pI := sortT_id (pI_sorted ((prs_lt n).sublist h))
theorem sub_tie {n : Nat} {ps : List (Nat × Nat)} (h : ps.Sublist (prs n)) : ∀ p ∈ ps, TieOk n p := fun p hp => mem_prs.mp (h.subset hp)
theorem sub_nd {n : Nat} {ps : List (Nat × Nat)} (h : ps.Sublist (prs n)) : ps.Nodup := (prs_nodup n).sublist h
theorem sub_len {n : Nat} {ps : List (Nat × Nat)} (h : ps.Sublist (prs n)) : ps.length ≤ n * n := Nat.le_trans h.length_le (prs_len n)
theorem apart_sub (ts : List (List Int)) : (apartPrs ts).Sublist (prs ts.length) := List.filter_sublist
theorem mem_pIs {ps : List (Nat × Nat)} {a b : Nat} : [(a : Int), (b : Int)] ∈ ps.map pI ↔ (a, b) ∈ ps := by
  rw [List.mem_map]
  constructor
  · rintro ⟨p, hp, e⟩
    rw [← pI_inj (q := (a, b)) e]
    exact hp
  · intro h
    exact ⟨_, h, rfl⟩
/-! the teams of a web are a good list of teams -/
section
variable {n : Nat} {ts : List (List Int)}
theorem wt_len : (webTeams n ts).length = n := webTeams_len n ts
theorem wt_get {q : Nat} (h : q < n) : (webTeams n ts).getD q [] = teamW n ts q := webTeams_at ts h
theorem wt_mem {t : List Int} : t ∈ webTeams n ts ↔ ∃ q, q < n ∧ t = teamW n ts q := by
  unfold webTeams
  rw [List.mem_map]
  constructor
  · rintro ⟨q, hq, rfl⟩
    exact ⟨q, List.mem_range.mp hq, rfl⟩
  · rintro ⟨q, hq, rfl⟩
    exact ⟨q, List.mem_range.mpr hq, rfl⟩
theorem wt_nd : (webTeams n ts).Nodup := by
  unfold webTeams
  refine List.pairwise_map.mpr ?_
  refine List.Pairwise.imp_of_mem (R := fun a b => a ≠ b) ?_ List.nodup_range
  intro a b ha hb h e
  exact h (team_inj (List.mem_range.mp ha) (List.mem_range.mp hb) e)
theorem wt_lt : ∀ t ∈ webTeams n ts, t.Pairwise (· < ·) := fun t ht => by
  obtain ⟨q, _, rfl⟩ := wt_mem.mp ht
  exact team_lt q
theorem wt_kept : keptTeams (webTeams n ts) = sortT (webTeams n ts) := kept_lt wt_lt
theorem wt_nd2 : ((webTeams n ts).map sortI).Nodup := by
  rw [keptTeams_lt wt_lt]
  exact wt_nd
theorem wt_ok (hn : n ≤ 31) : ∀ t ∈ webTeams n ts, TeamOk (webMany n ts : Nat) t := fun t ht => by
  obtain ⟨q, hq, rfl⟩ := wt_mem.mp ht
  refine ⟨(team_lt q).imp fun h => by omega, ?_, team_ne hq, fun i hi => team_in hi⟩
  have h1 := team_len (n := n) (ts := ts) q
  have h2 := Nat.mul_le_mul hn hn
  omega
theorem many_pos (hn : 1 ≤ n) : 1 ≤ webMany n ts := by
  obtain ⟨x, hx⟩ := List.exists_mem_of_ne_nil _ (team_ne (n := n) (ts := ts) (q := 0) (by omega))
  have := team_in hx
  omega
theorem many_le : webMany n ts ≤ n + n * n := by
  unfold webMany
  have h1 := untied_len n ts
  have h2 : (lones n (bare (untied n ts))).length ≤ n := Nat.le_trans (List.length_filter_le _ _) (by rw [List.length_range]; exact Nat.le_refl _)
  omega
theorem tiny_wt (hn : n ≤ 6) : TinyI (webMany n ts : Nat) ∧ TinyT (webTeams n ts) := by
  have h1 := many_le (n := n) (ts := ts)
  have h2 := Nat.mul_le_mul hn hn
  refine ⟨⟨by omega, by omega⟩, by rw [wt_len]; omega, fun t ht => ?_⟩
  obtain ⟨q, hq, rfl⟩ := wt_mem.mp ht
  have h3 := team_len (n := n) (ts := ts) q
  refine ⟨by omega, fun i hi => ?_⟩
  have := team_in hi
  exact ⟨by omega, by omega⟩
theorem tiny_sort {us : List (List Int)} (h : TinyT us) : TinyT (sortT us) := ⟨by rw [(sortT_perm us).length_eq]; exact h.1, fun t ht => h.2 t ((sortT_perm us).subset ht)⟩
end
end My
/-! Md: the ties of a web, told again by its teams. -/
namespace My
open PySem PySem.Spec PyProof.Rows L2 StX
theorem idx_map {α β : Type} [BEq α] [LawfulBEq α] [BEq β] [LawfulBEq β] {f : α → β} {x : α} : ∀ {l : List α}, x ∈ l → (∀ y ∈ l, f y = f x → y = x) → (l.map f).idxOf (f x) = l.idxOf x
  | [], h, _ => by cases h
  | y :: l, h, g => by
    rw [List.map_cons, List.idxOf_cons, List.idxOf_cons]
    by_cases e : y = x
    · subst e
      simp
    · have e2 : ¬ f y = f x := fun z => e (g y (List.mem_cons_self) z)
      have hx : x ∈ l := (List.mem_cons.mp h).resolve_left fun z => e z.symm
      rw [beq_false_of_ne e, beq_false_of_ne e2, idx_map hx fun z hz => g z (List.mem_cons_of_mem _ hz)]
theorem apart_symm (a b : List Int) : apartI a b = apartI b a := by
  unfold apartI
  congr 1
  rw [Bool.eq_iff_iff, List.any_eq_true, List.any_eq_true]
  constructor
  · rintro ⟨x, h1, h2⟩
    exact ⟨x, of_decide_eq_true h2, decide_eq_true h1⟩
  · rintro ⟨x, h1, h2⟩
    exact ⟨x, of_decide_eq_true h2, decide_eq_true h1⟩
section
variable {n : Nat} {ts : List (List Int)}
abbrev sorW (n : Nat) (ts : List (List Int)) : List (List Int) := sortT (webTeams n ts)
def placesW (n : Nat) (ts : List (List Int)) : List Int := (sorW n ts).map fun t => (((webTeams n ts).idxOf t : Nat) : Int)
def posW (n : Nat) (ts : List (List Int)) (q : Nat) : Nat := (sorW n ts).idxOf (teamW n ts q)
theorem sor_len : (sorW n ts).length = n := by rw [(sortT_perm _).length_eq, wt_len]
theorem sor_nd : (sorW n ts).Nodup := (sortT_perm _).nodup_iff.mpr wt_nd
theorem sor_mem {t : List Int} : t ∈ sorW n ts ↔ ∃ q, q < n ∧ t = teamW n ts q := by rw [(sortT_perm _).mem_iff, wt_mem]
theorem wt_at {q : Nat} (h : q < n) : (webTeams n ts)[q]'(by rw [wt_len]; exact h) = teamW n ts q := by
  have e := wt_get (ts := ts) h
  rw [List.getD_eq_getElem?_getD, List.getElem?_eq_getElem (by rw [wt_len]; exact h)] at e
  exact e
theorem wt_idx {q : Nat} (h : q < n) : (webTeams n ts).idxOf (teamW n ts q) = q := by
  have hm : teamW n ts q ∈ webTeams n ts := wt_mem.mpr ⟨q, h, rfl⟩
  have hl := List.idxOf_lt_length_of_mem hm
  have e := List.getElem_idxOf hl
  rw [wt_len] at hl
  rw [wt_at hl] at e
  exact team_inj hl h e
theorem pos_lt {q : Nat} (h : q < n) : posW n ts q < n := by
  have := List.idxOf_lt_length_of_mem ((sor_mem (ts := ts)).mpr ⟨q, h, rfl⟩)
  rwa [sor_len] at this
theorem sor_pos {q : Nat} (h : q < n) : (sorW n ts).getD (posW n ts q) [] = teamW n ts q := by
  have hl := List.idxOf_lt_length_of_mem ((sor_mem (ts := ts)).mpr ⟨q, h, rfl⟩)
  unfold posW
  rw [List.getD_eq_getElem?_getD, List.getElem?_eq_getElem hl]
  exact List.getElem_idxOf hl
theorem pos_inj {a b : Nat} (ha : a < n) (hb : b < n) (e : posW n ts a = posW n ts b) : a = b := team_inj ha hb (by rw [← sor_pos ha, ← sor_pos hb, e])
theorem pos_sur {i : Nat} (h : i < n) : ∃ q, q < n ∧ posW n ts q = i := by
  have hl : i < (sorW n ts).length := by rw [sor_len]; exact h
  obtain ⟨q, hq, e⟩ := sor_mem.mp (List.getElem_mem hl)
  refine ⟨q, hq, ?_⟩
  unfold posW
  rw [← e]
  have hm := List.idxOf_lt_length_of_mem (List.getElem_mem hl)
  exact (List.getElem_inj sor_nd).mp (List.getElem_idxOf hm)
theorem places_mem {q : Nat} (h : q < n) : (q : Int) ∈ placesW n ts := List.mem_map.mpr ⟨_, sor_mem.mpr ⟨q, h, rfl⟩, by rw [wt_idx h]⟩
theorem places_idx {q : Nat} (h : q < n) : (placesW n ts).idxOf (q : Int) = posW n ts q := by
  have e : (q : Int) = (fun t => (((webTeams n ts).idxOf t : Nat) : Int)) (teamW n ts q) := by
    show (q : Int) = (((webTeams n ts).idxOf (teamW n ts q) : Nat) : Int)
    rw [wt_idx h]
  unfold placesW
  conv => lhs; rw [e]
  refine idx_map (f := fun t => (((webTeams n ts).idxOf t : Nat) : Int)) (x := teamW n ts q) (sor_mem.mpr ⟨q, h, rfl⟩) fun t ht z => ?_
  obtain ⟨r, hr, rfl⟩ := sor_mem.mp ht
  rw [wt_idx hr, wt_idx h] at z
  have : r = q := by omega
  rw [this]
/-- the due ties are those that the teams tell -/
theorem due_ties {ps : List (Nat × Nat)} (h : ps.Sublist (prs n)) (hts : ts = ps.map pI) : sortT (ps.map fun p => sortI [((posW n ts p.1 : Nat) : Int), ((posW n ts p.2 : Nat) : Int)]) = keptTies (apartPrs (sorW n ts)) := by
  refine sortT_perm2 ((List.perm_ext_iff_of_nodup ?_ (nodup_pI ((prs_nodup _).sublist (apart_sub _)))).mpr fun x => ?_)
  · refine List.pairwise_map.mpr (List.Pairwise.imp_of_mem (R := fun a b => a ≠ b) ?_ (sub_nd h))
    intro p q hp hq hne e
    obtain ⟨p1, p2⟩ := sub_tie h p hp
    obtain ⟨q1, q2⟩ := sub_tie h q hq
    rw [sortI_two, sortI_two] at e
    injection e with e1 e2
    injection e2 with e2 _
    have i1 := @pos_inj n ts p.1 q.1 (by omega) (by omega)
    have i2 := @pos_inj n ts p.2 q.2 (by omega) (by omega)
    have i3 := @pos_inj n ts p.1 q.2 (by omega) (by omega)
    have i4 := @pos_inj n ts p.2 q.1 (by omega) (by omega)
    apply hne
    by_cases z : posW n ts p.1 = posW n ts q.1
    · have z2 : posW n ts p.2 = posW n ts q.2 := by omega
      exact Prod.ext (i1 z) (i2 z2)
    · have z1 : posW n ts p.1 = posW n ts q.2 := by omega
      have z2 : posW n ts p.2 = posW n ts q.1 := by omega
      have := i3 z1
      have := i4 z2
      omega
  · constructor
    · intro hx
      obtain ⟨p, hp, rfl⟩ := List.mem_map.mp hx
      obtain ⟨p1, p2⟩ := sub_tie h p hp
      have hne : posW n ts p.1 ≠ posW n ts p.2 := fun e => by
        have := pos_inj (ts := ts) (show p.1 < n by omega) p2 e
        omega
      have hap : apartI (teamW n ts p.1) (teamW n ts p.2) = true := by
        rw [← tied_apart p1 p2]
        refine decide_eq_true ?_
        rw [hts]
        exact mem_pIs.mpr hp
      have l1 := pos_lt (ts := ts) (show p.1 < n by omega)
      have l2 := pos_lt (ts := ts) p2
      rw [sortI_two]
      by_cases z : posW n ts p.1 ≤ posW n ts p.2
      · refine List.mem_map.mpr ⟨(posW n ts p.1, posW n ts p.2), List.mem_filter.mpr ⟨mem_prs.mpr ⟨by dsimp only; omega, by rw [sor_len]; exact l2⟩, ?_⟩, ?_⟩
        · dsimp only
          rw [sor_pos (by omega), sor_pos p2]
          exact hap
        · rw [Int.min_eq_left (by omega), Int.max_eq_right (by omega)]
          rfl
      · refine List.mem_map.mpr ⟨(posW n ts p.2, posW n ts p.1), List.mem_filter.mpr ⟨mem_prs.mpr ⟨by dsimp only; omega, by rw [sor_len]; exact l1⟩, ?_⟩, ?_⟩
        · dsimp only
          rw [sor_pos p2, sor_pos (by omega), apart_symm]
          exact hap
        · rw [Int.min_eq_right (by omega), Int.max_eq_left (by omega)]
          rfl
    · intro hx
      obtain ⟨⟨i, j⟩, hp, rfl⟩ := List.mem_map.mp hx
      obtain ⟨m, ha⟩ := List.mem_filter.mp hp
      have m := mem_prs.mp m
      dsimp only at m ha
      rw [sor_len] at m
      obtain ⟨a, ha1, rfl⟩ := pos_sur (ts := ts) (show i < n by omega)
      obtain ⟨b, hb1, rfl⟩ := pos_sur (ts := ts) m.2
      rw [sor_pos ha1, sor_pos hb1] at ha
      have hne : a ≠ b := fun e => by
        rw [e] at m
        omega
      by_cases z : a < b
      · rw [← tied_apart z hb1] at ha
        have ha := of_decide_eq_true ha
        rw [hts] at ha
        refine List.mem_map.mpr ⟨(a, b), mem_pIs.mp ha, ?_⟩
        dsimp only
        rw [sortI_two, Int.min_eq_left (by omega), Int.max_eq_right (by omega)]
        rfl
      · rw [apart_symm, ← tied_apart (show b < a by omega) ha1] at ha
        have ha := of_decide_eq_true ha
        rw [hts] at ha
        refine List.mem_map.mpr ⟨(b, a), mem_pIs.mp ha, ?_⟩
        dsimp only
        rw [sortI_two, Int.min_eq_right (by omega), Int.max_eq_left (by omega)]
        rfl
end
end My
/-! Me: the two great webs. -/
namespace My
open PySem PySem.Spec PyProof.Rows L2 StX
theorem prs_two : ∀ n, n < 62 → (prs n).length * 2 = n * (n - 1) := by decide +kernel
/-- who meets two others is not alone -/
theorem not_lone {n : Nat} {ts : List (List Int)} {q : Nat} (h : ∀ r, r < n → r ≠ q → ∃ s, (q, s) ∈ untied n ts ∧ s ≠ r ∨ (s, q) ∈ untied n ts ∧ s ≠ r) (h2 : ∃ s, (q, s) ∈ untied n ts ∨ (s, q) ∈ untied n ts) (hq : q < n) : q ∉ lones n (bare (untied n ts)) := by
  intro hl
  have at_ : ∀ s, (q, s) ∈ untied n ts ∨ (s, q) ∈ untied n ts → ∃ k, ∃ h : k < (untied n ts).length, (k : Int) ∈ bareL (untied n ts) q ∧ ((untied n ts)[k] = (q, s) ∨ (untied n ts)[k] = (s, q)) := fun s hs => by
    rcases hs with hs | hs
    · obtain ⟨k, hk, e⟩ := List.mem_iff_getElem.mp hs
      exact ⟨k, hk, mem_bareL.mpr ⟨k, rfl, hk, .inl (by rw [e])⟩, .inl e⟩
    · obtain ⟨k, hk, e⟩ := List.mem_iff_getElem.mp hs
      exact ⟨k, hk, mem_bareL.mpr ⟨k, rfl, hk, .inr (by rw [e])⟩, .inr e⟩
  have hp := (mem_lones.mp hl).2
  unfold loneP at hp
  rcases Bool.or_eq_true_iff.mp hp with e | e
  · have e := of_decide_eq_true e
    obtain ⟨s, hs⟩ := h2
    obtain ⟨k, _, m, _⟩ := at_ s hs
    rw [bare_of] at e
    rw [e] at m
    cases m
  · have e := of_decide_eq_true e
    rw [List.countP_eq_length_filter] at e
    obtain ⟨r, hr, hne⟩ : ∃ r ∈ (List.range n).filter (fun r => decide (bare (untied n ts) r = bare (untied n ts) q)), r ≠ q := by
      refine Classical.byContradiction fun z => ?_
      have all : ∀ r ∈ (List.range n).filter (fun r => decide (bare (untied n ts) r = bare (untied n ts) q)), r = q := fun r hr => Classical.byContradiction fun w => z ⟨r, hr, w⟩
      have nd : ((List.range n).filter (fun r => decide (bare (untied n ts) r = bare (untied n ts) q))).Nodup := List.nodup_range.filter _
      generalize (List.range n).filter (fun r => decide (bare (untied n ts) r = bare (untied n ts) q)) = l at *
      rcases l with _ | ⟨x, _ | ⟨y, l⟩⟩
      · exact absurd e (by decide)
      · exact absurd e (by simp)
      · have e1 := all x (by simp)
        have e2 := all y (by simp)
        rw [e1, e2] at nd
        simp at nd
    obtain ⟨r1, r2⟩ := List.mem_filter.mp hr
    have r1 := List.mem_range.mp r1
    have r2 := of_decide_eq_true r2
    rw [bare_of] at r2
    obtain ⟨s, hs⟩ := h r r1 hne
    have hs2 : ((q, s) ∈ untied n ts ∨ (s, q) ∈ untied n ts) ∧ s ≠ r := by
      rcases hs with ⟨a, b⟩ | ⟨a, b⟩
      · exact ⟨.inl a, b⟩
      · exact ⟨.inr a, b⟩
    obtain ⟨k, hk, m, ek⟩ := at_ s hs2.1
    rw [← r2] at m
    obtain ⟨k', e', hk', hr'⟩ := mem_bareL.mp m
    have : k' = k := by omega
    subst this
    rcases ek with ek | ek <;> rw [ek] at hr' <;> dsimp only at hr' <;> omega
/-- three of many points leave one that is neither of two -/
theorem third {m a b : Nat} (hm : 3 ≤ m) : ∃ s, s < m ∧ s ≠ a ∧ s ≠ b := by
  by_cases h0 : 0 ≠ a ∧ 0 ≠ b
  · exact ⟨0, by omega, h0.1, h0.2⟩
  · by_cases h1 : 1 ≠ a ∧ 1 ≠ b
    · exact ⟨1, by omega, h1.1, h1.2⟩
    · exact ⟨2, by omega, by omega, by omega⟩
theorem no_lone {n m : Nat} {ts : List (List Int)} (hm : 3 ≤ m) (hmn : m ≤ n) (h : ∀ a b, (a, b) ∈ untied n ts ↔ a < b ∧ b < m) : ∀ q, q < m → q ∉ lones n (bare (untied n ts)) := fun q hq => by
  have meets : ∀ r, ∃ s, s ≠ r ∧ ((q, s) ∈ untied n ts ∨ (s, q) ∈ untied n ts) := fun r => by
    obtain ⟨s, s1, s2, s3⟩ := third (a := q) (b := r) hm
    refine ⟨s, s3, ?_⟩
    by_cases z : q < s
    · exact .inl ((h _ _).mpr ⟨z, s1⟩)
    · exact .inr ((h _ _).mpr ⟨by omega, hq⟩)
  refine not_lone (fun r _ _ => ?_) ?_ (by omega)
  · obtain ⟨s, s1, s2⟩ := meets r
    exact ⟨s, s2.elim (fun z => .inl ⟨z, s1⟩) fun z => .inr ⟨z, s1⟩⟩
  · obtain ⟨s, _, s2⟩ := meets q
    exact ⟨s, s2⟩
theorem untied_all (n : Nat) (a b : Nat) : (a, b) ∈ untied n [] ↔ a < b ∧ b < n := by
  rw [mem_untied]
  exact ⟨fun z => z.1, fun z => ⟨z, fun h => nomatch h⟩⟩
theorem many_all {n : Nat} (h3 : 3 ≤ n) (h : n ≤ 60) : webMany n [] * 2 = n * (n - 1) := by
  have hl : lones n (bare (untied n [])) = [] := List.eq_nil_iff_forall_not_mem.mpr fun q hq => no_lone h3 (Nat.le_refl n) (untied_all n) q (mem_lones.mp hq).1 hq
  unfold webMany
  rw [hl]
  have e : untied n [] = prs n := by
    unfold untied
    exact List.filter_eq_self.mpr fun p _ => by simp
  rw [e, ← prs_two n (by omega)]
  simp
def star (n : Nat) : List (Nat × Nat) := (List.range (n - 1)).map fun i => (i, n - 1)
theorem star_mem {n : Nat} {p : Nat × Nat} : p ∈ star n ↔ p.1 < n - 1 ∧ p.2 = n - 1 := by
  unfold star
  rw [List.mem_map]
  constructor
  · rintro ⟨i, hi, rfl⟩
    exact ⟨List.mem_range.mp hi, rfl⟩
  · rintro ⟨h1, h2⟩
    exact ⟨p.1, List.mem_range.mpr h1, by rw [← h2]⟩
theorem star_tie {n : Nat} : ∀ p ∈ star n, TieOk n p := fun p hp => by
  have := star_mem.mp hp
  exact ⟨by omega, by omega⟩
theorem star_lt (n : Nat) : (star n).Pairwise fun p q => p.1 < q.1 ∨ p.1 = q.1 ∧ p.2 < q.2 := List.pairwise_map.mpr (List.pairwise_lt_range.imp fun h => .inl h)
theorem star_nd (n : Nat) : (star n).Nodup := (star_lt n).imp fun h e => by
  rw [e] at h
  omega
theorem star_kept (n : Nat) : keptTies (star n) = (star n).map pI := sortT_id (pI_sorted (star_lt n))
theorem star_len (n : Nat) : (star n).length = n - 1 := by
  unfold star
  rw [List.length_map, List.length_range]
theorem untied_star {n : Nat} (hn : 1 ≤ n) (a b : Nat) : (a, b) ∈ untied n ((star n).map pI) ↔ a < b ∧ b < n - 1 := by
  rw [mem_untied]
  show ((a < b ∧ b < n) ∧ [((a : Nat) : Int), ((b : Nat) : Int)] ∉ _) ↔ _
  rw [mem_pIs, star_mem]
  dsimp only
  omega
theorem many_star {n : Nat} (h3 : 3 ≤ n) (h : n ≤ 60) : webMany n ((star n).map pI) * 2 = (n - 1) * (n - 2) + 2 * (if n = 3 then 3 else 1) := by
  by_cases e3 : n = 3
  · subst e3
    decide +kernel
  · rw [if_neg e3]
    have hm : untied n ((star n).map pI) ≠ [] ∨ True := .inr trivial
    have hl : (lones n (bare (untied n ((star n).map pI)))).length = 1 := by
      have nd := lones_nd n (bare (untied n ((star n).map pI)))
      have last : n - 1 ∈ lones n (bare (untied n ((star n).map pI))) := by
        refine mem_lones.mpr ⟨by omega, ?_⟩
        unfold loneP
        rw [decide_eq_true (show bare (untied n ((star n).map pI)) (n - 1) = [] from ?_)]
        · rfl
        · rw [bare_of]
          refine List.eq_nil_iff_forall_not_mem.mpr fun x hx => ?_
          obtain ⟨k, _, hk, z⟩ := mem_bareL.mp hx
          have m := (untied_star (n := n) (by omega) ((untied n ((star n).map pI))[k]).1 ((untied n ((star n).map pI))[k]).2).mp (List.getElem_mem hk)
          rcases z with z | z <;> rw [← z] at m <;> omega
      have all : ∀ q ∈ lones n (bare (untied n ((star n).map pI))), q = n - 1 := fun q hq => by
        refine Classical.byContradiction fun z => ?_
        have h1 := (mem_lones.mp hq).1
        exact no_lone (m := n - 1) (by omega) (by omega) (untied_star (by omega)) q (by omega) hq
      generalize lones n (bare (untied n ((star n).map pI))) = l at *
      rcases l with _ | ⟨x, _ | ⟨y, l⟩⟩
      · cases last
      · rfl
      · have e1 := all x (by simp)
        have e2 := all y (by simp)
        rw [e1, e2] at nd
        simp at nd
    have hu : (untied n ((star n).map pI)).length = (prs (n - 1)).length := by
      refine (List.Perm.length_eq ((List.perm_ext_iff_of_nodup ((prs_nodup n).filter _) (prs_nodup _)).mpr fun p => ?_))
      have := untied_star (n := n) (by omega) p.1 p.2
      exact this.trans mem_prs.symm
    unfold webMany
    rw [hl, hu]
    have := prs_two (n - 1) (by omega)
    have e : n - 1 - 1 = n - 2 := by omega
    rw [e] at this
    omega
end My
/-! Ga: the law's own world: the bag and two tables of code objects. -/
namespace My
open PySem PySem.Spec PyProof.Rows L2 StX LamX
abbrev Ofs3 (bag P1 P2 : Addr) : Addr → Prop := fun a => a = bag ∨ a = P1 ∨ a = P2
/-- a table stands where another one grows -/
theorem tabS_oth {P1 P2 : Addr} {q : Str} {H H' : Hp} {ps : Array Value} (t : TabS H P2 q) (hp : H P1 = some (.tbl ps)) (hne : P1 ≠ P2) (e : ∀ b o, b ≠ P1 → H b = some o → H' b = some o) : TabS H' P2 q := by
  obtain ⟨qs, h1, h2, h3⟩ := t
  refine ⟨qs, e _ _ (fun z => hne z.symm) h1, h2, fun pos cv hc => ?_⟩
  obtain ⟨c, e1, e2⟩ := h3 pos cv hc
  refine ⟨c, e1, e _ _ (fun z => ?_) e2⟩
  rw [z, hp] at e2
  exact codeO_ne ps (Option.some.inj e2).symm
/-- as it was at H0 but for the bag and two tables -/
def Wd.b2 (H0 : Hp) (bag cells : Addr) (cs : List Int) (P1 P2 : Addr) (q1 q2 : Str) (c : Nat) : Wd where
  B := Ofs3 bag P1 P2
  M := fun H => Ex (Ofs3 bag P1 P2) H0 H ∧ Bag bag cells cs c H ∧ TabS H P1 q1 ∧ TabS H P2 q2
  mono := fun s h => ⟨h.1.trans (.of s), h.2.1.same s, h.2.2.1.ext s, h.2.2.2.ext s⟩
  al := fun {H} h a z => by
    rcases z with z | z | z
    · obtain ⟨_, e⟩ := h.2.1.lst
      rw [z]
      exact nn2 e
    · obtain ⟨_, e, _⟩ := h.2.2.1
      rw [z]
      exact nn2 e
    · obtain ⟨_, e, _⟩ := h.2.2.2
      rw [z]
      exact nn2 e
section
variable {H0 : Hp} {bag cells P1 P2 : Addr} {cs : List Int} {q1 q2 : Str} {c : Nat}
theorem hasbag_b2 : HasBag (Wd.b2 H0 bag cells cs P1 P2 q1 q2) bag cells cs where
  b := fun _ => rfl
  bb := .inl rfl
  hg := fun c H m => m.2.1
  up := fun c c' H H' m e b => ⟨m.1.trans (e.mono fun a z => .inl z), b, tabS_but m.2.2.1 m.2.1.lst e, tabS_but m.2.2.2 m.2.1.lst e⟩
theorem tabw_b2 (hne : P1 ≠ P2) : TabW (Wd.b2 H0 bag cells cs P1 P2 q1 q2 c) P1 q1 where
  tab := fun H m => m.2.2.1
  grow := fun H H1 m e t => by
    obtain ⟨ps, hp, _⟩ := id m.2.2.1
    exact ⟨m.1.trans fun a o n h => e a o (fun z => n (.inr (.inl z))) h, m.2.1.offP m.2.2.1 e, t, tabS_oth m.2.2.2 hp hne e⟩
  b := .inr (.inl rfl)
theorem b2_more {c c' : Nat} (h : c ≤ c') {H : Hp} (m : (Wd.b2 H0 bag cells cs P1 P2 q1 q2 c).M H) : (Wd.b2 H0 bag cells cs P1 P2 q1 q2 c').M H := ⟨m.1, m.2.1.more h, m.2.2⟩
end
section
variable {g : Gc} {X : Cx} {ds : Ds} {e e1 e2 a b : Expr} {pos p p1 p2 : Pos} {k j : Nat} {x y z : Str} {H0 : Hp} {bag cells P1 P2 : Addr} {cs : List Int} {q1 q2 : Str} {c n : Nat} {ts : List (List Int)} {rest : List Stmt} {N : SH} {R : V → Hp → Prop}
/-- _law_refused_right(bag, web, points) -/
theorem vx_ref (f : Pn X.prog X.w X.K X.mg X.base k x [] (spRf g P2 q2)) (hr : Room j X.A) (hne : P1 ≠ P2) (va : VA g X (Wd.b2 H0 bag cells cs P1 P2 q1 q2 c) ds [e, e1, e2] [.raw (.ref bag), .web (n : Nat) (ts.map TD), .py (.int (n : Nat))]) (hn : 1 ≤ n ∧ n ≤ 60) (hc : c + 2 ≤ 400 := by omega) (hkj : k ≤ j := by decide)
    (hg : Gl X x := by rfl) (hdb : (x == ("__debug__" : Str)) = false := by decide) (he : starEach [e, e1, e2] X.env = (false, eval e X.env) :: starEach [e1, e2] X.env := by rfl) (hpl : (backTo pos (starEach [e1, e2] X.env)).any (·.1) = false := by rfl) :
    VX g X (Wd.b2 H0 bag cells cs P1 P2 q1 q2 c) (Wd.b2 H0 bag cells cs P1 P2 q1 q2 (c + 2)) ds (.Call (.Name x p) [e, e1, e2] [] pos) (fun d => ∃ k, (k = true) ∧ d = .py (.bool k)) := by
  obtain ⟨fa, fd, ps, us, F, nm, hb, hv⟩ := f
  refine PE.imp (pe_call F (hr.mono hkj) hg nm.mgx nm.kp hb hv passL va hdb he hpl) ?_
  rintro σ H Q ⟨p, q⟩
  refine ⟨p, fun vs H2 m ex dv => ?_⟩
  cases dv with
  | @cons v _ vs' _ h1 h2 =>
    have h1 : v = .ref bag := h1
    refine ⟨Ofs3 bag P1 P2, bag, cells, cs, c, vs', n, ts, by rw [h1, List.append_nil], (Wd.b2 H0 bag cells cs P1 P2 q1 q2 c).al m, .inl rfl, .inr (.inr rfl), m.2.1, m.2.2.2, hc, h2, hn, fun H3 e3 b3 t3 => ?_⟩
    obtain ⟨qs, hq, _⟩ := id m.2.2.2
    obtain ⟨_, hb2⟩ := m.2.1.lst
    have e3' : Ex (Ofs3 bag P1 P2) H2 H3 := e3.mono fun a z => z.elim .inl fun z => .inr (.inr z)
    refine q _ H3 _ ⟨true, rfl, rfl⟩ ⟨m.1.trans e3', b3, ?_, t3⟩ (ex.trans e3') (.bl true)
    obtain ⟨ps1, g1, g2, g3⟩ := m.2.2.1
    refine ⟨ps1, e3 _ _ (fun z => z.elim (fun z => ?_) hne) g1, g2, fun pos cv hc => ?_⟩
    · rw [z, hb2] at g1
      cases g1
    · obtain ⟨c0, i1, i2⟩ := g3 pos cv hc
      refine ⟨c0, i1, e3 _ _ (fun z => z.elim (fun z => ?_) fun z => ?_) i2⟩
      · have z : c0 = bag := z
        rw [z, hb2] at i2
        exact codeO_lst (Option.some.inj i2).symm
      · have z : c0 = P2 := z
        rw [z, hq] at i2
        exact codeO_ne qs (Option.some.inj i2).symm
end
section
variable {g : Gc} {X : Cx} {W : Wd} {ds : Ds} {a b : Expr} {x y z : Str} {px py pz pt pt2 pt3 pos : Pos} {kt kt2 k2 : Nat} {d1 : Da} {c1 c2 : PyData} {rest : List Stmt} {N : SH} {R : V → Hp → Prop}
/-- x, (y, z) = a, b -/
theorem hs_nest (i j l : Nat) (hN : X.N.Nodup) (ha : VA g X W ds [a, b] [d1, .py (.tuple [c1, c2])]) (h : HS X (Pre g W (((ds.set i (some d1)).set j (some (.py c1))).set l (some (.py c2)))) rest N R) (hc : X.calm = true := by rfl)
    (hi : X.N[i]? = some x := by rfl) (hj : X.N[j]? = some y := by rfl) (hl : X.N[l]? = some z := by rfl) (hx : Loc X.env.scope x := by first | exact Or.inl rfl | exact Or.inr rfl) (hy : Loc X.env.scope y := by first | exact Or.inl rfl | exact Or.inr rfl) (hz : Loc X.env.scope z := by first | exact Or.inl rfl | exact Or.inr rfl)
    (hs : swapsWithSole [.Tuple [.Name x px, .Tuple [.Name y py, .Name z pz] kt2 pt3] kt pt] (.Tuple [a, b] k2 pt2) pos.line X.env = pure false := by rfl) (hw : swappedStores [.Tuple [.Name x px, .Tuple [.Name y py, .Name z pz] kt2 pt3] kt pt] (.Tuple [a, b] k2 pt2) X.env = pure none := by rfl)
    (hf : X.fn x = true ∨ X.env.scope.names.lookup x = some .local := by first | exact .inl rfl | exact .inr rfl) (hf2 : X.fn y = true ∨ X.env.scope.names.lookup y = some .local := by first | exact .inl rfl | exact .inr rfl) (hf3 : X.fn z = true ∨ X.env.scope.names.lookup z = some .local := by first | exact .inl rfl | exact .inr rfl)
    (h1 : (assignEach [.Tuple [.Name x px, .Tuple [.Name y py, .Name z pz] kt2 pt3] kt pt] X.env).map (·.2) = [assign (.Tuple [.Name x px, .Tuple [.Name y py, .Name z pz] kt2 pt3] kt pt) X.env] := by rfl) :
    HS X (Pre g W ds) (.Assign [.Tuple [.Name x px, .Tuple [.Name y py, .Name z pz] kt2 pt3] kt pt] (.Tuple [a, b] k2 pt2) pos :: rest) N R := by
  refine hs_cons (PS.imp (ps_asg (pe_tup ha) (pg_tup (n := 2) hc (pgs_cons (pg_name hN hi hx hf) (pgs_cons (pg_tup (n := 2) hc (pgs_cons (pg_name hN hj hy hf2) (pgs_cons (pg_name hN hl hz hf3) pgs_nil rfl) rfl) rfl rfl) pgs_nil rfl) rfl) rfl rfl) hs hw h1) ?_) h
  rintro D σ H ⟨p, n, _⟩
  refine ⟨p, fun vs H2 m e dv => ?_⟩
  cases dv with
  | cons v1 dv =>
    cases dv with
    | cons v2 dv =>
      cases dv
      refine ⟨(by decide : 2 ≤ sizeLine), fun r hr => ⟨r, _, rfl, SqT.of upd_same, rfl, _, _, rfl, _, _, rfl, ?_⟩⟩
      rename_i u1 u2
      have s := same_new (o := .tup [u1, u2]) hr
      have v1' := v1.keep (.of s)
      have v2' : Dq W.B _ u2 (.tuple [c1, c2]) := DV.keep (d := .py (.tuple [c1, c2])) (.of s) v2
      have m' := W.mono s m
      have k := (p.2.keep e).keep (.of s)
      cases v2' with
      | tup nb hA al =>
        cases al with
        | cons a1 al =>
          cases al with
          | cons a2 al =>
            cases al
            exact ⟨_, _, rfl, SqT.of hA, rfl, _, _, rfl, _, _, rfl, rfl, rfl, n _ _ ⟨m', ((k.set v1').set (d := .py c1) a1).set (d := .py c2) a2⟩⟩
end
end My
/-! Gb: small words for the law's walk. -/
namespace My
open PySem PySem.Spec PyProof.Rows L2 StX LamX
theorem TabW.rel {W : Wd} {P : Addr} {q : Str} (h : TabW W P q) (H1 : Hp) : TabW (W.rel H1) P q where
  tab := fun H m => h.tab H m.1
  grow := fun H H2 m e t => ⟨h.grow H H2 m.1 e t, m.2.trans fun a o n k => e a o (fun z => n (by rw [z]; exact h.b)) k⟩
  b := h.b
/-! rows of pairs, as the loop makes them -/
def rowsP (n : Nat) (q : Nat → Nat → Bool) (i : Nat) : List PyData := (List.range i).flatMap fun (k : Nat) => ((List.range ((n : Int) - ((k : Int) + 1)).toNat).filter (q k)).map fun m => .tuple [.int (k : Nat), .int ((k : Int) + 1 + (m : Nat))]
theorem rowsP_succ (n : Nat) (q : Nat → Nat → Bool) (i : Nat) : rowsP n q (i + 1) = rowsP n q i ++ ((List.range ((n : Int) - ((i : Int) + 1)).toNat).filter (q i)).map fun m => .tuple [.int (i : Nat), .int ((i : Int) + 1 + (m : Nat))] := by
  unfold rowsP
  rw [List.range_succ, List.flatMap_append, List.flatMap_singleton]
theorem rowsP_len (n : Nat) (q : Nat → Nat → Bool) (i : Nat) : (rowsP n q i).length ≤ i * n := flat_len _ n i fun k hk => by
  rw [List.length_map]
  have := List.length_filter_le (q k) (List.range ((n : Int) - ((k : Int) + 1)).toNat)
  rw [List.length_range] at this
  omega
theorem rowsP_eq (n : Nat) (p : Nat × Nat → Bool) : rowsP n (fun k m => p (k, k + 1 + m)) n = (((prs n).filter p).map pI).map TD := by
  unfold rowsP prs
  rw [List.map_map, List.filter_flatMap, List.map_flatMap]
  congr 1
  funext i
  rw [List.filter_map, List.map_map]
  have e : ((n : Int) - ((i : Int) + 1)).toNat = n - (i + 1) := by omega
  rw [e]
  apply List.map_congr_left
  intro m _
  show PyData.tuple [.int ((i : Nat) : Int), .int ((i : Int) + 1 + (m : Nat))] = PyData.tuple [.int ((i : Nat) : Int), .int ((i + 1 + m : Nat) : Int)]
  rw [Int.natCast_add, Int.natCast_add]
  rfl
theorem rowsP_congr {n : Nat} {q q' : Nat → Nat → Bool} (h : ∀ k m, k < n → k + 1 + m < n → q k m = q' k m) : rowsP n q n = rowsP n q' n := by
  unfold rowsP
  rw [List.flatMap_def, List.flatMap_def]
  congr 1
  refine List.map_congr_left fun k hk => ?_
  have hk := List.mem_range.mp hk
  congr 1
  refine List.filter_congr fun m hm => ?_
  have hm := List.mem_range.mp hm
  exact h k m hk (by omega)
/-! small data -/
def TinyJ (i : Int) : Prop := 0 ≤ i ∧ i < 9000
theorem tiny_ii {a b : Int} (ha : TinyJ a) (hb : TinyJ b) : Tiny (.list [.int a, .int b]) := by
  have wt : ∀ i : Int, TinyJ i → PyData.weight (.int i) ≤ 30 := fun i h => by
    rw [PyData.weight]
    split
    · omega
    · have : i.natAbs.log2 < 14 := (Nat.log2_lt (by have := h.1; rename_i e; simp at e; omega)).mpr (by have := h.1; have := h.2; omega)
      omega
  have sw : ∀ i : Int, TinyJ i → PyData.showable (.int i) = true ∧ PyData.intsShort 13 (.int i) = true := fun i h => by
    refine ⟨?_, ?_⟩
    · rw [PyData.showable]
      refine decide_eq_true ?_
      by_cases e : i.natAbs = 0
      · rw [e]
        decide
      · exact (Nat.log2_lt e).mpr (Nat.lt_of_lt_of_le (show i.natAbs < 2 ^ 14 by have := h.1; have := h.2; omega) (Nat.pow_le_pow_right (by decide) (by decide)))
    · rw [PyData.intsShort]
      exact decide_eq_true (PyData.shown_int_le2 (by have := h.1; omega) (by have := h.2; omega))
  refine tiny_of (sh_LI [a, b]) ?_ ?_ ?_
  · have := wt a ha
    have := wt b hb
    simp only [PyData.weightAll]
    omega
  · simp only [PyData.showableAll, (sw a ha).1, (sw b hb).1]
    rfl
  · simp only [PyData.intsShortAll, (sw a ha).2, (sw b hb).2]
    rfl
theorem before_idx {α : Type} [BEq α] [LawfulBEq α] {x : α} : ∀ {l : List α} {m : Nat} (h : m < l.length), m < l.idxOf x → l[m] ≠ x
  | [], _, h, _ => absurd h (Nat.not_lt_zero _)
  | y :: l, m, h, hm => by
    by_cases e : y = x
    · rw [List.idxOf_cons, e, beq_self_eq_true] at hm
      exact absurd hm (Nat.not_lt_zero _)
    · rw [List.idxOf_cons, beq_false_of_ne e] at hm
      match m, h, hm with
      | 0, _, _ => exact e
      | m + 1, h, hm => exact before_idx (l := l) (by simpa using h) (by simpa using hm)
section
variable {g : Gc} {X : Cx} {W : Wd} {ds : Ds} {a b o e : Expr} {pos apos p p2 : Pos} {k : Nat}
/-- list.index of an int that is there -/
theorem ve_indexI {l : List Int} {x : Int} (hr : Room k X.A) (hx : x ∈ l) (ho : VE g X W ds o (.py (LI l))) (he : VE g X W ds e (.py (.int x)))
    (hbase : attributeBase o "index" X.env (eval o X.env) = eval o X.env := by rfl) (hline : (apos.endLine == pos.line) = true := by rfl) (hst : starEach [e] X.env = (false, eval e X.env) :: starEach [] X.env := by rfl)
    (hfew : ((backTo pos (starEach [e] X.env)).all (fun x => !x.1) && (backToKw pos (keywordEach [] X.env)).all (fun x => x.1.isSome)
      && decide ([e].length + ([] : List Keyword).length + (if ([] : List Keyword).isEmpty then 0 else 1) < 30)) = true := by rfl) (hplain : (backTo pos (starEach [] X.env)).any (·.1) = false := by rfl) :
    VE g X W ds (.Call (.Attribute o "index" apos) [e] [] pos) (.py (.int (l.idxOf x : Nat))) := by
  have hl := List.idxOf_lt_length_of_mem hx
  refine ve_index (j := l.idxOf x) (z := .int x) (hu65 hr) ho he (sh_LI l) (sh_int x) ?_ ?_ ?_ hbase hline hst hfew hplain
  · rw [List.getElem?_map, List.getElem?_eq_getElem hl, List.getElem_idxOf hl]
    rfl
  · rw [PyData.eqv]
    exact beq_self_eq_true _
  · intro m z' hm hz
    have hm2 : m < l.length := Nat.lt_trans hm hl
    rw [List.getElem?_map, List.getElem?_eq_getElem hm2] at hz
    have hz : PyData.int l[m] = z' := Option.some.inj hz
    rw [← hz, PyData.eqv]
    exact beq_false_of_ne (before_idx hm2 hm)
/-- list.index of a team that is there -/
theorem ve_indexT {l : List (List Int)} {x : List Int} (hr : Room k X.A) (hx : x ∈ l) (ho : VE g X W ds o (.py (LT l))) (he : VE g X W ds e (.py (TD x)))
    (hbase : attributeBase o "index" X.env (eval o X.env) = eval o X.env := by rfl) (hline : (apos.endLine == pos.line) = true := by rfl) (hst : starEach [e] X.env = (false, eval e X.env) :: starEach [] X.env := by rfl)
    (hfew : ((backTo pos (starEach [e] X.env)).all (fun x => !x.1) && (backToKw pos (keywordEach [] X.env)).all (fun x => x.1.isSome)
      && decide ([e].length + ([] : List Keyword).length + (if ([] : List Keyword).isEmpty then 0 else 1) < 30)) = true := by rfl) (hplain : (backTo pos (starEach [] X.env)).any (·.1) = false := by rfl) :
    VE g X W ds (.Call (.Attribute o "index" apos) [e] [] pos) (.py (.int (l.idxOf x : Nat))) := by
  have hl := List.idxOf_lt_length_of_mem hx
  refine ve_index (j := l.idxOf x) (z := TD x) (hu65 hr) ho he (sh_LT l) (sh_TD x) ?_ ?_ ?_ hbase hline hst hfew hplain
  · rw [List.getElem?_map, List.getElem?_eq_getElem hl, List.getElem_idxOf hl]
    rfl
  · rw [eqv_TD]
    exact decide_eq_true rfl
  · intro m z' hm hz
    have hm2 : m < l.length := Nat.lt_trans hm hl
    rw [List.getElem?_map, List.getElem?_eq_getElem hm2] at hz
    have hz : TD l[m] = z' := Option.some.inj hz
    rw [← hz, eqv_TD]
    exact decide_eq_false (before_idx hm2 hm)
end
end My
/-! P20: the law's turn. -/
namespace My
open PySem PySem.Spec PyProof.Rows L2 StX LamX
abbrev N56 : List Str := ["_law_script", "_law_bag_here", "_law_turn", "_law_points", "_law_ties", "_law_many", "_law_teams", "_law_told", "_law_one", "_law_team", "_law_places", "_law_due", "_law_people", "_law_some", "_law_every", "_law_pairs", "_law_own", "_law_web_here", "_law_point", "_law_other"]
theorem sc56 : FnScope N56 ["_law_script"] (defScope (tp 56)) := ⟨rfl, rfl, rfl, by decide +kernel, rfl, by decide +kernel, by decide +kernel⟩
abbrev qL : Str := "law.<locals>.<lambda>"
abbrev qR : Str := "_law_refused_right.<locals>.<lambda>"
/-- all that the law calls -/
structure Calls56 (P : Program) (w : World) (K : PySem.W.Frag) (mg : Str → Option Value) (base : Heap) (g : Gc) (c : Ec) (P2 fe : Addr) : Prop where
  bag : Pn P w K mg base 1 "_law_bag" [] (spBag K)
  grab : Pn P w K mg base 1 "_law_grab" [] (spB g 1 1 R49)
  web : Pn P w K mg base 2 "_law_web" [] (spB g 1 37 R52)
  some_ : Pn P w K mg base 2 "_law_some_teams" [] (spB g 2 82 R51)
  c53 : Pn P w K mg base 1 "_law_web_teams" [] (spR g 2 R53)
  c50 : Pn P w K mg base 1 "_law_apart" [] (spR g 2 R30)
  c44 : Pn P w K mg base 3 "people_in" [] (spR g 1 R44)
  c45 : Pn P w K mg base 4 "team_of" [] (spR g 2 R45)
  k45 : PnK P w K mg base 4 "team_of" ["point", "web"] (fun _ zs => [zs.getD 1 .non, zs.getD 0 .non]) (spR g 2 R45)
  c42 : Pn P w K mg base 4 "are_tied" [] (spR g 3 R42)
  k46 : PnK P w K mg base 8 "teams_of" ["web"] (fun _ zs => zs) (spR g 1 R46)
  x46 : Pn P w K mg base 3 "teams_of" [] (spX g 1 (RX46 c))
  c43 : Pn P w K mg base 7 "web_of" [] (spR g 1 R43)
  k43 : PnK P w K mg base 7 "web_of" ["teams"] (fun _ zs => zs) (spR g 1 R43)
  cW : Pmk P w K mg base 5 "Web" g.CW (spI g g.CW 2 RW_)
  cT : Pmk P w K mg base 6 "Teams" g.CT (spI g g.CT 2 RT)
  eqW : ∃ fd ps, FnOk P w K mg base (L2.CX P w) 1 fe fd ps (spR g 2 REq) ∧ Binds K fd ps []
  eqC : EqC K g.CW fe
  ref : Pn P w K mg base 10 "_law_refused_right" [] (spRf g P2 qR)
theorem mem_pI' {x : Int} {p : Nat × Nat} (h : x ∈ pI p) : x = (p.1 : Nat) ∨ x = (p.2 : Nat) := by
  unfold pI at h
  simpa using h
def lawFor : Stmt := (defBody (tp 56)).getD 1 (.Pass ⟨0, 0, 0, 0⟩)
def forBody : Stmt → List Stmt
  | .For _ _ b _ _ => b
  | _ => []
def dsT (bag : Addr) (t : Nat) : Ds := [none, some (.raw (.ref bag)), some (.py (.int (t : Nat))), none, none, none, none, none, none, none, none, none, none, none, none, none, none, none, none, none]
def dsE (bag : Addr) (n : Nat) (ts : List (List Int)) : Ds := [none, some (.raw (.ref bag)), none, some (.py (.int (n : Nat))), none, none, none, none, none, none, none, none, none, none, none, none, none, some (.web (n : Nat) (ts.map TD)), none, none]
section
variable {P : Program} {w : World} {K : PySem.W.Frag} {mg : Str → Option Value} {base : Heap} {g : Gc} {c : Ec} {cd P1 P2 f ga fe bag cells : Addr} {fdg : FuncData} {A : Around} {outer : List Env} {s : Shared} {H : Hp} {E : XK} {H0 H9 : Hp} {cs : List Int}
abbrev X56 (P : Program) (w : World) (K : PySem.W.Frag) (mg : Str → Option Value) (base : Heap) (f cd : Addr) (A : Around) (outer : List Env) (s : Shared) (H : Hp) (E : XK) : Cx := cxM P w K mg base N56 "law" (tp 56) f (.ref cd) A outer s H E
abbrev Wr (H0 : Hp) (bag cells : Addr) (cs : List Int) (P1 P2 : Addr) (H9 : Hp) (c : Nat) : Wd := (Wd.b2 H0 bag cells cs P1 P2 qL qR c).rel H9
/-- one turn of the law -/
theorem turn (T : Tx K mg g) (Y : Hd K mg c) (ear : Ear K mg ga fdg) (C : Calls56 P w K mg base g c P2 fe) (TB : TabB base mg cd P1) (hne : P1 ≠ P2) (hr : Room 11 (X56 P w K mg base f cd A outer s H E).A) (hG : (X56 P w K mg base f cd A outer s H E).A.guards = some []) {R : V → Hp → Prop} (t c0 : Nat) (hc : c0 + 121 ≤ 400) :
    HS (X56 P w K mg base f cd A outer s H E) (Pre g (Wr H0 bag cells cs P1 P2 H9 c0) (dsT bag t)) (forBody lawFor) (fun σ H => ∃ (n : Nat) (ts : List (List Int)), (1 ≤ n ∧ n ≤ 60) ∧ Pre g (Wr H0 bag cells cs P1 P2 H9 (c0 + 121)) (dsE bag n ts) σ H) R := by
  have hb := hasbag_b2 (H0 := H0) (bag := bag) (cells := cells) (P1 := P1) (P2 := P2) (cs := cs) (q1 := qL) (q2 := qR)
  have hb := hb.rel H9
  unfold dsT
  refine hs_setX 3 (W' := Wr H0 bag cells cs P1 P2 H9 (c0 + 1)) sc56.nd (by rfl) (vx_op (f := addD 1) op_add (by rfl) ve_int (vx_call (W := Wr H0 bag cells cs P1 P2 H9) hb C.grab hr (va_cons (ve_var 1) (va_cons ve_int va_nil)) (r49 6)) fun d hd => ?_) fun d hd => ?_
  · obtain ⟨i, _, _, rfl⟩ := hd
    exact od_i0
  obtain ⟨_, ⟨i, i1, i2, rfl⟩, rfl⟩ := hd
  obtain ⟨n, en⟩ : ∃ n : Nat, 1 + i = (n : Int) := ⟨(1 + i).toNat, by omega⟩
  show HS _ (Pre g _ (List.set _ 3 (some (.py (.int (1 + i)))))) _ _ _
  rw [en]
  have hn1 : 1 ≤ n := by omega
  have hn6 : n ≤ 6 := by omega
  clear en i1 i2
  refine hs_setX 4 (W' := Wr H0 bag cells cs P1 P2 H9 (c0 + 1 + 37)) sc56.nd (by rfl) (vx_call (W := Wr H0 bag cells cs P1 P2 H9) hb C.web hr (va_cons (ve_var 1) (va_cons (ve_var 3) va_nil)) ⟨n, hn6, rfl, rfl⟩) fun d hd => ?_
  obtain ⟨ps, hps, rfl⟩ := hd
  obtain ⟨ts, hts⟩ : ∃ ts, ps.map pI = ts := ⟨_, rfl⟩
  have hkt : keptTies ps = ts := by rw [kept_sub hps, hts]
  have hpl : ps.length ≤ 36 := Nat.le_trans (sub_len hps) (Nat.mul_le_mul hn6 hn6)
  have htl : ts.length ≤ 36 := by rw [← hts, List.length_map]; exact hpl
  have hnd : ts.Nodup := by rw [← hts]; exact nodup_pI (sub_nd hps)
  have hok : WebOk n ts := ⟨by omega, hnd, by omega⟩
  refine hs_froz fun H2 hB2 m2 => ?_
  refine hs_nest 17 5 6 sc56.nd (va_cons (ve_make C.cW hr (va_cons (ve_var 3) (va_cons (ve_var 4) va_nil)) ⟨n, ps, LT (ps.map pI), hn1, by omega, sub_tie hps, sub_nd hps, by omega, .inl rfl, rfl, rfl⟩) (va_cons (ve_call C.c53 hr (va_cons (ve_var 3) (va_cons (ve_var 4) va_nil)) ⟨n, ps.map pI, by omega, by rw [List.length_map]; omega, rfl, rfl⟩) va_nil)) ?_
  rw [hkt, hts]
  obtain ⟨hti, htt⟩ := tiny_wt (n := n) (ts := ts) hn6
  have h0 : teamW n ts 0 ∈ webTeams n ts := wt_mem.mpr ⟨0, by omega, rfl⟩
  refine hs_set 7 sc56.nd (ve_is (d2 := .py (LT (webTeams n ts))) (ve_lcR 18 (n : Nat) (fun q => TD (teamW n ts q)) sc56.nd loc_ent T.trange (by omega) (ve_var 3) fun q hq D acc _ _ _ _ _ => ve_call C.c45 hr (va_cons (ve_var 17) (va_cons (ve_var 18) va_nil)) ⟨n, q, ts, hok, by omega, rfl, rfl⟩) ?_) ?_
  · rw [Int.toNat_natCast]
    show _ = Da.py (.list (((List.range n).map (teamAt n (bare (untied n ts)))).map TD))
    rw [List.map_map]
    rfl
  refine hs_ifF (vt_reprNe (zs := [.int (webMany n ts : Nat), LT (webTeams n ts), TD (teamW n ts 0)]) hG hr T.trepr (ve_lst (xs := [.int (webMany n ts : Nat), LT (webTeams n ts), TD (teamW n ts 0)]) (va_cons (ve_call C.c44 hr (va_cons (ve_var 17) va_nil) ⟨n, ts, hok, rfl, rfl⟩) (va_cons (ve_var 7) (va_cons (ve_callK (bs := [.web (n : Nat) (ts.map TD), .py (.int (0 : Nat))]) C.k45 hr (vk_cons ve_int (vk_cons (ve_var 17) vk_nil)) (fun B H zs h => ?_) ⟨n, 0, ts, hok, by omega, rfl, rfl⟩) va_nil))) (by show 3 ≤ sizeLine; decide))
    (ve_lst (xs := [.int (webMany n ts : Nat), LT (webTeams n ts), TD (teamW n ts 0)]) (va_cons (ve_var 5) (va_cons (ve_var 6) (va_cons (ve_ixL (ve_var 6) ve_int (by rw [show (0 : Int) = ((0 : Nat) : Int) from rfl, atI_TD (by rw [wt_len]; omega), wt_get (by omega)])) va_nil))) (by show 3 ≤ sizeLine; decide))
    (tiny1 hti htt (htt.2 _ h0))) ?_
  · cases h with
    | cons h1 h =>
      cases h with
      | cons h2 h =>
        cases h
        exact .cons h2 (.cons h1 .nil)
  refine hs_for (Z := Unit) (fun H3 _ _ => (Wd.ent (Wr H0 bag cells cs P1 P2 H9 (c0 + 1 + 37)).B H2 hB2).rel H3) (fun _ i _ => [none, some (.raw (.ref bag)), none, some (.py (.int (n : Nat))), some (.py (LT ts)), some (.py (.int (webMany n ts : Nat))), some (.py (LT (webTeams n ts))), some (.py (LT (webTeams n ts))), none, none, none, none, none, none, none, none, none, some (.web (n : Nat) (ts.map TD)), none, none])
    (vi_rng1 (j := 8) rfl T.trange (ve_var 3) (by omega)) (pg_name (i := 8) sc56.nd rfl (Or.inr rfl)) (fun H1 i z => .rel fun a h => h) (fun σ H1 p => ⟨(), p.torel.less (.eq (.eq (.no (.eq (.eq (.eq (.eq (.eq (.eq (.eq (.eq (.eq (.eq (.eq (.eq (.eq (.eq (.eq (.eq (.eq .nil))))))))))))))))))))⟩) (fun H3 i _ m3 hi => ?_) (fun H3 _ m3 => ?_)
  · rw [Int.toNat_natCast] at hi
    refine hs_ifF (vt_cmp (op_neD (hu64 hr)) (od_ne (sh_LI []) (sh_LI []) rfl) (ve_is (d2 := .py (LI [])) (ve_lcR2f 19 ((i : Int) + 1) (n : Nat) (fun _ => false) (fun m => .int ((i : Int) + 1 + (m : Nat))) sc56.nd loc_ent.rel T.trange (by omega) (ve_op op_add od_i0 (ve_var 8) ve_int) (ve_var 3)
      (fun m hm D acc _ _ _ _ _ => vts_one (vt_is (vt_cmp (op_neD (hu64 hr)) (od_ne (sh_bool _) (sh_bool _) rfl) (ve_call C.c42 hr (va_cons (ve_var 17) (va_cons (ve_var 8) (va_cons (ve_var 19) va_nil))) ⟨n, (i : Int), (i : Int) + 1 + (m : Nat), ts, by omega, by omega, by omega, by omega, rfl, rfl⟩)
        (ve_call C.c50 hr (va_cons (ve_ixL (ve_var 7) (ve_var 8) (atI_TD (by rw [wt_len]; omega))) (va_cons (ve_ixL (ve_var 7) (ve_var 19) (by rw [show (i : Int) + 1 + (m : Nat) = ((i + 1 + m : Nat) : Int) by omega]; exact atI_TD (by rw [wt_len]; omega))) va_nil)) ⟨_, _, ?_, rfl, rfl⟩)) ?_))
      (fun m hm hq D acc _ _ _ _ _ => ve_var 19)) ?_) (ve_lst (xs := []) va_nil)) (hs_nil fun σ H' p => ⟨(), p.less (.eq (.eq (.eq (.eq (.eq (.eq (.eq (.eq (.no (.eq (.eq (.eq (.eq (.eq (.eq (.eq (.eq (.eq (.eq (.eq .nil))))))))))))))))))))⟩)
    · have hn2 := Nat.mul_le_mul hn6 hn6
      have := team_len (n := n) (ts := ts) i
      rw [wt_get (by omega)]
      omega
    · have e1 : (i : Int) + 1 + (m : Nat) = ((i + 1 + m : Nat) : Int) := by omega
      rw [e1, Int.min_eq_left (by omega), Int.max_eq_right (by omega), tied_apart (n := n) (a := i) (b := i + 1 + m) (by omega) (by omega), wt_get (n := n) (q := i) (by omega), wt_get (n := n) (q := i + 1 + m) (by omega)]
      cases apartI (teamW n ts i) (teamW n ts (i + 1 + m)) <;> rfl
    · rw [List.filter_eq_nil_iff.mpr fun _ _ h => Bool.false_ne_true h]
      rfl
  refine hs_pre (P' := Pre g (Wr H0 bag cells cs P1 P2 H9 (c0 + 1 + 37)) [none, some (.raw (.ref bag)), none, some (.py (.int (n : Nat))), some (.py (LT ts)), some (.py (.int (webMany n ts : Nat))), some (.py (LT (webTeams n ts))), none, none, none, none, none, none, none, none, none, none, some (.web (n : Nat) (ts.map TD)), none, none]) ?_ fun σ H' p => (p.unrel.thaw m2).less (.eq (.eq (.eq (.eq (.eq (.eq (.eq (.no (.eq (.eq (.eq (.eq (.eq (.eq (.eq (.eq (.eq (.eq (.eq (.eq .nil))))))))))))))))))))
  refine hs_cons (N1 := Pre g (Wr H0 bag cells cs P1 P2 H9 (c0 + 1 + 37)) (dsE bag n ts)) (h1_if (vt_cmp op_gt (od_b0 (f := fun i j => decide (j < i))) (ve_var 5) ve_int) (fun z => ?_) fun z => ?_) ?_
  · have z := of_decide_eq_true z
    have r9 : Room (9 + 2) (X56 P w K mg base f cd A outer s H E).A := hr
    refine hs_ifF (vt_cmp (op_neD (hu64 hr)) (od_ne (a := wMany "people" 12) (b := wMany "people" 12) (by decide +kernel) (by decide +kernel) (by decide +kernel)) (ve_heardR (k := 9) (one := false) (a := "") ear r9 TB rfl ((tabw_b2 hne).rel H9) (fun cdv A outer s H0 hB f hr act => heard_many T Y act) fun A outer s H E H1 hB1 f c' hr2 air => vr_call C.x46 hr2 (va_cons (ve_var 17) va_nil) (.inr ⟨n, ts, hok, by omega, rfl, rfl, rfl⟩) air)
      (ve_tup (xs := [.str "many", .str "people", .int 12]) (va_cons ve_str (va_cons ve_str (va_cons ve_int va_nil))) (by show 3 ≤ sizeLine; decide))) (hs_nil fun σ H' p => p.less (.eq (.eq (.eq (.eq (.no (.no (.no (.eq (.eq (.eq (.eq (.eq (.eq (.eq (.eq (.eq (.eq (.eq (.eq (.eq .nil)))))))))))))))))))))
  · have z := of_decide_eq_false z
    have hm12 : webMany n ts ≤ 12 := by omega
    have hne0 : ∀ t ∈ webTeams n ts, t ≠ [] := fun t ht => by
      obtain ⟨q, hq, rfl⟩ := wt_mem.mp ht
      exact team_ne hq
    have hsl : (sorW n ts).length = n := sor_len
    have hst : ∀ t ∈ sorW n ts, t ∈ webTeams n ts := fun t ht => (sortT_perm _).subset ht
    have hap : (apartPrs (sorW n ts)).length ≤ 36 := by
      have := sub_len (apart_sub (sorW n ts))
      rw [hsl] at this
      exact Nat.le_trans this (Nat.mul_le_mul hn6 hn6)
    refine hs_froz fun H3 hB3 m3 => ?_
    refine hs_parC 7 10 sc56.nd (va_cons (ve_callK (bs := [.web (n : Nat) (ts.map TD)]) C.k46 hr (vk_cons (ve_var 17) vk_nil) (fun B H zs h => h) ⟨n, ts, hok, hn1, by omega, many_pos hn1, hm12, wt_ok (by omega), wt_nd2, rfl, rfl⟩) (va_cons (ve_is (d2 := .py (LI (placesW n ts))) (ve_lcL 9 TD (sorW n ts) (fun t => .int ((webTeams n ts).idxOf t : Nat)) sc56.nd loc_ent (by rw [hsl]; exact Nat.le_trans hn6 (by decide)) (ve_sortLT hr T.tsorted hne0 (ve_var 6)) fun t ht D acc _ _ _ _ _ => ve_indexT hr (hst t ht) (ve_var 6) (ve_var 9)) ?_) va_nil)) ?_
    · show _ = Da.py (.list (((sorW n ts).map fun t => (((webTeams n ts).idxOf t : Nat) : Int)).map PyData.int))
      rw [List.map_map]
      rfl
    rw [wt_kept]
    refine hs_ifF (VW.t (vw_or (k := false) (vt_is (vt_not (vt_val (ve_isi (k := true) T.cl T.tW T.tT T.isinst (ve_var 7) rfl (ve_cls T.gT) (.own _) (kit_self _)))) rfl) fun _ => vw_or1 (vt_reprNe (zs := [.int (webMany n ts : Nat), QT (sorW n ts)]) hG hr T.trepr (ve_lst (xs := [.int (webMany n ts : Nat), QT (sorW n ts)]) (va_cons (ve_people T.cl (ve_var 7)) (va_cons (ve_teams T.cl (ve_var 7)) va_nil)) (by show 2 ≤ sizeLine; decide))
      (ve_lst (xs := [.int (webMany n ts : Nat), QT (sorW n ts)]) (va_cons (ve_var 5) (va_cons (ve_tupL T.ttuple (ve_sortLT hr T.tsorted hne0 (ve_var 6))) va_nil)) (by show 2 ≤ sizeLine; decide)) (tiny2 hti (tiny_sort htt))))) ?_
    refine hs_set 11 sc56.nd (ve_sortLT hr T.tsorted (ts := ps.map fun p => sortI [((posW n ts p.1 : Nat) : Int), ((posW n ts p.2 : Nat) : Int)]) (fun t ht => ?_) (ve_is (ve_lcPf 8 19 (fun p => .int (p.1 : Nat)) (fun p => .int (p.2 : Nat)) ps (fun _ => true) (fun p => TD (sortI [((posW n ts p.1 : Nat) : Int), ((posW n ts p.2 : Nat) : Int)])) (by decide) sc56.nd loc_ent (Nat.le_trans hpl (by decide)) (ve_is (ve_var 4) ?_)
      (fun p hp D acc _ _ _ _ _ => vts_nil)
      (fun p hp hq D acc _ _ _ _ _ => ve_tupL T.ttuple (ve_sortLI hr T.tsorted (ve_lst (xs := [.int (posW n ts p.1 : Nat), .int (posW n ts p.2 : Nat)]) (va_cons (ve_is (ve_indexI hr (places_mem (ts := ts) ?_) (ve_var 10) (ve_var 8)) ?_) (va_cons (ve_is (ve_indexI hr (places_mem (ts := ts) ?_) (ve_var 10) (ve_var 19)) ?_) va_nil)) (by show 2 ≤ sizeLine; decide))))) ?_)) ?_
    · obtain ⟨p, hp, rfl⟩ := List.mem_map.mp ht
      exact sortI_ne (fun z => nomatch z)
    · rw [← hts]
      show Da.py (.list ((ps.map pI).map TD)) = _
      rw [List.map_map]
      rfl
    · have := sub_tie hps p hp
      exact Nat.lt_trans this.1 this.2
    · have := sub_tie hps p hp
      rw [places_idx (Nat.lt_trans this.1 this.2)]
    · exact (sub_tie hps p hp).2
    · rw [places_idx (sub_tie hps p hp).2]
    · rw [List.filter_eq_self.mpr fun _ _ => rfl]
      show _ = Da.py (.list ((ps.map fun p => sortI [((posW n ts p.1 : Nat) : Int), ((posW n ts p.2 : Nat) : Int)]).map TD))
      rw [List.map_map]
      rfl
    rw [due_ties hps hts.symm]
    have r43 : R43 [.tms (webMany n ts : Nat) ((sorW n ts).map TD)] (.web ((sorW n ts).length : Nat) ((keptTies (apartPrs (sorW n ts))).map TD)) := ⟨_, sorW n ts, by omega, by omega, fun t ht => ?_, Nat.le_trans hap (by decide), rfl, rfl⟩
    · refine hs_ifF (vt_reprNe (zs := [.int (n : Nat), QT (keptTies (apartPrs (sorW n ts)))]) hG hr T.trepr (ve_lst (xs := [.int (n : Nat), QT (keptTies (apartPrs (sorW n ts)))]) (va_cons (ve_is (ve_points T.cl (ve_call C.c43 hr (va_cons (ve_var 7) va_nil) r43)) (by rw [hsl])) (va_cons (ve_ties T.cl (ve_callK (bs := [.tms (webMany n ts : Nat) ((sorW n ts).map TD)]) C.k43 hr (vk_cons (ve_var 7) vk_nil) (fun B H zs h => h) r43)) va_nil)) (by show 2 ≤ sizeLine; decide))
        (ve_lst (xs := [.int (n : Nat), QT (keptTies (apartPrs (sorW n ts)))]) (va_cons (ve_var 3) (va_cons (ve_tupL T.ttuple (ve_var 11)) va_nil)) (by show 2 ≤ sizeLine; decide)) (tiny2 ⟨by omega, by omega⟩ ?_)) (hs_nil fun σ H' p => (p.thaw m3).less (.eq (.eq (.eq (.eq (.no (.no (.no (.no (.eq (.eq (.no (.no (.eq (.eq (.eq (.eq (.eq (.eq (.eq (.eq .nil)))))))))))))))))))))
      have hmem : ∀ t ∈ keptTies (apartPrs (sorW n ts)), ∃ p ∈ apartPrs (sorW n ts), t = pI p := fun t ht => by
        obtain ⟨p, hp, e⟩ := List.mem_map.mp ((sortT_perm _).subset ht)
        exact ⟨p, hp, e.symm⟩
      refine ⟨by unfold keptTies; rw [(sortT_perm _).length_eq, List.length_map]; omega, fun t ht => ?_⟩
      obtain ⟨p, hp, rfl⟩ := hmem t ht
      obtain ⟨q1, q2⟩ := apart_tie hp
      rw [hsl] at q2
      refine ⟨(by decide : 2 ≤ 100), fun x hx => ?_⟩
      rcases mem_pI' hx with e | e <;> rw [e] <;> exact ⟨by omega, by omega⟩
    · have h2 := htt.2 t (hst t ht)
      omega
  unfold dsE
  refine hs_setX 12 (W' := Wr H0 bag cells cs P1 P2 H9 (c0 + 1 + 37 + 1)) sc56.nd (by rfl) (vx_op (f := addD 1) op_add (by rfl) ve_int (vx_call (W := Wr H0 bag cells cs P1 P2 H9) hb C.grab hr (va_cons (ve_var 1) (va_cons ve_int va_nil)) (r49 8)) fun d hd => ?_) fun d hd => ?_
  · obtain ⟨i, _, _, rfl⟩ := hd
    exact od_i0
  obtain ⟨_, ⟨i, i1, i2, rfl⟩, rfl⟩ := hd
  obtain ⟨m, em⟩ : ∃ m : Nat, 1 + i = (m : Int) := ⟨(1 + i).toNat, by omega⟩
  show HS _ (Pre g _ (List.set _ 12 (some (.py (.int (1 + i)))))) _ _ _
  rw [em]
  have hm1 : 1 ≤ m := by omega
  have hm8 : m ≤ 8 := by omega
  clear em i1 i2
  refine hs_parXC 13 11 (W' := Wr H0 bag cells cs P1 P2 H9 (c0 + 1 + 37 + 1 + 82)) sc56.nd (by rfl) (vx_call (W := Wr H0 bag cells cs P1 P2 H9) hb C.some_ hr (va_cons (ve_var 1) (va_cons (ve_var 12) (va_cons ve_int va_nil))) ⟨m, hm1, hm8, rfl, rfl⟩) (ve_lst (xs := []) va_nil) fun d hd => ?_
  obtain ⟨ts0, hdr, rfl⟩ := hd
  obtain ⟨S, hS⟩ : ∃ S, sortT ts0 = S := ⟨_, rfl⟩
  rw [hS]
  have hS9 : S.length ≤ 9 := by rw [← hS, (sortT_perm _).length_eq]; exact hdr.2.1
  have hS1 : 1 ≤ S.length := by
    rw [← hS, (sortT_perm _).length_eq]
    exact List.length_pos_iff.mpr (hdr.2.2.1 (by decide))
  have hSg : ∀ t ∈ S, GoodT m t := fun t ht => hdr.2.2.2 t ((sortT_perm _).subset (by rw [hS]; exact ht))
  have hSl : ∀ t ∈ S, t.Pairwise (· < ·) := fun t ht => (hSg t ht).2.2.1
  have hSk : keptTeams S = S := by
    rw [kept_lt hSl, ← hS, sortT_idem]
  have hSn : (S.map sortI).Nodup := by
    rw [keptTeams_lt hSl, ← hS]
    exact (sortT_perm _).nodup_iff.mpr hdr.1
  have hSo : ∀ t ∈ S, TeamOk (m : Nat) t := fun t ht => by
    obtain ⟨g1, g2, g3, g4⟩ := hSg t ht
    exact ⟨g3.imp fun h => by omega, by omega, g1, g4⟩
  have hSt : ∀ i, (S.getD i []).length < 1000 := fun i => by
    rw [List.getD_eq_getElem?_getD]
    cases e : S[i]? with
    | none => exact (by decide : 0 < 1000)
    | some t =>
      have := (hSg t (List.mem_of_getElem? e)).2.1
      exact Nat.lt_of_le_of_lt this (by decide)
  have hSa : (apartPrs S).length ≤ 81 := Nat.le_trans (sub_len (apart_sub S)) (Nat.mul_le_mul hS9 hS9)
  refine hs_froz fun H4 hB4 m4 => ?_
  refine hs_for (Z := Unit) (fun H5 _ _ => (Wd.ent (Wr H0 bag cells cs P1 P2 H9 (c0 + 1 + 37 + 1 + 82)).B H4 hB4).rel H5) (fun _ i _ => [none, some (.raw (.ref bag)), none, some (.py (.int (n : Nat))), none, none, none, none, none, none, none, some (.py (.list (rowsP S.length (fun k l => apartI (S.getD k []) (S.getD (k + 1 + l) [])) i))), some (.py (.int (m : Nat))), some (.py (LT S)), none, none, none, some (.web (n : Nat) (ts.map TD)), none, none])
    (vi_enum (j := 8) (k := 9) (K' := K) rfl T.tenum (by decide) (ve_var 13)) (pg_tup (n := 2) rfl (pgs_cons (pg_name (i := 8) sc56.nd rfl (Or.inr rfl)) (pgs_cons (pg_name (i := 9) sc56.nd rfl (Or.inr rfl)) pgs_nil rfl) rfl) rfl rfl) (fun H1 i z => .rel fun a h => h) (fun σ H1 p => ⟨(), p.torel⟩) (fun H5 i _ m5 hi => ?_) (fun H5 _ m5 => ?_)
  · rw [List.length_map] at hi
    have eg : (S.map TD).getD i .none = TD (S.getD i []) := by
      rw [map_getD hi, List.getD_eq_getElem?_getD, List.getElem?_eq_getElem hi]
      rfl
    refine hs_set 11 sc56.nd (ve_op op_cat (od_cat ?_) (ve_var 11) (ve_lcR2f 19 ((i : Int) + 1) (S.length : Nat) (fun l => apartI (S.getD i []) (S.getD (i + 1 + l) [])) (fun l => .tuple [.int (i : Nat), .int ((i : Int) + 1 + (l : Nat))]) sc56.nd loc_ent.rel T.trange (by omega) (ve_op op_add od_i0 (ve_var 8) ve_int) (ve_is (ve_lenL T.tlen (ve_var 13)) (by rw [List.length_map]))
      (fun l hl D acc _ _ _ _ _ => vts_one (vt_val (ve_call C.c50 hr (va_cons (ve_is (ve_var 9) (by rw [eg])) (va_cons (ve_ixL (ve_var 13) (ve_var 19) (by rw [show (i : Int) + 1 + (l : Nat) = ((i + 1 + l : Nat) : Int) by omega]; exact atI_TD (by omega))) va_nil)) ⟨_, _, hSt i, rfl, rfl⟩)))
      (fun l hl hq D acc _ _ _ _ _ => ve_pair (ve_var 8) (ve_var 19)))) (hs_nil fun σ H' p => ⟨(), ?_⟩)
    · rw [← List.length_append, ← rowsP_succ]
      exact Nat.le_trans (rowsP_len _ _ _) (Nat.le_trans (Nat.mul_le_mul (show i + 1 ≤ 9 by omega) hS9) (by decide))
    · show Pre g _ [_, _, _, _, _, _, _, _, _, _, _, some (.py (.list (rowsP S.length (fun k l => apartI (S.getD k []) (S.getD (k + 1 + l) [])) (i + 1)))), _, _, _, _, _, _, _, _] σ H'
      rw [rowsP_succ]
      exact p.less (.eq (.eq (.eq (.eq (.eq (.eq (.eq (.eq (.no (.no (.eq (.eq (.eq (.eq (.eq (.eq (.eq (.eq (.eq (.eq .nil))))))))))))))))))))
  · rw [List.length_map, rowsP_eq S.length fun p => apartI (S.getD p.1 []) (S.getD p.2 [])]
    obtain ⟨fd, fps, Fe, Be⟩ := C.eqW
    refine hs_ifF (vt_neW Fe C.eqC Be (hr.mono (by decide)) (n := (S.length : Nat)) (ts := keptTies (apartPrs S)) (ve_is (ve_call C.c43 hr (va_cons (ve_is (ve_make C.cT hr (va_cons (ve_var 12) (va_cons (ve_var 13) va_nil)) ⟨(m : Nat), S, by omega, by omega, hS1, by omega, hSo, hSn, rfl, rfl⟩) (by rw [hSk])) va_nil) ⟨(m : Nat), S, hS1, by omega, fun t ht => (hSo t ht).2.1, by omega, rfl, rfl⟩) rfl)
      (ve_make C.cW hr (va_cons (ve_is (ve_lenL T.tlen (ve_var 13)) (by rw [List.length_map])) (va_cons (ve_var 11) va_nil)) ⟨S.length, apartPrs S, _, hS1, by omega, fun p hp => apart_tie hp, (prs_nodup _).filter _, by omega, .inl rfl, rfl, rfl⟩)) (hs_nil fun σ H' p => ⟨n, ts, ⟨hn1, by omega⟩, ?_⟩)
    refine ((p.unrel.thaw m4).wup (fun mm => ?_) rfl).less (.eq (.eq (.eq (.eq (.eq (.eq (.eq (.eq (.eq (.eq (.eq (.no (.no (.no (.eq (.eq (.eq (.eq (.eq (.eq .nil))))))))))))))))))))
    exact ⟨b2_more (by omega) mm.1, mm.2⟩
end
end My
/-! P21: the law. -/
namespace My
open PySem PySem.Spec PyProof.Rows L2 StX LamX
theorem many_rel {n : Nat} (h3 : 3 ≤ n) (h : n ≤ 60) : webMany n [] + (if n = 3 then 3 else 1) = webMany n ((star n).map pI) + (n - 1) := by
  have h1 := many_all h3 h
  have h2 := many_star h3 h
  obtain ⟨j, rfl⟩ : ∃ j, n = j + 2 := ⟨n - 2, by omega⟩
  have e1 : j + 2 - 1 = j + 1 := by omega
  have e2 : j + 2 - 2 = j := by omega
  rw [e1] at h1 h2 ⊢
  rw [e2] at h2
  have e : (j + 2) * (j + 1) = (j + 1) * j + 2 * (j + 1) := by
    rw [Nat.mul_comm (j + 2) (j + 1), Nat.mul_add (j + 1) j 2, Nat.mul_comm (j + 1) 2]
  omega
theorem half_all {n : Nat} (h3 : 3 ≤ n) (h : n ≤ 60) : (n : Int) * ((n : Int) - 1) / 2 = (webMany n [] : Nat) := by
  have h1 := many_all h3 h
  obtain ⟨j, rfl⟩ : ∃ j, n = j + 1 := ⟨n - 1, by omega⟩
  have e1 : j + 1 - 1 = j := by omega
  have e2 : ((j + 1 : Nat) : Int) - 1 = (j : Int) := by omega
  rw [e1] at h1
  rw [e2, ← Int.natCast_mul, ← h1]
  omega
def dsS (bag : Addr) (o3 o17 : Option Da) : Ds := [none, some (.raw (.ref bag)), none, o3, none, none, none, none, none, none, none, none, none, none, none, none, none, o17, none, none]
def dsF (bag : Addr) (i : Nat) (z : {n : Nat // 1 ≤ n ∧ n ≤ 60} × List (List Int)) : Ds := if i = 0 then dsS bag none none else dsS bag (some (.py (.int (z.1.1 : Nat)))) (some (.web (z.1.1 : Nat) (z.2.map TD)))
/-- the world at the law's start -/
def Wd.at0 (K : PySem.W.Frag) (P1 P2 sc : Addr) (ns : List Int) : Wd where
  B := fun _ => False
  M := fun H => SqL K H sc (ns.map V.int) ∧ TabS H P1 qL ∧ TabS H P2 qR
  mono := fun s h => ⟨Same.seq s h.1, h.2.1.ext s, h.2.2.ext s⟩
  al := fun _ _ z => z.elim
def ds0 (sc : Addr) : Ds := [some (.raw (.ref sc)), none, none, none, none, none, none, none, none, none, none, none, none, none, none, none, none, none, none, none]
section
variable {P : Program} {w : World} {K : PySem.W.Frag} {mg : Str → Option Value} {base : Heap} {g : Gc} {c : Ec} {cd P1 P2 f ga fe sc : Addr} {fdg : FuncData} {A : Around} {outer : List Env} {s : Shared} {H : Hp} {E : XK} {H0 : Hp} {ns : List Int}
/-- the bag is made -/
theorem law_bag (C : Calls56 P w K mg base g c P2 fe) (hr : Room 11 (X56 P w K mg base f cd A outer s H E).A) (hns : ns.length ≤ 63) {rest : List Stmt} {N : SH} {R : V → Hp → Prop} {p1 p2 p3 p4 pos : Pos}
    (h : ∀ H0 bag cells cs, HS (X56 P w K mg base f cd A outer s H E) (Pre g (Wd.b2 H0 bag cells cs P1 P2 qL qR 0) (dsS bag none none)) rest N R)
    (hs : swapsWith (.Call (.Name "_law_bag" p2) [.Name "_law_script" p3] [] p4) (some (.Name "_law_bag_here" p1)) pos.line (X56 P w K mg base f cd A outer s H E).env = pure false := by rfl) (hpl : (backTo p4 (starEach [] (X56 P w K mg base f cd A outer s H E).env)).any (·.1) = false := by rfl) : HS (X56 P w K mg base f cd A outer s H E) (Pre g (Wd.at0 K P1 P2 sc ns) (ds0 sc)) (.Assign [.Name "_law_bag_here" p1] (.Call (.Name "_law_bag" p2) [.Name "_law_script" p3] [] p4) pos :: rest) N R := by
  obtain ⟨fa, fd, ps, us, F, nm, hb, hv⟩ := C.bag
  refine hs_cons (N1 := fun σ H' => ∃ H0 bag cells cs, Pre g (Wd.b2 H0 bag cells cs P1 P2 qL qR 0) (dsS bag none none) σ H') (PS.imp (ps_set (i := 1) sc56.nd rfl (.inl rfl) (pe_call F (hr.mono (by decide)) rfl nm.mgx nm.kp hb hv passL (va_cons (g := g) (W := Wd.at0 K P1 P2 sc ns) (ds := ds0 sc) (ve_var 0) va_nil rfl) (by decide) rfl hpl) hs) ?_) (hs_ex fun H0 => hs_ex fun bag => hs_ex fun cells => hs_ex fun cs => h H0 bag cells cs)
  rintro D σ H' ⟨p, n, _⟩
  refine ⟨p, fun vs H2 m e dv => ?_⟩
  cases dv with
  | @cons v _ vs' _ h1 h2 =>
    cases h2
    have h1 : v = .ref sc := h1
    refine ⟨sc, ns, by rw [h1]; rfl, m.1, hns, fun bag cells cs H3 s3 hn b3 => n _ _ ⟨H3, bag, cells, cs, ⟨Ex.refl H3, b3, m.2.1.ext s3, m.2.2.ext s3⟩, ?_⟩⟩
    have z := (p.2.flat (B' := Ofs3 bag P1 P2) (H' := H3) rfl).set (i := 1) (v := .ref bag) (d := .raw (.ref bag)) rfl
    have ld : LD (dsS bag none none) ((ds0 sc).set 1 (some (.raw (.ref bag)))) := .no (.eq (.eq (.eq (.eq (.eq (.eq (.eq (.eq (.eq (.eq (.eq (.eq (.eq (.eq (.eq (.eq (.eq (.eq (.eq .nil)))))))))))))))))))
    exact z.less ld.len ld.get
theorem lawB (T : Tx K mg g) (Y : Hd K mg c) (ear : Ear K mg ga fdg) (C : Calls56 P w K mg base g c P2 fe) (TB : TabB base mg cd P1) (hne : P1 ≠ P2) (hr : Room 11 (X56 P w K mg base f cd A outer s H E).A) (hG : (X56 P w K mg base f cd A outer s H E).A.guards = some []) (hns : ns.length ≤ 63) :
    HS (X56 P w K mg base f cd A outer s H E) (Pre g (Wd.at0 K P1 P2 sc ns) (ds0 sc)) (defBody (tp 56)) (fun _ _ => False) (fun v _ => v = .bl true) := by
  refine law_bag C hr hns fun H0 bag cells cs => ?_
  refine hs_for (Z := {n : Nat // 1 ≤ n ∧ n ≤ 60} × List (List Int)) (fun H1 i _ => Wr H0 bag cells cs P1 P2 H1 (121 * i)) (fun _ i z => dsF bag i z)
    (vi_rng1 (j := 2) (k := 3) rfl T.trange ve_int (by decide)) (pg_name (i := 2) sc56.nd rfl (Or.inl rfl)) (fun H1 i z => .rel fun a h => h) (fun σ H1 p => ⟨(⟨1, by decide, by decide⟩, []), p.torel⟩) (fun H1 i z m1 hi => ?_) (fun H1 z m1 => ?_)
  · have hi : i < 3 := hi
    refine hs_post (hs_pre (turn T Y ear C TB hne hr hG i (121 * i) (by omega)) fun σ H' p => p.less ?_) fun σ H' z => ?_
    · unfold dsF
      split <;> exact .eq (.eq (.eq (.no (.eq (.eq (.eq (.eq (.eq (.eq (.eq (.eq (.eq (.eq (.eq (.eq (.eq (.no (.eq (.eq .nil)))))))))))))))))))
    · obtain ⟨n, ts, hn, p⟩ := z
      refine ⟨(⟨n, hn⟩, ts), ?_⟩
      have e : dsF bag (i + 1) (⟨n, hn⟩, ts) = dsE bag n ts := by
        unfold dsF
        rw [if_neg (Nat.succ_ne_zero i)]
        rfl
      have e2 : 121 * (i + 1) = 121 * i + 121 := by omega
      show Pre g (Wr H0 bag cells cs P1 P2 H1 (121 * (i + 1))) (dsF bag (i + 1) (⟨n, hn⟩, ts)) σ H'
      rw [e, e2]
      exact p
  · obtain ⟨⟨n, hn⟩, ts⟩ := z
    refine hs_pre (P' := Pre g (Wd.b2 H0 bag cells cs P1 P2 qL qR 363) (dsE bag n ts)) ?_ fun σ H' p => Pre.unrel (H1 := H1) p
    clear m1
    unfold dsE
    have hb := hasbag_b2 (H0 := H0) (bag := bag) (cells := cells) (P1 := P1) (P2 := P2) (cs := cs) (q1 := qL) (q2 := qR)
    refine hs_ifRX (W' := Wd.b2 H0 bag cells cs P1 P2 qL qR (363 + 2)) (by rfl) (vxt_not (vxt_val (S := fun k => k = true) (vx_ref C.ref hr hne (va_cons (ve_var 1) (va_cons (ve_var 17) (va_cons (ve_var 3) va_nil))) hn))) (fun z => ?_) fun _ => ?_
    · obtain ⟨j, rfl, z⟩ := z
      cases z
    refine hs_setX 3 (W' := Wd.b2 H0 bag cells cs P1 P2 qL qR (363 + 2 + 1)) sc56.nd (by rfl) (vx_op (f := addD 3) op_add (by rfl) ve_int (vx_call (W := fun c => Wd.b2 H0 bag cells cs P1 P2 qL qR c) hb C.grab hr (va_cons (ve_var 1) (va_cons ve_int va_nil)) (r49 58)) fun d hd => ?_) fun d hd => ?_
    · obtain ⟨i, _, _, rfl⟩ := hd
      exact od_i0
    obtain ⟨_, ⟨i, i1, i2, rfl⟩, rfl⟩ := hd
    obtain ⟨m, em⟩ : ∃ m : Nat, 3 + i = (m : Int) := ⟨(3 + i).toNat, by omega⟩
    show HS _ (Pre g _ (List.set _ 3 (some (.py (.int (3 + i)))))) _ _ _
    rw [em]
    have hm3 : 3 ≤ m := by omega
    have hm60 : m ≤ 60 := by omega
    clear em i1 i2
    obtain ⟨own, hown⟩ : ∃ o : Int, o = if m = 3 then 3 else 1 := ⟨_, rfl⟩
    refine hs_froz fun H4 hB4 m4 => ?_
    refine hs_par 14 15 (d1 := .py (LT ((star m).map pI))) (d2 := .py (.int (webMany m [] : Nat))) sc56.nd (va_cons (ve_is (ve_lcR 8 ((m : Int) - 1) (fun i => .tuple [.int (i : Nat), .int ((m : Int) - 1)]) sc56.nd loc_ent T.trange (by omega) (ve_op op_sub od_i0 (ve_var 3) ve_int) fun i hi D acc _ _ _ _ _ => ve_pair (ve_var 8) (ve_op op_sub od_i0 (ve_var 3) ve_int)) ?_)
      (va_cons (ve_is (ve_op op_fdiv (od_iC (C := CDiv) (f := fun i j => i / j) ⟨by decide, by decide⟩) (ve_op op_mul (od_iC (i := (m : Int)) (j := (m : Int) - 1) (C := CMul) (f := fun i j => i * j) (.inl ⟨by omega, by omega⟩)) (ve_var 3) (ve_op op_sub od_i0 (ve_var 3) ve_int)) ve_int) (by rw [half_all hm3 hm60])) va_nil)) ?_
    · show Da.py (.list ((List.range ((m : Int) - 1).toNat).map fun i => PyData.tuple [.int (i : Nat), .int ((m : Int) - 1)])) = Da.py (.list ((((List.range (m - 1)).map fun i => (i, m - 1)).map pI).map TD))
      have e1 : ((m : Int) - 1).toNat = m - 1 := by omega
      have e2 : (m : Int) - 1 = ((m - 1 : Nat) : Int) := by omega
      rw [e1, List.map_map, List.map_map, e2]
      rfl
    refine hs_set 16 sc56.nd (d := .py (.int own)) (ve_if (k := decide (m = 3)) (vt_cmp (op_eqD (hu64 hr)) (od_eq (sh_int _) (sh_int _) ?_) (ve_var 3) ve_int) (fun z => ve_is ve_int ?_) fun z => ve_is ve_int ?_) ?_
    · rw [PyData.eqv, Bool.beq_eq_decide_eq]
      exact decide_eq_decide.mpr (by omega)
    · rw [hown, if_pos (of_decide_eq_true z)]
    · rw [hown, if_neg (of_decide_eq_false z)]
    refine hs_ret (ve_reprEq (zs := [.int (webMany m [] : Nat), .int (webMany m ((star m).map pI) : Nat)]) hG hr T.trepr
      (ve_lst (xs := [.int (webMany m [] : Nat), .int (webMany m ((star m).map pI) : Nat)]) (va_cons (ve_call C.c44 hr (va_cons (ve_is (d2 := .web (m : Nat) (([] : List (List Int)).map TD)) (ve_make C.cW hr (va_cons (ve_var 3) (va_cons (ve_lst (xs := []) va_nil) va_nil)) ⟨m, [], LT [], by omega, hm60, (fun p hp => nomatch hp), List.nodup_nil, by decide, .inl rfl, rfl, rfl⟩) (by rw [kept0])) va_nil) ⟨m, [], ⟨by omega, List.nodup_nil, by decide⟩, rfl, rfl⟩)
        (va_cons (ve_call C.c44 hr (va_cons (ve_is (d2 := .web (m : Nat) (((star m).map pI).map TD)) (ve_make C.cW hr (va_cons (ve_var 3) (va_cons (ve_var 14) va_nil)) ⟨m, star m, _, by omega, hm60, star_tie, star_nd m, by rw [star_len]; omega, .inl rfl, rfl, rfl⟩) (by rw [star_kept])) va_nil) ⟨m, (star m).map pI, ⟨by omega, nodup_pI (star_nd m), by rw [List.length_map, star_len]; omega⟩, rfl, rfl⟩) va_nil)) (by show 2 ≤ sizeLine; decide))
      (ve_lst (xs := [.int (webMany m [] : Nat), .int (webMany m ((star m).map pI) : Nat)]) (va_cons (ve_var 15) (va_cons (ve_is (ve_op op_add od_i0 (ve_op op_add od_i0 (ve_op op_sub od_i0 (ve_var 15) (ve_var 3)) ve_int) (ve_var 16)) ?_) va_nil)) (by show 2 ≤ sizeLine; decide))
      (tiny_ii ?_ ?_)) fun σ v H' p dv => ?_
    · have h1 := many_rel hm3 hm60
      have e : ((webMany m [] : Nat) : Int) - (m : Int) + 1 + own = (webMany m ((star m).map pI) : Nat) := by
        rw [hown]
        by_cases z : m = 3
        · rw [if_pos z] at h1 ⊢
          omega
        · rw [if_neg z] at h1 ⊢
          omega
      exact congrArg (fun z => Da.py (.int z)) e
    · have := many_all hm3 hm60
      have := Nat.mul_le_mul hm60 (show m - 1 ≤ 60 by omega)
      exact ⟨by omega, by omega⟩
    · have h1 := many_rel hm3 hm60
      have := many_all hm3 hm60
      have := Nat.mul_le_mul hm60 (show m - 1 ≤ 60 by omega)
      have : (if m = 3 then 3 else 1) ≤ 3 := by split <;> decide
      exact ⟨by omega, by omega⟩
    · cases dv
      rfl
end
end My
/-! Te: the law called where no repr is under way, two tables of code objects empty. -/
namespace My
open PySem PySem.Spec PyProof.Rows L2 StX LamX
section
variable {CX : CXT} {P : Program} {w : World} {K : PySem.W.Frag} {mg : Str → Option Value} {base : Heap} {k : Nat} {f : Addr} {name qual : Str} {params : Arguments} {body : List Stmt} {scope : Scope} {dV kV doc pm cdv ct oc : Value} {an od : Option Addr} {osl : Array (Option Value)} {N ps : List Str}
  {A : Around} {outer : List Env} {s : Shared} {H : Hp} {args : Args} {us : List Value} {vs : List V} {Q : VK} {E : XK}
/-- as fn_of, for one caller -/
theorem fn_at (lk : K.lookup f = some ⟨oc, od, .func (PySem.W.fnOf name qual params body scope dV kV doc pm an cdv ct), osl⟩) (hcd : PySem.W.codeIn K cdv qual = true) (S : FnScope N ps scope) (hl : vs.length = ps.length) (hr : Room (k + 1) A) (e0 : Env0 P w K mg base A outer s H)
    (hb : BindsTo s (PySem.W.fnOf name qual params body scope dV kV doc pm an cdv ct) args (ps.zip us)) (r : Vals vs us)
    (hbody : Room k (A.deeper (envOfC qual scope s.heap.objs.size f cdv)) → ∃ t, PSs (cxOf CX P w K mg base N qual scope f cdv A outer s H E) body t ∧ t { nx := fun _ H' => Q .non H', rt := Q } (L2.start N vs) H) :
    codeAny (model P w) A (.call (.ref f) args) (CR CX outer P w H s Q E) s := by
  have old := fun b o e => (e0.bs b o e).1
  have KX := e0.mod.kin.keeps old
  refine codeAny_call_function hr.depth (KX _ _ lk) rfl S.co S.gen rfl (PySem.W.codeRec_of KX hcd) (hb _ _ _ _ (wpAny_newFunctionEnv_cells S.kind (fun ⟨n, v⟩ hy => ?_) fun env he s1 x => ?_))
  · exact (S.par n (List.of_mem_zip hy).1).imp id fun q => ⟨q, PySem.W.cellsFrom_some _ _ _ (.inl q)⟩
  · subst he
    obtain ⟨t, ht, hq⟩ := hbody (hr.deeper _)
    refine ⟨(e0.mod.nolimit.keeps old).keeps x.toInCall.keep, codeAny_func (wpAny_mono (ht.run [] s1 (L2.start N vs) H _ (inv_start S hr.hd e0 hl r x) hq) (fun fl s' hs => ?_) fun _ _ hs => hs)⟩
    cases fl with
    | ret u =>
      obtain ⟨v, _, H', J, rv, q⟩ := hs
      exact ⟨v, H', J.os, J.bare, J.base, J.hok, rv, q⟩
    | next =>
      obtain ⟨_, H', J, q⟩ := hs
      exact ⟨.non, H', J.os, J.bare, J.base, J.hok, (rfl : RelV V.non Value.none), q⟩
    | brk =>
      obtain ⟨_, _, _, q⟩ := hs
      exact q.elim
    | cont =>
      obtain ⟨_, _, _, q⟩ := hs
      exact q.elim
end
/-- what is tracked at the law's start -/
def HL (K : PySem.W.Frag) (a P1 P2 : Addr) (vs : List Value) (ns : List Int) : Hp := fun b => if b = P1 ∨ b = P2 then some (.tbl #[]) else if b = a ∧ (K.lookup a).isNone = true then some (.frz { cls := .type "list", data := .seq vs.toArray } (.lst (ns.map V.int))) else none
section
variable {K : PySem.W.Frag} {a P1 P2 b : Addr} {vs : List Value} {ns : List Int}
theorem HL_tab (h : b = P1 ∨ b = P2) : HL K a P1 P2 vs ns b = some (.tbl #[]) := if_pos h
theorem HL_frz (h : ¬ (b = P1 ∨ b = P2)) (ha : b = a) (k : K.lookup a = none) : HL K a P1 P2 vs ns b = some (.frz { cls := .type "list", data := .seq vs.toArray } (.lst (ns.map V.int))) := (if_neg h).trans (if_pos ⟨ha, by rw [k]; rfl⟩)
theorem HL_or (K : PySem.W.Frag) (a P1 P2 : Addr) (vs : List Value) (ns : List Int) (b : Addr) : (b = P1 ∨ b = P2) ∨ (¬ (b = P1 ∨ b = P2) ∧ b = a ∧ K.lookup a = none) ∨ HL K a P1 P2 vs ns b = none := by
  by_cases h : b = P1 ∨ b = P2
  · exact .inl h
  · by_cases h2 : b = a ∧ (K.lookup a).isNone = true
    · exact .inr (.inl ⟨h, h2.1, Option.isNone_iff_eq_none.mp h2.2⟩)
    · exact .inr (.inr ((if_neg h).trans (if_neg h2)))
end
section
variable {CX : CXT} {P : Program} {w : World} {K : PySem.W.Frag} {mg mb : Str → Option Value} {s₁ : Shared} {fa a c1 c2 P1 P2 : Addr} {vs : List Value} {ns : List Int}
theorem law_run (KX : K.In s₁.heap) (hns : s₁.heap.Ns mainGlobals mg) (hb : s₁.heap.Ns builtinsNs mb) (hbb : ∀ x : Str, x ≠ "__name__" → mb x = bootBuiltins x) (hlim : s₁.heap.NoLimit) (hg : s₁.gens = #[])
    (hT : ∀ p, p = P1 ∨ p = P2 → s₁.heap.get? p = some { cls := .none, data := .fields #[] }) (nT : ∀ p, p = P1 ∨ p = P2 → K.lookup p = none) (C1 : PySem.W.CodeHd s₁.heap c1 P1) (C2 : PySem.W.CodeHd s₁.heap c2 P2)
    (hbm : ∃ (bm : Addr) (ob : Obj), mg "__builtins__" = some (.ref bm) ∧ bm ≠ builtinsNs ∧ s₁.heap.get? bm = some ob ∧ ob.cls = .type "module" ∧ ob.dict = some builtinsNs ∧ ob.data = .plain)
    (ha : s₁.heap.get? a = some { cls := .type "list", data := .seq vs.toArray }) (hi : IntsAre vs ns) (hl : ns.length ≤ sizeLine)
    (F : ∀ (base : Heap) (H : Hp), K.In base → base.Ns mainGlobals mg → TabB base mg c1 P1 → TabB base mg c2 P2 → Env0 P w K mg base callerA [] s₁ H → H P1 = some (.tbl #[]) → H P2 = some (.tbl #[]) → SqL K H a (ns.map V.int) →
      codeAny (model P w) callerA (.call (.ref fa) ⟨[.ref a], []⟩) (CR CX [] P w H s₁ (fun v _ => v = .bl true) fun _ _ _ => False) s₁)
    (hCX : ∀ H e s', CX [] H s₁ (fun _ _ _ => False) e s' → False) :
    codeAny (model P w) callerA (.call (.ref fa) ⟨[.ref a], []⟩) (fun r s' => r = .ok (.ret (.bool true)) ∧ OldK s₁.heap s'.heap ∧ s'.os = s₁.os ∧ AllBare s'.gens) s₁ := by
  have rv := vals_ints hi
  obtain ⟨H, eH⟩ : ∃ H, HL K a P1 P2 vs ns = H := ⟨_, rfl⟩
  have tab : ∀ {b}, b = P1 ∨ b = P2 → H b = some (.tbl #[]) := fun h => by rw [← eH]; exact HL_tab h
  have frz : ∀ {b}, ¬ (b = P1 ∨ b = P2) → b = a → K.lookup a = none → H b = some (.frz { cls := .type "list", data := .seq vs.toArray } (.lst (ns.map V.int))) := fun h1 h2 h3 => by rw [← eH]; exact HL_frz h1 h2 h3
  have cs : ∀ b, (b = P1 ∨ b = P2) ∨ (¬ (b = P1 ∨ b = P2) ∧ b = a ∧ K.lookup a = none) ∨ H b = none := fun b => by rw [← eH]; exact HL_or K a P1 P2 vs ns b
  have aT : ¬ (a = P1 ∨ a = P2) := fun z => by
    rw [hT a z] at ha
    cases ha
  -- what is neither a list nor an empty table is not tracked
  have off : ∀ {b : Addr} {o : Obj}, s₁.heap.get? b = some o → (∀ x n, o.data ≠ .seq x n) → o.data ≠ .fields #[] → H b = none := fun {b o} e d1 d2 => by
    rcases cs b with h | ⟨_, h, _⟩ | h
    · rw [hT b h] at e
      cases e
      exact (d2 rfl).elim
    · rw [h, ha] at e
      cases e
      exact (d1 _ _ rfl).elim
    · exact h
  have at_ : ∀ {b : Addr} {o : Obj}, s₁.heap.get? b = some o → (∀ x n, o.data ≠ .seq x n) → o.data ≠ .fields #[] → (hidT s₁.heap H).get? b = some o := fun e d1 d2 => hidT_get e (off e d1 d2)
  have nsH : ∀ {b : Addr} {m : Str → Option Value}, s₁.heap.Ns b m → (hidT s₁.heap H).Ns b m := fun ⟨o, es, ep, e, d, r⟩ => ⟨o, es, ep, at_ e (fun x n z => by rw [d] at z; cases z) (fun z => by rw [d] at z; cases z), d, r⟩
  have hKb : K.In (hidT s₁.heap H) := fun b o e => hidT_get (KX b o e) (by
    rcases cs b with h | ⟨_, h, h2⟩ | h
    · rw [nT b h] at e
      cases e
    · rw [h, h2] at e
      cases e
    · exact h)
  have hM : L2.Mod K mg (hidT s₁.heap H) := ⟨hKb, nsH hns, ⟨mb, nsH hb, hbb⟩, let ⟨mc, h1, h2⟩ := hlim; ⟨mc, nsH h1, h2⟩⟩
  have hok : HOk P w H s₁.heap := fun b u z => by
    rcases cs b with h | ⟨h1, h2, h3⟩ | h
    · rw [tab h] at z
      cases z
      exact hT b h
    · rw [frz h1 h2 h3] at z
      cases z
      rw [h2]
      exact ⟨ha, by rw [List.length_map]; exact hl, vs, _, rv, ha⟩
    · rw [h] at z
      cases z
  have hS : SqL K H a (ns.map V.int) := by
    cases hk : K.lookup a with
    | none => exact .inl (.inr ⟨_, frz aT rfl hk⟩)
    | some o =>
      have e := KX a o hk
      rw [ha] at e
      cases e
      exact .inr ⟨_, vs.toArray, _, hk, rfl, rfl, rfl, by rw [List.size_toArray, hi.length]; exact hl, by simpa using rv⟩
  have tb : ∀ {c p : Addr}, p = P1 ∨ p = P2 → PySem.W.CodeHd s₁.heap c p → TabB (hidT s₁.heap H) mg c p := fun {c p} hp C => by
    have hTp := hT p hp
    refine ⟨?_, ?_, fun z => ?_⟩
    · obtain ⟨o, us, file, tf, flags, tg, inF, text, tt, e1, r1, r2, r3, rest⟩ := C
      refine ⟨o, us, file, tf, flags, tg, inF, text, tt, at_ e1 (fun x n z => ?_) (fun z => ?_), r1, r2, r3, rest⟩
      · rw [r2] at z
        cases z
      · rw [r2] at z
        cases z
        simp at r3
    · obtain ⟨bm, ob, b1, b2, b3, b4, b5, b6⟩ := hbm
      refine ⟨bm, ob, b1, b2, fun q => ?_, fun q => ?_, at_ b3 (fun x n z => ?_) (fun z => ?_), b4, b5, b6⟩
      · obtain ⟨o, es, ep, e, hd, _⟩ := hns
        rw [q, e] at b3
        cases b3
        rw [hd] at b6
        cases b6
      · rw [q, hTp] at b3
        cases b3
        cases b6
      · rw [b6] at z
        cases z
      · rw [b6] at z
        cases z
    · obtain ⟨o, es, ep, e, hd, _⟩ := hns
      rw [z, hTp] at e
      cases e
      cases hd
  have e0 : Env0 P w K mg (hidT s₁.heap H) callerA [] s₁ H := ⟨rfl, hM, fun b o e => of_hidT e, Nat.le_of_eq (hidT_size _ _), trivial, fun b hb => absurd (show b ∈ ([] : List Addr) from hb) (by simp), hok, .of_eq hg⟩
  refine codeAny_mono (F _ H hKb (nsH hns) (tb (.inl rfl) C1) (tb (.inr rfl) C2) e0 (tab (.inl rfl)) (tab (.inr rfl)) hS) fun r s' h => ?_
  cases r with
  | error e => exact (hCX H e s' h).elim
  | ok fl =>
    cases fl with
    | next => exact False.elim h
    | brk => exact False.elim h
    | cont => exact False.elim h
    | ret u =>
      obtain ⟨v, H', os, bare, un, hok', r', q⟩ := h
      have q : v = .bl true := q
      subst q
      obtain rfl : u = Value.bool true := r'
      have grown : ∀ {p : Addr}, p = P1 ∨ p = P2 → ∃ more : Array Value, s'.heap.get? p = some { cls := .none, data := .fields more } := fun {p} hp => by
        obtain ⟨more, z⟩ := un.tbls p #[] (tab hp)
        exact ⟨_, hok' p _ z⟩
      have rest : ∀ {b : Addr} {o : Obj}, ¬ (b = P1 ∨ b = P2) → s₁.heap.get? b = some o → s'.heap.get? b = some o := fun {b o} nb e => by
        rcases cs b with h | ⟨h1, h2, h3⟩ | h
        · exact (nb h).elim
        · have z := frz h1 h2 h3
          have e1 := (hok b _ z).1
          rw [e] at e1
          cases e1
          exact (hok' b _ (un.frzs b _ _ z)).1
        · exact un.keep b o e h (fun z => absurd (show b ∈ ([] : List Addr) from z) (by simp)) (by simp)
      refine ⟨rfl, ⟨fun b o e => ?_, fun b o e => ?_⟩, os, bare⟩
      · by_cases hb : b = P1 ∨ b = P2
        · obtain ⟨more, hm⟩ := grown hb
          have t1 := hT b hb
          have e' := e
          rw [t1] at e'
          cases e'
          have ct : ∃ c, PySem.W.CodeHd s₁.heap c b := hb.elim (fun z => ⟨c1, by rw [z]; exact C1⟩) fun z => ⟨c2, by rw [z]; exact C2⟩
          obtain ⟨c, hc⟩ := ct
          exact .inr (.inl ⟨(hc.tab t1).isCodeTable, rfl, #[], more, rfl, by rw [Array.empty_append]; exact hm⟩)
        · exact .inl (rest hb e)
      · by_cases hb : b = P1 ∨ b = P2
        · obtain ⟨more, hm⟩ := grown hb
          exact ⟨_, hm⟩
        · exact ⟨o, rest hb e⟩
end
end My
/-! Ef: what the top has left, fact by fact. -/
namespace My
open PySem PySem.Spec PyProof.Rows L2 StX LamX
/-- a def of the text without defaults -/
def Dn (K : PySem.W.Frag) (mg : Str → Option Value) (x : Str) (st : Stmt) (ps : List Str) : Prop := ∃ f fd, FunS K x x st [] f fd ∧ Nm K mg x f ∧ Binds K fd ps []
/-- one with defaults: n values written, the others filled up by ds -/
def Dd (K : PySem.W.Frag) (mg : Str → Option Value) (x : Str) (st : Stmt) (ps : List Str) (dvs ds : List V) : Prop := ∃ f fd us, FunS K x x st dvs f fd ∧ Nm K mg x f ∧ Binds K fd ps us ∧ Vals ds us
/-- one whose code object is known -/
def Dc (K : PySem.W.Frag) (mg : Str → Option Value) (x : Str) (st : Stmt) (cd : Addr) (ps : List Str) : Prop := ∃ f fd, FunCd K x x st cd f fd ∧ Nm K mg x f ∧ Binds K fd ps []
/-- a class's __init__ -/
def Di (K : PySem.W.Frag) (mg : Str → Option Value) (x : Str) (C : Addr) (st : Stmt) (qual : Str) (ps : List Str) : Prop := ∃ f fd, FunS K "__init__" qual st [] f fd ∧ Mk K C f ∧ mg x = some (.ref C) ∧ Binds K fd ps []
section
variable {P : Program} {w : World} {K : PySem.W.Frag} {mg : Str → Option Value} {base h : Heap} {x qual : Str} {st : Stmt} {ps : List Str} {f C : Addr} {oc kV dc pm cd ct : Value} {od an : Option Addr} {sl : Array (Option Value)}
theorem binds0 {fd : FuncData} (F : FunS K x qual st [] f fd) (hb : ∀ (kV doc pm : Value) (an : Option Addr) (cdv ct : Value) (us : List Value), us.length = ps.length → bindArgs (PySem.W.fnOf x qual (defArgs st) (defBody st) (defScope st) .none kV doc pm an cdv ct) ⟨us, []⟩ = pure (ps.zip us)) : Binds K fd ps [] := FunD.bindsN F hb
theorem dn_mk (X : K.In h) (G : h.Ns mainGlobals mg) (a : PySem.W.nsIn K mainGlobals x = some (some (.ref f))) (l : K.lookup f = some ⟨oc, od, .func (PySem.W.fnOf x x (defArgs st) (defBody st) (defScope st) .none kV dc pm an cd ct), sl⟩) (c : PySem.W.codeIn K cd x = true) (k : PySem.W.keepIn K (.ref f) = true)
    (hb : ∀ (kV doc pm : Value) (an : Option Addr) (cdv ct : Value) (us : List Value), us.length = ps.length → bindArgs (PySem.W.fnOf x x (defArgs st) (defBody st) (defScope st) .none kV doc pm an cdv ct) ⟨us, []⟩ = pure (ps.zip us)) : Dn K mg x st ps :=
  have F : FunS K x x st [] f _ := ⟨⟨oc, od, .none, kV, dc, pm, an, cd, ct, sl, rfl, l, c, .inl ⟨rfl, rfl⟩, .inl rfl⟩, k⟩
  ⟨f, _, F, ⟨PySem.W.mg_of X G a, k⟩, binds0 F hb⟩
theorem dc_mk {c1 : Addr} (X : K.In h) (G : h.Ns mainGlobals mg) (a : PySem.W.nsIn K mainGlobals x = some (some (.ref f))) (l : K.lookup f = some ⟨oc, od, .func (PySem.W.fnOf x x (defArgs st) (defBody st) (defScope st) .none kV dc pm an (.ref c1) ct), sl⟩) (c : PySem.W.codeIn K (.ref c1) x = true) (k : PySem.W.keepIn K (.ref f) = true)
    (hb : ∀ (kV doc pm : Value) (an : Option Addr) (cdv ct : Value) (us : List Value), us.length = ps.length → bindArgs (PySem.W.fnOf x x (defArgs st) (defBody st) (defScope st) .none kV doc pm an cdv ct) ⟨us, []⟩ = pure (ps.zip us)) : Dc K mg x st c1 ps :=
  have F : FunS K x x st [] f _ := ⟨⟨oc, od, .none, kV, dc, pm, an, .ref c1, ct, sl, rfl, l, c, .inl ⟨rfl, rfl⟩, .inl rfl⟩, k⟩
  ⟨f, _, ⟨⟨oc, od, kV, dc, pm, an, ct, sl, rfl, l, c⟩, k⟩, ⟨PySem.W.mg_of X G a, k⟩, binds0 F hb⟩
theorem di_mk (X : K.In h) (G : h.Ns mainGlobals mg) (a : PySem.W.nsIn K mainGlobals x = some (some (.ref C))) (i : PySem.W.findIn K (.ref C) "__init__" = some (some (.ref f))) (l : K.lookup f = some ⟨oc, od, .func (PySem.W.fnOf "__init__" qual (defArgs st) (defBody st) (defScope st) .none kV dc pm an cd ct), sl⟩)
    (c : PySem.W.codeIn K cd qual = true) (k : PySem.W.keepIn K (.ref f) = true) (m : PySem.W.makesIn K C = true) (n : PySem.W.isFn K (.ref f) = true) (kc : PySem.W.keepIn K (.ref C) = true)
    (hb : ∀ (kV doc pm : Value) (an : Option Addr) (cdv ct : Value) (us : List Value), us.length = ps.length → bindArgs (PySem.W.fnOf "__init__" qual (defArgs st) (defBody st) (defScope st) .none kV doc pm an cdv ct) ⟨us, []⟩ = pure (ps.zip us)) : Di K mg x C st qual ps :=
  have F : FunS K "__init__" qual st [] f _ := ⟨⟨oc, od, .none, kV, dc, pm, an, cd, ct, sl, rfl, l, c, .inl ⟨rfl, rfl⟩, .inl rfl⟩, k⟩
  ⟨f, _, F, ⟨m, i, n, kc⟩, PySem.W.mg_of X G a, binds0 F hb⟩
theorem dd_mk {T : Addr} {to : Value} {td : Option Addr} {its : List Value} {n : Nat} {ts : Array (Option Value)} {dvs : List V} (m j : Nat) (X : K.In h) (G : h.Ns mainGlobals mg) (a : PySem.W.nsIn K mainGlobals x = some (some (.ref f)))
    (l : K.lookup f = some ⟨oc, od, .func (PySem.W.fnOf x x (defArgs st) (defBody st) (defScope st) (.ref T) kV dc pm an cd ct), sl⟩) (c : PySem.W.codeIn K cd x = true) (k : PySem.W.keepIn K (.ref f) = true) (lT : K.lookup T = some ⟨to, td, .seq its.toArray n, ts⟩) (r : Vals dvs its) (hd : dvs ≠ []) (hn : m + (dvs.length - j) = ps.length)
    (hb : ∀ (T : Addr) (kV doc pm : Value) (an : Option Addr) (cdv ct : Value) (us its : List Value), us.length = m → its.length = dvs.length →
      ∃ k, bindArgs (PySem.W.fnOf x x (defArgs st) (defBody st) (defScope st) (.ref T) kV doc pm an cdv ct) ⟨us, []⟩ = seqItems? (.ref T) >>= k ∧ k (some its.toArray) = pure (ps.zip (us ++ its.drop j))) : Dd K mg x st ps dvs (dvs.drop j) :=
  have F : FunS K x x st dvs f _ := ⟨⟨oc, od, .ref T, kV, dc, pm, an, cd, ct, sl, rfl, l, c, .inr ⟨hd, T, _, its, n, rfl, lT, rfl, r⟩, .inl rfl⟩, k⟩
  have ⟨us, r2, b⟩ := FunD.binds1 F m j hd hn hb
  ⟨f, _, us, F, ⟨PySem.W.mg_of X G a, k⟩, b, r2⟩
/-- calls by keywords of a def without defaults -/
theorem kbn0 {fd : FuncData} {ks : List Str} (gU : List Value → List Value → List Value) (gV : List V → List V → List V) (F : FunS K x qual st [] f fd) (hr : ∀ {vs : List V} {us : List Value} {zs : List V} {ws : List Value}, Vals vs us → Vals zs ws → Vals (gV vs zs) (gU us ws))
    (hb : ∀ (kV doc pm : Value) (an : Option Addr) (cdv ct : Value) (ws : List Value), ws.length = ks.length → bindArgs (PySem.W.fnOf x qual (defArgs st) (defBody st) (defScope st) .none kV doc pm an cdv ct) ⟨[], ks.zip ws⟩ = pure (ps.zip (gU [] ws))) : KBn K fd ps 0 ks gU gV := by
  obtain ⟨oc, od, dV, kV, doc, pm, an, cdv, ct, osl, rfl, lk, hcd, hD, hK⟩ := F.ex
  rcases hD with ⟨_, rfl⟩ | ⟨e, _⟩
  · refine ⟨fun s us ws _ hu hw => ?_, hr⟩
    rw [List.eq_nil_of_length_eq_zero hu]
    exact .of_eq (hb kV doc pm an cdv ct ws hw)
  · exact absurd rfl e
theorem vals_at : ∀ {zs : List V} {ws : List Value} (i : Nat), Vals zs ws → RelV (zs.getD i .non) (ws.getD i .none)
  | _, _, _, .nil => (rfl : RelV V.non Value.none)
  | _, _, 0, .cons r _ => r
  | _, _, i + 1, .cons _ t => vals_at i t
/-! the errors -/
open PySem.W PySem.Calls PySem.HandSPX in
theorem err_mk {nmx : Str} {fI : Addr} {nm q : Str} {N : Addr} {bs bm : List Value} {sn sub ab col} {cda cc : Addr} {vs : Array Value} {file : Str} {tf : Tok} {ccl cl : Value} {cdd cld : Option Addr} {ccs csl : Array (Option Value)} {dd k0 k1 k2 k3 k5}
    (X : K.In h) (G : h.Ns mainGlobals mg) (a : PySem.W.nsIn K mainGlobals nmx = some (some (.ref C))) (lC : K.lookup C = some (excClassObj nm q C N bs bm true sn sub ab col dd k0 k1 k2 k3 k5 "ValueError.__new__")) (hbm : PySem.HandSPX.refsVE bm = true)
    (sa : PySem.W.findIn K (.ref C) "__setattr__" = some (some (.builtin "object.__setattr__"))) (iC : PySem.W.findIn K (.ref C) "__init__" = some (some (.ref fI))) (tC : PySem.W.typeIn K (.ref fI) = some (.type "function")) (kC : PySem.W.keepIn K (.ref C) = true) (exC : PySem.W.subIn K (.ref C) (.type "BaseException") = some true)
    (tyC : PySem.W.typeIn K (.ref C) = some (.type "type")) (veC : PySem.W.subIn K (.ref C) (.type "ValueError") = some true) (sup : PySem.W.ks_superIn K C C "__init__" = some (some (.builtin "ValueError.__init__"))) (mro : PySem.W.mroIn K C (.ref C) = some true) (th : PySem.W.nsIn K cStatics "thirdparty.any" = some none) (nsup : PySem.W.nsIn K mainGlobals "super" = some none)
    (l : K.lookup fI = some ⟨oc, od, .func (ksFn "__init__" qual (defArgs st) (defBody st) (defScope st) .none .none dc pm an (.ref cda) ct cc), sl⟩) (ci : PySem.W.codeIn K (.ref cda) qual = true) (lcd : K.lookup cda = some ⟨ccl, cdd, .fields vs, ccs⟩) (hvs : vs[2]? = some (.str file tf)) (lcc : K.lookup cc = some ⟨cl, cld, .cell (some (.ref C)), csl⟩)
    (top : (P.main.scope.names.lookup ("super" : Str)).isSome = false) (hfile : ((P.main.file : Str) == file) = true) : ErrK P K mg nmx C fI st qual where
  gC := PySem.W.mg_of X G a
  cls := ⟨nm, q, N, bs, bm, sn, sub, ab, col, dd, k0, k1, k2, k3, k5, lC, hbm⟩
  sa := sa
  iC := iC
  tC := tC
  kC := kC
  exC := exC
  tyC := tyC
  veC := veC
  sup := sup
  mro := mro
  th := th
  nsup := nsup
  top := top
  fn := ⟨oc, od, dc, pm, an, cda, ct, cc, sl, ccl, cdd, vs, ccs, file, tf, cl, cld, csl, l, ci, lcd, hvs, hfile, lcc⟩
end
end My
/-! En: from what the top has left to the law's end. -/
namespace My
open PySem PySem.Spec PyProof.Rows L2 StX LamX
/-- all that the end needs -/
def Lw56 (P : Program) (w : World) (K : PySem.W.Frag) (mg : Str → Option Value) (fa : Addr) (h : Heap) : Prop :=
  ∃ c1 c2 P1 P2 : Addr, (∀ p, p = P1 ∨ p = P2 → h.get? p = some { cls := .none, data := .fields #[] }) ∧ (∀ p, p = P1 ∨ p = P2 → K.lookup p = none) ∧ PySem.W.CodeHd h c1 P1 ∧ PySem.W.CodeHd h c2 P2 ∧
    ∀ (base : Heap) (s : Shared) (H : Hp) (a : Addr) (ns : List Int), ns.length ≤ 63 → K.In base → base.Ns mainGlobals mg → TabB base mg c1 P1 → TabB base mg c2 P2 → Env0 P w K mg base callerA [] s H → H P1 = some (.tbl #[]) → H P2 = some (.tbl #[]) → SqL K H a (ns.map V.int) →
      codeAny (model P w) callerA (.call (.ref fa) ⟨[.ref a], []⟩) (CR (L2.CX P w) [] P w H s (fun v _ => v = .bl true) fun _ _ _ => False) s
theorem walk56 {l : PySem.W.OpenLaw} {q : Program} {loose : List Str} {XP : (Str → Option Value) → Heap → Prop} {YP : World → Heap → Prop} {d : DefRec} {K : Params → PySem.W.Frag} (hn : l.most = some 63) (hdf : d.params.defaults = []) (hY : ∀ (w : World) (h : Heap), YP w h → (K w.params).In h)
    (F : ∀ (w : World) (mg : Str → Option Value) (fa : Addr) (h : Heap), YP w h → (K w.params).In h → h.Ns mainGlobals mg → mg d.name = some (.ref fa) → Lw56 l.prog w (K w.params) mg fa h) :
    PySem.W.WalkO q loose XP YP l.row.toRowW d [] (fun f vs => PySem.call f vs) := by
  refine Att.attach_callB hn hdf fun w s₀ s₁ mg mb fa o pm cd doc a vs ns G Y ho hd hcd hmg hobj hints hlen hbits hg => ?_
  obtain ⟨c1, c2, P1, P2, hT, nT, C1, C2, hF⟩ := F w mg fa _ Y (hY w _ Y) G.T.g hmg
  refine law_run (CX := L2.CX l.prog w) (hY w _ Y) G.T.g G.T.b G.T.builtins G.T.nolimit hg hT nT C1 C2 G.T.bmain hobj hints (Nat.le_trans hlen (by decide)) (fun base H k1 k2 k3 k4 k5 k6 k7 k8 => hF base s₁ H a ns hlen k1 k2 k3 k4 k5 k6 k7 k8) fun H e s' z => ?_
  obtain ⟨_, _, _, _, _, _, _, _, _, _, _, _, z⟩ := z
  exact z
theorem tab0 {H : Hp} {P : Addr} {q : Str} (h : H P = some (.tbl #[])) : TabS H P q := ⟨#[], h, by first | trivial | exact .nil | simp [TriplesOk], fun pos cv hc => by cases hc⟩
section
variable {P : Program} {w : World} {K : PySem.W.Frag} {mg : Str → Option Value} {g : Gc} {c : Ec} {h : Heap} {fa fe c1 c2 P1 P2 : Addr}
theorem lw_mk (hne : P1 ≠ P2) (hT : ∀ p, p = P1 ∨ p = P2 → h.get? p = some { cls := .none, data := .fields #[] }) (nT : ∀ p, p = P1 ∨ p = P2 → K.lookup p = none) (C1 : PySem.W.CodeHd h c1 P1) (C2 : PySem.W.CodeHd h c2 P2) (T : Tx K mg g) (Y : Hd K mg c) (X4 : Ex4 P w K mg c) (EC : EqC K g.CW fe)
    (DE : ∃ fd, FunS K "__eq__" "Web.__eq__" (inClass (tp 36) 1) [] fe fd ∧ Binds K fd ["self", "other"] [])
    (D10 : Dn K mg "is_integer" (tp 10) ["value"]) (D11 : Dn K mg "is_within" (tp 11) ["value", "least", "most"]) (D12 : Dn K mg "is_list" (tp 12) ["value"]) (D13 : Dn K mg "are_unlike" (tp 13) ["value", "least", "most"])
    (D14 : Dd K mg "need_number" (tp 14) ["value", "part", "least", "most"] [.non, .non] []) (D24 : Dn K mg "is_team" (tp 24) ["value", "people"]) (D25 : Dn K mg "kept_team" (tp 25) ["value"]) (D26 : Dn K mg "kept_teams" (tp 26) ["people", "value", "part"])
    (DT : Di K mg "Teams" g.CT (inClass (tp 27) 0) "Teams.__init__" ["self", "people", "teams"]) (D29 : Dd K mg "need_teams" (tp 29) ["value", "part"] [.str "teams"] [.str "teams"]) (D30 : Dn K mg "apart_in" (tp 30) ["one", "other"]) (D31 : Dn K mg "apart_pairs" (tp 31) ["teams"])
    (D34 : Dn K mg "is_tie" (tp 34) ["value", "points"]) (D35 : Dn K mg "are_ties" (tp 35) ["value", "points"]) (DW : Di K mg "Web" g.CW (inClass (tp 36) 0) "Web.__init__" ["self", "points", "ties"]) (D37 : Dn K mg "need_web" (tp 37) ["value"]) (D38 : Dn K mg "need_few_people" (tp 38) ["many"])
    (D39 : Dn K mg "untied_pairs" (tp 39) ["web"]) (D40 : Dn K mg "web_teams" (tp 40) ["web"]) (D41 : Dn K mg "is_tied" (tp 41) ["web", "one", "other"]) (D42 : Dn K mg "are_tied" (tp 42) ["web", "one", "other"]) (D43 : Dn K mg "web_of" (tp 43) ["teams"]) (D44 : Dn K mg "people_in" (tp 44) ["web"])
    (D45 : Dn K mg "team_of" (tp 45) ["web", "point"]) (D46 : Dn K mg "teams_of" (tp 46) ["web"]) (D48 : Dn K mg "_law_bag" (tp 48) ["_law_script"]) (D49 : Dn K mg "_law_grab" (tp 49) ["_law_bag_here", "_law_many"]) (D50 : Dn K mg "_law_apart" (tp 50) ["_law_one", "_law_other"])
    (D51 : Dn K mg "_law_some_teams" (tp 51) ["_law_bag_here", "_law_people", "_law_most"]) (D52 : Dn K mg "_law_web" (tp 52) ["_law_bag_here", "_law_points"]) (D53 : Dn K mg "_law_web_teams" (tp 53) ["_law_points", "_law_ties"]) (D54 : Dn K mg "_law_heard" (tp 54) ["_law_ask"])
    (D55 : Dc K mg "_law_refused_right" (tp 55) c2 ["_law_bag_here", "_law_web_here", "_law_points"]) (D56 : Dc K mg "law" (tp 56) c1 ["_law_script"]) (hfa : mg "law" = some (.ref fa)) : Lw56 P w K mg fa h := by
  obtain ⟨fdE, FE, BE⟩ := DE
  obtain ⟨_, _, F10, N10, B10⟩ := D10
  obtain ⟨_, _, F11, N11, B11⟩ := D11
  obtain ⟨_, _, F12, N12, B12⟩ := D12
  obtain ⟨_, _, F13, N13, B13⟩ := D13
  obtain ⟨_, _, u14, F14, N14, B14, V14⟩ := D14
  obtain ⟨_, _, F24, N24, B24⟩ := D24
  obtain ⟨_, _, F25, N25, B25⟩ := D25
  obtain ⟨_, _, F26, N26, B26⟩ := D26
  obtain ⟨_, _, FT, MT, NT, BT⟩ := DT
  obtain ⟨_, _, u29, F29, N29, B29, V29⟩ := D29
  obtain ⟨_, _, F30, N30, B30⟩ := D30
  obtain ⟨_, _, F31, N31, B31⟩ := D31
  obtain ⟨_, _, F34, N34, B34⟩ := D34
  obtain ⟨_, _, F35, N35, B35⟩ := D35
  obtain ⟨_, _, FW, MW, NW, BW⟩ := DW
  obtain ⟨_, _, F37, N37, B37⟩ := D37
  obtain ⟨_, _, F38, N38, B38⟩ := D38
  obtain ⟨_, _, F39, N39, B39⟩ := D39
  obtain ⟨_, _, F40, N40, B40⟩ := D40
  obtain ⟨_, _, F41, N41, B41⟩ := D41
  obtain ⟨_, _, F42, N42, B42⟩ := D42
  obtain ⟨_, _, F43, N43, B43⟩ := D43
  obtain ⟨_, _, F44, N44, B44⟩ := D44
  obtain ⟨_, _, F45, N45, B45⟩ := D45
  obtain ⟨_, _, F46, N46, B46⟩ := D46
  obtain ⟨_, _, F48, N48, B48⟩ := D48
  obtain ⟨_, _, F49, N49, B49⟩ := D49
  obtain ⟨_, _, F50, N50, B50⟩ := D50
  obtain ⟨_, _, F51, N51, B51⟩ := D51
  obtain ⟨_, _, F52, N52, B52⟩ := D52
  obtain ⟨_, _, F53, N53, B53⟩ := D53
  obtain ⟨_, _, F54, N54, B54⟩ := D54
  obtain ⟨_, _, F55, N55, B55⟩ := D55
  obtain ⟨f56, fd56, F56, M56, B56⟩ := D56
  have ef : fa = f56 := by
    have z := hfa.symm.trans M56.mgx
    cases z
    rfl
  subst ef
  refine ⟨c1, c2, P1, P2, hT, nT, C1, C2, fun base s H a ns hl KX hg TB1 TB2 e0 t1 t2 hS => ?_⟩
  have p10 : Pn P w K mg base 1 "is_integer" [] (spR g 1 R10) := ⟨_, _, _, _, ok10 T F10, N10, B10, .nil⟩
  have p11 : Pn P w K mg base 2 "is_within" [] (spR g 3 R11) := ⟨_, _, _, _, ok11 T p10 F11, N11, B11, .nil⟩
  have p12 : Pn P w K mg base 1 "is_list" [] (spR g 1 R12) := ⟨_, _, _, _, ok12 T F12, N12, B12, .nil⟩
  have p13 : Pn P w K mg base 3 "are_unlike" [] (spR g 3 R13) := ⟨_, _, _, _, ok13 T p12 p11 F13, N13, B13, .nil⟩
  have p14 : Pn P w K mg base 3 "need_number" [] (spR g 4 R14) := ⟨_, _, _, _, ok14 T p11 F14, N14, B14, V14⟩
  have x14 : Pn P w K mg base 3 "need_number" [] (spX g 4 (RX14 c)) := ⟨_, _, _, _, okX14 T X4 p11 F14, N14, B14, V14⟩
  have p24 : Pn P w K mg base 4 "is_team" [] (spR g 2 R24) := ⟨_, _, _, _, ok24 T p13 F24, N24, B24, .nil⟩
  have p25 : Pn P w K mg base 1 "kept_team" [] (spR g 1 R25) := ⟨_, _, _, _, ok25 T F25, N25, B25, .nil⟩
  have p26 : Pn P w K mg base 5 "kept_teams" [] (spR g 3 R26) := ⟨_, _, _, _, ok26 T p12 p24 p25 F26, N26, B26, .nil⟩
  have cT : Pmk P w K mg base 6 "Teams" g.CT (spI g g.CT 2 RT) := ⟨_, _, _, okT T p14 p26 FT, MT, NT, BT⟩
  have p29 : Pn P w K mg base 1 "need_teams" [.str "teams"] (spR g 2 R29) := ⟨_, _, _, _, ok29 T F29, N29, B29, V29⟩
  have x29 : Pn P w K mg base 2 "need_teams" [.str "teams"] (spX g 2 (RX29 c)) := ⟨_, _, _, _, okX29 T X4 F29, N29, B29, V29⟩
  have p30 : Pn P w K mg base 1 "apart_in" [] (spR g 2 R30) := ⟨_, _, _, _, ok30 T F30, N30, B30, .nil⟩
  have p31 : Pn P w K mg base 2 "apart_pairs" [] (spR g 1 R31) := ⟨_, _, _, _, ok31 T p29 p30 F31, N31, B31, .nil⟩
  have p34 : Pn P w K mg base 3 "is_tie" [] (spR g 2 R34) := ⟨_, _, _, _, ok34 T p12 p11 F34, N34, B34, .nil⟩
  have p35 : Pn P w K mg base 4 "are_ties" [] (spR g 2 R35) := ⟨_, _, _, _, ok35 T p12 p34 F35, N35, B35, .nil⟩
  have cW : Pmk P w K mg base 5 "Web" g.CW (spI g g.CW 2 RW_) := ⟨_, _, _, okW T p14 p35 FW, MW, NW, BW⟩
  have p37 : Pn P w K mg base 1 "need_web" [] (spR g 1 R37) := ⟨_, _, _, _, ok37 T F37, N37, B37, .nil⟩
  have x37 : Pn P w K mg base 2 "need_web" [] (spX g 1 (RX37 c)) := ⟨_, _, _, _, okX37 T X4 F37, N37, B37, .nil⟩
  have p38 : Pn P w K mg base 1 "need_few_people" [] (spR g 1 R38) := ⟨_, _, _, _, ok38 T F38, N38, B38, .nil⟩
  have x38 : Pn P w K mg base 2 "need_few_people" [] (spX g 1 (RX38 c)) := ⟨_, _, _, _, okX38 T X4 F38, N38, B38, .nil⟩
  have p39 : Pn P w K mg base 1 "untied_pairs" [] (spR g 1 R39) := ⟨_, _, _, _, ok39 T F39, N39, B39, .nil⟩
  have p40 : Pn P w K mg base 2 "web_teams" [] (spR g 1 R40) := ⟨_, _, _, _, ok40 T p39 F40, N40, B40, .nil⟩
  have p41 : Pn P w K mg base 1 "is_tied" [] (spR g 3 R41) := ⟨_, _, _, _, ok41 T F41, N41, B41, .nil⟩
  have p42 : Pn P w K mg base 4 "are_tied" [] (spR g 3 R42) := ⟨_, _, _, _, ok42 T p37 p14 p41 F42, N42, B42, .nil⟩
  have p43 : Pn P w K mg base 7 "web_of" [] (spR g 1 R43) := ⟨_, _, _, _, ok43 T p29 p31 cW F43, N43, B43, .nil⟩
  have x43 : Pn P w K mg base 3 "web_of" [] (spX g 1 (RX43 c)) := ⟨_, _, _, _, okX43 T X4 p29 x29 F43, N43, B43, .nil⟩
  have k43 : PnK P w K mg base 7 "web_of" ["teams"] (fun _ zs => zs) (spR g 1 R43) := ⟨_, _, _, fun _ ws => ws, ok43 T p29 p31 cW F43, N43, kbn0 _ _ F43 (fun _ r => r) fun _ _ _ _ _ _ ws hw => match ws, hw with | [_], _ => rfl⟩
  have p44 : Pn P w K mg base 3 "people_in" [] (spR g 1 R44) := ⟨_, _, _, _, ok44 T p37 p40 F44, N44, B44, .nil⟩
  have x44 : Pn P w K mg base 3 "people_in" [] (spX g 1 (RX44 c)) := ⟨_, _, _, _, okX44 x37 F44, N44, B44, .nil⟩
  have p45 : Pn P w K mg base 4 "team_of" [] (spR g 2 R45) := ⟨_, _, _, _, ok45 T p37 p14 p40 F45, N45, B45, .nil⟩
  have x45 : Pn P w K mg base 4 "team_of" [] (spX g 2 (RX45 c)) := ⟨_, _, _, _, okX45 T p37 x37 x14 F45, N45, B45, .nil⟩
  have k45 : PnK P w K mg base 4 "team_of" ["point", "web"] (fun _ zs => [zs.getD 1 .non, zs.getD 0 .non]) (spR g 2 R45) := ⟨_, _, _, fun _ ws => [ws.getD 1 .none, ws.getD 0 .none], ok45 T p37 p14 p40 F45, N45, kbn0 _ _ F45 (fun _ r => .cons (vals_at 1 r) (.cons (vals_at 0 r) .nil)) fun _ _ _ _ _ _ ws hw => match ws, hw with | [_, _], _ => rfl⟩
  have p46 : Pn P w K mg base 8 "teams_of" [] (spR g 1 R46) := ⟨_, _, _, _, ok46 T p37 p38 p40 cT F46, N46, B46, .nil⟩
  have x46 : Pn P w K mg base 3 "teams_of" [] (spX g 1 (RX46 c)) := ⟨_, _, _, _, okX46 p37 p40 x37 x38 F46, N46, B46, .nil⟩
  have k46 : PnK P w K mg base 8 "teams_of" ["web"] (fun _ zs => zs) (spR g 1 R46) := ⟨_, _, _, fun _ ws => ws, ok46 T p37 p38 p40 cT F46, N46, kbn0 _ _ F46 (fun _ r => r) fun _ _ _ _ _ _ ws hw => match ws, hw with | [_], _ => rfl⟩
  have p48 : Pn P w K mg base 1 "_law_bag" [] (spBag K) := ⟨_, _, _, _, ok48 T F48, N48, B48, .nil⟩
  have p49 : Pn P w K mg base 1 "_law_grab" [] (spB g 1 1 R49) := ⟨_, _, _, _, ok49 T F49, N49, B49, .nil⟩
  have p50 : Pn P w K mg base 1 "_law_apart" [] (spR g 2 R30) := ⟨_, _, _, _, ok50 T F50, N50, B50, .nil⟩
  have p51 : Pn P w K mg base 2 "_law_some_teams" [] (spB g 2 82 R51) := ⟨_, _, _, _, ok51 T p49 F51, N51, B51, .nil⟩
  have p52 : Pn P w K mg base 2 "_law_web" [] (spB g 1 37 R52) := ⟨_, _, _, _, ok52 T p49 F52, N52, B52, .nil⟩
  have p53 : Pn P w K mg base 1 "_law_web_teams" [] (spR g 2 R53) := ⟨_, _, _, _, ok53 T F53, N53, B53, .nil⟩
  have ear : Ear K mg _ _ := ⟨F54, N54.mgx, B54⟩
  have C55 : Calls55 P w K mg base g c := ⟨p49, x44, x45, x46, x43, p43, cW, cT⟩
  have p55 : Pn P w K mg base 10 "_law_refused_right" [] (spRf g P2 qR) := ⟨_, _, _, _, ok55 T Y ear C55 TB2 F55, N55, B55, .nil⟩
  have C56 : Calls56 P w K mg base g c P2 fe := ⟨p48, p49, p52, p51, p53, p50, p44, p45, k45, p42, k46, x46, p43, k43, cW, cT, ⟨fdE, _, okE T FE, BE⟩, EC, p55⟩
  obtain ⟨oc, od, kV, doc, pm, an, ct, osl, rfl, lk, hcd⟩ := F56.ex
  refine fn_at (N := N56) (vs := [.ref a]) (k := 11) lk hcd sc56 rfl ⟨rfl, by decide, by decide⟩ e0 (B56 s [.ref a] (e0.mod.kin.keeps fun b o e => (e0.bs b o e).1) rfl) (.cons rfl .nil) fun hr => ?_
  refine ⟨_, lawB (sc := a) (ns := ns) T Y ear C56 TB1 hne hr rfl hl, ⟨⟨hS, tab0 t1, tab0 t2⟩, ?_⟩, fun _ _ z => z.elim, fun v H' z => z⟩
  exact start_sl (N := N56) (vs := [.ref a]) (as := [.raw (.ref a)]) (.cons (rfl : V.ref a = V.ref a) .nil)
end
end My
/-! Eg: the top's defs one by one (printed by endgen.py). -/
namespace My
open PySem PySem.Spec PyProof.Rows L2 StX LamX
section
variable {P : Program} {w : World} {K : PySem.W.Frag} {mg : Str → Option Value} {h : Heap}
theorem d10 {oc kV dc pm cd ct : Value} {od an : Option Addr} {sl : Array (Option Value)} {f : Addr} (X : K.In h) (G : h.Ns mainGlobals mg) (a : PySem.W.nsIn K mainGlobals "is_integer" = some (some (.ref f))) (l : K.lookup f = some ⟨oc, od, .func (PySem.W.fnOf "is_integer" "is_integer" (defArgs (tp 10)) (defBody (tp 10)) (defScope (tp 10)) .none kV dc pm an cd ct), sl⟩) (c : PySem.W.codeIn K cd "is_integer" = true) (k : PySem.W.keepIn K (.ref f) = true) : Dn K mg "is_integer" (tp 10) ["value"] := dn_mk X G a l c k fun _ _ _ _ _ _ us hl => match us, hl with | [_], _ => rfl
theorem d11 {oc kV dc pm cd ct : Value} {od an : Option Addr} {sl : Array (Option Value)} {f : Addr} (X : K.In h) (G : h.Ns mainGlobals mg) (a : PySem.W.nsIn K mainGlobals "is_within" = some (some (.ref f))) (l : K.lookup f = some ⟨oc, od, .func (PySem.W.fnOf "is_within" "is_within" (defArgs (tp 11)) (defBody (tp 11)) (defScope (tp 11)) .none kV dc pm an cd ct), sl⟩) (c : PySem.W.codeIn K cd "is_within" = true) (k : PySem.W.keepIn K (.ref f) = true) : Dn K mg "is_within" (tp 11) ["value", "least", "most"] := dn_mk X G a l c k fun _ _ _ _ _ _ us hl => match us, hl with | [_, _, _], _ => rfl
theorem d12 {oc kV dc pm cd ct : Value} {od an : Option Addr} {sl : Array (Option Value)} {f : Addr} (X : K.In h) (G : h.Ns mainGlobals mg) (a : PySem.W.nsIn K mainGlobals "is_list" = some (some (.ref f))) (l : K.lookup f = some ⟨oc, od, .func (PySem.W.fnOf "is_list" "is_list" (defArgs (tp 12)) (defBody (tp 12)) (defScope (tp 12)) .none kV dc pm an cd ct), sl⟩) (c : PySem.W.codeIn K cd "is_list" = true) (k : PySem.W.keepIn K (.ref f) = true) : Dn K mg "is_list" (tp 12) ["value"] := dn_mk X G a l c k fun _ _ _ _ _ _ us hl => match us, hl with | [_], _ => rfl
theorem d13 {oc kV dc pm cd ct : Value} {od an : Option Addr} {sl : Array (Option Value)} {f : Addr} (X : K.In h) (G : h.Ns mainGlobals mg) (a : PySem.W.nsIn K mainGlobals "are_unlike" = some (some (.ref f))) (l : K.lookup f = some ⟨oc, od, .func (PySem.W.fnOf "are_unlike" "are_unlike" (defArgs (tp 13)) (defBody (tp 13)) (defScope (tp 13)) .none kV dc pm an cd ct), sl⟩) (c : PySem.W.codeIn K cd "are_unlike" = true) (k : PySem.W.keepIn K (.ref f) = true) : Dn K mg "are_unlike" (tp 13) ["value", "least", "most"] := dn_mk X G a l c k fun _ _ _ _ _ _ us hl => match us, hl with | [_, _, _], _ => rfl
theorem d24 {oc kV dc pm cd ct : Value} {od an : Option Addr} {sl : Array (Option Value)} {f : Addr} (X : K.In h) (G : h.Ns mainGlobals mg) (a : PySem.W.nsIn K mainGlobals "is_team" = some (some (.ref f))) (l : K.lookup f = some ⟨oc, od, .func (PySem.W.fnOf "is_team" "is_team" (defArgs (tp 24)) (defBody (tp 24)) (defScope (tp 24)) .none kV dc pm an cd ct), sl⟩) (c : PySem.W.codeIn K cd "is_team" = true) (k : PySem.W.keepIn K (.ref f) = true) : Dn K mg "is_team" (tp 24) ["value", "people"] := dn_mk X G a l c k fun _ _ _ _ _ _ us hl => match us, hl with | [_, _], _ => rfl
theorem d25 {oc kV dc pm cd ct : Value} {od an : Option Addr} {sl : Array (Option Value)} {f : Addr} (X : K.In h) (G : h.Ns mainGlobals mg) (a : PySem.W.nsIn K mainGlobals "kept_team" = some (some (.ref f))) (l : K.lookup f = some ⟨oc, od, .func (PySem.W.fnOf "kept_team" "kept_team" (defArgs (tp 25)) (defBody (tp 25)) (defScope (tp 25)) .none kV dc pm an cd ct), sl⟩) (c : PySem.W.codeIn K cd "kept_team" = true) (k : PySem.W.keepIn K (.ref f) = true) : Dn K mg "kept_team" (tp 25) ["value"] := dn_mk X G a l c k fun _ _ _ _ _ _ us hl => match us, hl with | [_], _ => rfl
theorem d26 {oc kV dc pm cd ct : Value} {od an : Option Addr} {sl : Array (Option Value)} {f : Addr} (X : K.In h) (G : h.Ns mainGlobals mg) (a : PySem.W.nsIn K mainGlobals "kept_teams" = some (some (.ref f))) (l : K.lookup f = some ⟨oc, od, .func (PySem.W.fnOf "kept_teams" "kept_teams" (defArgs (tp 26)) (defBody (tp 26)) (defScope (tp 26)) .none kV dc pm an cd ct), sl⟩) (c : PySem.W.codeIn K cd "kept_teams" = true) (k : PySem.W.keepIn K (.ref f) = true) : Dn K mg "kept_teams" (tp 26) ["people", "value", "part"] := dn_mk X G a l c k fun _ _ _ _ _ _ us hl => match us, hl with | [_, _, _], _ => rfl
theorem d30 {oc kV dc pm cd ct : Value} {od an : Option Addr} {sl : Array (Option Value)} {f : Addr} (X : K.In h) (G : h.Ns mainGlobals mg) (a : PySem.W.nsIn K mainGlobals "apart_in" = some (some (.ref f))) (l : K.lookup f = some ⟨oc, od, .func (PySem.W.fnOf "apart_in" "apart_in" (defArgs (tp 30)) (defBody (tp 30)) (defScope (tp 30)) .none kV dc pm an cd ct), sl⟩) (c : PySem.W.codeIn K cd "apart_in" = true) (k : PySem.W.keepIn K (.ref f) = true) : Dn K mg "apart_in" (tp 30) ["one", "other"] := dn_mk X G a l c k fun _ _ _ _ _ _ us hl => match us, hl with | [_, _], _ => rfl
theorem d31 {oc kV dc pm cd ct : Value} {od an : Option Addr} {sl : Array (Option Value)} {f : Addr} (X : K.In h) (G : h.Ns mainGlobals mg) (a : PySem.W.nsIn K mainGlobals "apart_pairs" = some (some (.ref f))) (l : K.lookup f = some ⟨oc, od, .func (PySem.W.fnOf "apart_pairs" "apart_pairs" (defArgs (tp 31)) (defBody (tp 31)) (defScope (tp 31)) .none kV dc pm an cd ct), sl⟩) (c : PySem.W.codeIn K cd "apart_pairs" = true) (k : PySem.W.keepIn K (.ref f) = true) : Dn K mg "apart_pairs" (tp 31) ["teams"] := dn_mk X G a l c k fun _ _ _ _ _ _ us hl => match us, hl with | [_], _ => rfl
theorem d34 {oc kV dc pm cd ct : Value} {od an : Option Addr} {sl : Array (Option Value)} {f : Addr} (X : K.In h) (G : h.Ns mainGlobals mg) (a : PySem.W.nsIn K mainGlobals "is_tie" = some (some (.ref f))) (l : K.lookup f = some ⟨oc, od, .func (PySem.W.fnOf "is_tie" "is_tie" (defArgs (tp 34)) (defBody (tp 34)) (defScope (tp 34)) .none kV dc pm an cd ct), sl⟩) (c : PySem.W.codeIn K cd "is_tie" = true) (k : PySem.W.keepIn K (.ref f) = true) : Dn K mg "is_tie" (tp 34) ["value", "points"] := dn_mk X G a l c k fun _ _ _ _ _ _ us hl => match us, hl with | [_, _], _ => rfl
theorem d35 {oc kV dc pm cd ct : Value} {od an : Option Addr} {sl : Array (Option Value)} {f : Addr} (X : K.In h) (G : h.Ns mainGlobals mg) (a : PySem.W.nsIn K mainGlobals "are_ties" = some (some (.ref f))) (l : K.lookup f = some ⟨oc, od, .func (PySem.W.fnOf "are_ties" "are_ties" (defArgs (tp 35)) (defBody (tp 35)) (defScope (tp 35)) .none kV dc pm an cd ct), sl⟩) (c : PySem.W.codeIn K cd "are_ties" = true) (k : PySem.W.keepIn K (.ref f) = true) : Dn K mg "are_ties" (tp 35) ["value", "points"] := dn_mk X G a l c k fun _ _ _ _ _ _ us hl => match us, hl with | [_, _], _ => rfl
theorem d37 {oc kV dc pm cd ct : Value} {od an : Option Addr} {sl : Array (Option Value)} {f : Addr} (X : K.In h) (G : h.Ns mainGlobals mg) (a : PySem.W.nsIn K mainGlobals "need_web" = some (some (.ref f))) (l : K.lookup f = some ⟨oc, od, .func (PySem.W.fnOf "need_web" "need_web" (defArgs (tp 37)) (defBody (tp 37)) (defScope (tp 37)) .none kV dc pm an cd ct), sl⟩) (c : PySem.W.codeIn K cd "need_web" = true) (k : PySem.W.keepIn K (.ref f) = true) : Dn K mg "need_web" (tp 37) ["value"] := dn_mk X G a l c k fun _ _ _ _ _ _ us hl => match us, hl with | [_], _ => rfl
theorem d38 {oc kV dc pm cd ct : Value} {od an : Option Addr} {sl : Array (Option Value)} {f : Addr} (X : K.In h) (G : h.Ns mainGlobals mg) (a : PySem.W.nsIn K mainGlobals "need_few_people" = some (some (.ref f))) (l : K.lookup f = some ⟨oc, od, .func (PySem.W.fnOf "need_few_people" "need_few_people" (defArgs (tp 38)) (defBody (tp 38)) (defScope (tp 38)) .none kV dc pm an cd ct), sl⟩) (c : PySem.W.codeIn K cd "need_few_people" = true) (k : PySem.W.keepIn K (.ref f) = true) : Dn K mg "need_few_people" (tp 38) ["many"] := dn_mk X G a l c k fun _ _ _ _ _ _ us hl => match us, hl with | [_], _ => rfl
theorem d39 {oc kV dc pm cd ct : Value} {od an : Option Addr} {sl : Array (Option Value)} {f : Addr} (X : K.In h) (G : h.Ns mainGlobals mg) (a : PySem.W.nsIn K mainGlobals "untied_pairs" = some (some (.ref f))) (l : K.lookup f = some ⟨oc, od, .func (PySem.W.fnOf "untied_pairs" "untied_pairs" (defArgs (tp 39)) (defBody (tp 39)) (defScope (tp 39)) .none kV dc pm an cd ct), sl⟩) (c : PySem.W.codeIn K cd "untied_pairs" = true) (k : PySem.W.keepIn K (.ref f) = true) : Dn K mg "untied_pairs" (tp 39) ["web"] := dn_mk X G a l c k fun _ _ _ _ _ _ us hl => match us, hl with | [_], _ => rfl
theorem d40 {oc kV dc pm cd ct : Value} {od an : Option Addr} {sl : Array (Option Value)} {f : Addr} (X : K.In h) (G : h.Ns mainGlobals mg) (a : PySem.W.nsIn K mainGlobals "web_teams" = some (some (.ref f))) (l : K.lookup f = some ⟨oc, od, .func (PySem.W.fnOf "web_teams" "web_teams" (defArgs (tp 40)) (defBody (tp 40)) (defScope (tp 40)) .none kV dc pm an cd ct), sl⟩) (c : PySem.W.codeIn K cd "web_teams" = true) (k : PySem.W.keepIn K (.ref f) = true) : Dn K mg "web_teams" (tp 40) ["web"] := dn_mk X G a l c k fun _ _ _ _ _ _ us hl => match us, hl with | [_], _ => rfl
theorem d41 {oc kV dc pm cd ct : Value} {od an : Option Addr} {sl : Array (Option Value)} {f : Addr} (X : K.In h) (G : h.Ns mainGlobals mg) (a : PySem.W.nsIn K mainGlobals "is_tied" = some (some (.ref f))) (l : K.lookup f = some ⟨oc, od, .func (PySem.W.fnOf "is_tied" "is_tied" (defArgs (tp 41)) (defBody (tp 41)) (defScope (tp 41)) .none kV dc pm an cd ct), sl⟩) (c : PySem.W.codeIn K cd "is_tied" = true) (k : PySem.W.keepIn K (.ref f) = true) : Dn K mg "is_tied" (tp 41) ["web", "one", "other"] := dn_mk X G a l c k fun _ _ _ _ _ _ us hl => match us, hl with | [_, _, _], _ => rfl
theorem d42 {oc kV dc pm cd ct : Value} {od an : Option Addr} {sl : Array (Option Value)} {f : Addr} (X : K.In h) (G : h.Ns mainGlobals mg) (a : PySem.W.nsIn K mainGlobals "are_tied" = some (some (.ref f))) (l : K.lookup f = some ⟨oc, od, .func (PySem.W.fnOf "are_tied" "are_tied" (defArgs (tp 42)) (defBody (tp 42)) (defScope (tp 42)) .none kV dc pm an cd ct), sl⟩) (c : PySem.W.codeIn K cd "are_tied" = true) (k : PySem.W.keepIn K (.ref f) = true) : Dn K mg "are_tied" (tp 42) ["web", "one", "other"] := dn_mk X G a l c k fun _ _ _ _ _ _ us hl => match us, hl with | [_, _, _], _ => rfl
theorem d43 {oc kV dc pm cd ct : Value} {od an : Option Addr} {sl : Array (Option Value)} {f : Addr} (X : K.In h) (G : h.Ns mainGlobals mg) (a : PySem.W.nsIn K mainGlobals "web_of" = some (some (.ref f))) (l : K.lookup f = some ⟨oc, od, .func (PySem.W.fnOf "web_of" "web_of" (defArgs (tp 43)) (defBody (tp 43)) (defScope (tp 43)) .none kV dc pm an cd ct), sl⟩) (c : PySem.W.codeIn K cd "web_of" = true) (k : PySem.W.keepIn K (.ref f) = true) : Dn K mg "web_of" (tp 43) ["teams"] := dn_mk X G a l c k fun _ _ _ _ _ _ us hl => match us, hl with | [_], _ => rfl
theorem d44 {oc kV dc pm cd ct : Value} {od an : Option Addr} {sl : Array (Option Value)} {f : Addr} (X : K.In h) (G : h.Ns mainGlobals mg) (a : PySem.W.nsIn K mainGlobals "people_in" = some (some (.ref f))) (l : K.lookup f = some ⟨oc, od, .func (PySem.W.fnOf "people_in" "people_in" (defArgs (tp 44)) (defBody (tp 44)) (defScope (tp 44)) .none kV dc pm an cd ct), sl⟩) (c : PySem.W.codeIn K cd "people_in" = true) (k : PySem.W.keepIn K (.ref f) = true) : Dn K mg "people_in" (tp 44) ["web"] := dn_mk X G a l c k fun _ _ _ _ _ _ us hl => match us, hl with | [_], _ => rfl
theorem d45 {oc kV dc pm cd ct : Value} {od an : Option Addr} {sl : Array (Option Value)} {f : Addr} (X : K.In h) (G : h.Ns mainGlobals mg) (a : PySem.W.nsIn K mainGlobals "team_of" = some (some (.ref f))) (l : K.lookup f = some ⟨oc, od, .func (PySem.W.fnOf "team_of" "team_of" (defArgs (tp 45)) (defBody (tp 45)) (defScope (tp 45)) .none kV dc pm an cd ct), sl⟩) (c : PySem.W.codeIn K cd "team_of" = true) (k : PySem.W.keepIn K (.ref f) = true) : Dn K mg "team_of" (tp 45) ["web", "point"] := dn_mk X G a l c k fun _ _ _ _ _ _ us hl => match us, hl with | [_, _], _ => rfl
theorem d46 {oc kV dc pm cd ct : Value} {od an : Option Addr} {sl : Array (Option Value)} {f : Addr} (X : K.In h) (G : h.Ns mainGlobals mg) (a : PySem.W.nsIn K mainGlobals "teams_of" = some (some (.ref f))) (l : K.lookup f = some ⟨oc, od, .func (PySem.W.fnOf "teams_of" "teams_of" (defArgs (tp 46)) (defBody (tp 46)) (defScope (tp 46)) .none kV dc pm an cd ct), sl⟩) (c : PySem.W.codeIn K cd "teams_of" = true) (k : PySem.W.keepIn K (.ref f) = true) : Dn K mg "teams_of" (tp 46) ["web"] := dn_mk X G a l c k fun _ _ _ _ _ _ us hl => match us, hl with | [_], _ => rfl
theorem d48 {oc kV dc pm cd ct : Value} {od an : Option Addr} {sl : Array (Option Value)} {f : Addr} (X : K.In h) (G : h.Ns mainGlobals mg) (a : PySem.W.nsIn K mainGlobals "_law_bag" = some (some (.ref f))) (l : K.lookup f = some ⟨oc, od, .func (PySem.W.fnOf "_law_bag" "_law_bag" (defArgs (tp 48)) (defBody (tp 48)) (defScope (tp 48)) .none kV dc pm an cd ct), sl⟩) (c : PySem.W.codeIn K cd "_law_bag" = true) (k : PySem.W.keepIn K (.ref f) = true) : Dn K mg "_law_bag" (tp 48) ["_law_script"] := dn_mk X G a l c k fun _ _ _ _ _ _ us hl => match us, hl with | [_], _ => rfl
theorem d49 {oc kV dc pm cd ct : Value} {od an : Option Addr} {sl : Array (Option Value)} {f : Addr} (X : K.In h) (G : h.Ns mainGlobals mg) (a : PySem.W.nsIn K mainGlobals "_law_grab" = some (some (.ref f))) (l : K.lookup f = some ⟨oc, od, .func (PySem.W.fnOf "_law_grab" "_law_grab" (defArgs (tp 49)) (defBody (tp 49)) (defScope (tp 49)) .none kV dc pm an cd ct), sl⟩) (c : PySem.W.codeIn K cd "_law_grab" = true) (k : PySem.W.keepIn K (.ref f) = true) : Dn K mg "_law_grab" (tp 49) ["_law_bag_here", "_law_many"] := dn_mk X G a l c k fun _ _ _ _ _ _ us hl => match us, hl with | [_, _], _ => rfl
theorem d50 {oc kV dc pm cd ct : Value} {od an : Option Addr} {sl : Array (Option Value)} {f : Addr} (X : K.In h) (G : h.Ns mainGlobals mg) (a : PySem.W.nsIn K mainGlobals "_law_apart" = some (some (.ref f))) (l : K.lookup f = some ⟨oc, od, .func (PySem.W.fnOf "_law_apart" "_law_apart" (defArgs (tp 50)) (defBody (tp 50)) (defScope (tp 50)) .none kV dc pm an cd ct), sl⟩) (c : PySem.W.codeIn K cd "_law_apart" = true) (k : PySem.W.keepIn K (.ref f) = true) : Dn K mg "_law_apart" (tp 50) ["_law_one", "_law_other"] := dn_mk X G a l c k fun _ _ _ _ _ _ us hl => match us, hl with | [_, _], _ => rfl
theorem d51 {oc kV dc pm cd ct : Value} {od an : Option Addr} {sl : Array (Option Value)} {f : Addr} (X : K.In h) (G : h.Ns mainGlobals mg) (a : PySem.W.nsIn K mainGlobals "_law_some_teams" = some (some (.ref f))) (l : K.lookup f = some ⟨oc, od, .func (PySem.W.fnOf "_law_some_teams" "_law_some_teams" (defArgs (tp 51)) (defBody (tp 51)) (defScope (tp 51)) .none kV dc pm an cd ct), sl⟩) (c : PySem.W.codeIn K cd "_law_some_teams" = true) (k : PySem.W.keepIn K (.ref f) = true) : Dn K mg "_law_some_teams" (tp 51) ["_law_bag_here", "_law_people", "_law_most"] := dn_mk X G a l c k fun _ _ _ _ _ _ us hl => match us, hl with | [_, _, _], _ => rfl
theorem d52 {oc kV dc pm cd ct : Value} {od an : Option Addr} {sl : Array (Option Value)} {f : Addr} (X : K.In h) (G : h.Ns mainGlobals mg) (a : PySem.W.nsIn K mainGlobals "_law_web" = some (some (.ref f))) (l : K.lookup f = some ⟨oc, od, .func (PySem.W.fnOf "_law_web" "_law_web" (defArgs (tp 52)) (defBody (tp 52)) (defScope (tp 52)) .none kV dc pm an cd ct), sl⟩) (c : PySem.W.codeIn K cd "_law_web" = true) (k : PySem.W.keepIn K (.ref f) = true) : Dn K mg "_law_web" (tp 52) ["_law_bag_here", "_law_points"] := dn_mk X G a l c k fun _ _ _ _ _ _ us hl => match us, hl with | [_, _], _ => rfl
theorem d53 {oc kV dc pm cd ct : Value} {od an : Option Addr} {sl : Array (Option Value)} {f : Addr} (X : K.In h) (G : h.Ns mainGlobals mg) (a : PySem.W.nsIn K mainGlobals "_law_web_teams" = some (some (.ref f))) (l : K.lookup f = some ⟨oc, od, .func (PySem.W.fnOf "_law_web_teams" "_law_web_teams" (defArgs (tp 53)) (defBody (tp 53)) (defScope (tp 53)) .none kV dc pm an cd ct), sl⟩) (c : PySem.W.codeIn K cd "_law_web_teams" = true) (k : PySem.W.keepIn K (.ref f) = true) : Dn K mg "_law_web_teams" (tp 53) ["_law_points", "_law_ties"] := dn_mk X G a l c k fun _ _ _ _ _ _ us hl => match us, hl with | [_, _], _ => rfl
theorem d54 {oc kV dc pm cd ct : Value} {od an : Option Addr} {sl : Array (Option Value)} {f : Addr} (X : K.In h) (G : h.Ns mainGlobals mg) (a : PySem.W.nsIn K mainGlobals "_law_heard" = some (some (.ref f))) (l : K.lookup f = some ⟨oc, od, .func (PySem.W.fnOf "_law_heard" "_law_heard" (defArgs (tp 54)) (defBody (tp 54)) (defScope (tp 54)) .none kV dc pm an cd ct), sl⟩) (c : PySem.W.codeIn K cd "_law_heard" = true) (k : PySem.W.keepIn K (.ref f) = true) : Dn K mg "_law_heard" (tp 54) ["_law_ask"] := dn_mk X G a l c k fun _ _ _ _ _ _ us hl => match us, hl with | [_], _ => rfl
theorem d56 {oc kV dc pm ct : Value} {od an : Option Addr} {sl : Array (Option Value)} {f : Addr} {c1 : Addr} (X : K.In h) (G : h.Ns mainGlobals mg) (a : PySem.W.nsIn K mainGlobals "law" = some (some (.ref f))) (l : K.lookup f = some ⟨oc, od, .func (PySem.W.fnOf "law" "law" (defArgs (tp 56)) (defBody (tp 56)) (defScope (tp 56)) .none kV dc pm an (.ref c1) ct), sl⟩) (c : PySem.W.codeIn K (.ref c1) "law" = true) (k : PySem.W.keepIn K (.ref f) = true) : Dc K mg "law" (tp 56) c1 ["_law_script"] := dc_mk X G a l c k fun _ _ _ _ _ _ us hl => match us, hl with | [_], _ => rfl
theorem d55 {oc kV dc pm ct : Value} {od an : Option Addr} {sl : Array (Option Value)} {f : Addr} {c1 : Addr} (X : K.In h) (G : h.Ns mainGlobals mg) (a : PySem.W.nsIn K mainGlobals "_law_refused_right" = some (some (.ref f))) (l : K.lookup f = some ⟨oc, od, .func (PySem.W.fnOf "_law_refused_right" "_law_refused_right" (defArgs (tp 55)) (defBody (tp 55)) (defScope (tp 55)) .none kV dc pm an (.ref c1) ct), sl⟩) (c : PySem.W.codeIn K (.ref c1) "_law_refused_right" = true) (k : PySem.W.keepIn K (.ref f) = true) : Dc K mg "_law_refused_right" (tp 55) c1 ["_law_bag_here", "_law_web_here", "_law_points"] := dc_mk X G a l c k fun _ _ _ _ _ _ us hl => match us, hl with | [_, _, _], _ => rfl
theorem di27 {oc kV dc pm cd ct : Value} {od an : Option Addr} {sl : Array (Option Value)} {f : Addr} {C : Addr} (X : K.In h) (G : h.Ns mainGlobals mg) (a : PySem.W.nsIn K mainGlobals "Teams" = some (some (.ref C))) (i : PySem.W.findIn K (.ref C) "__init__" = some (some (.ref f))) (l : K.lookup f = some ⟨oc, od, .func (PySem.W.fnOf "__init__" "Teams.__init__" (defArgs (inClass (tp 27) 0)) (defBody (inClass (tp 27) 0)) (defScope (inClass (tp 27) 0)) .none kV dc pm an cd ct), sl⟩) (c : PySem.W.codeIn K cd "Teams.__init__" = true) (k : PySem.W.keepIn K (.ref f) = true) (m : PySem.W.makesIn K C = true) (n : PySem.W.isFn K (.ref f) = true) (kc : PySem.W.keepIn K (.ref C) = true) : Di K mg "Teams" C (inClass (tp 27) 0) "Teams.__init__" ["self", "people", "teams"] := di_mk X G a i l c k m n kc fun _ _ _ _ _ _ us hl => match us, hl with | [_, _, _], _ => rfl
theorem di36 {oc kV dc pm cd ct : Value} {od an : Option Addr} {sl : Array (Option Value)} {f : Addr} {C : Addr} (X : K.In h) (G : h.Ns mainGlobals mg) (a : PySem.W.nsIn K mainGlobals "Web" = some (some (.ref C))) (i : PySem.W.findIn K (.ref C) "__init__" = some (some (.ref f))) (l : K.lookup f = some ⟨oc, od, .func (PySem.W.fnOf "__init__" "Web.__init__" (defArgs (inClass (tp 36) 0)) (defBody (inClass (tp 36) 0)) (defScope (inClass (tp 36) 0)) .none kV dc pm an cd ct), sl⟩) (c : PySem.W.codeIn K cd "Web.__init__" = true) (k : PySem.W.keepIn K (.ref f) = true) (m : PySem.W.makesIn K C = true) (n : PySem.W.isFn K (.ref f) = true) (kc : PySem.W.keepIn K (.ref C) = true) : Di K mg "Web" C (inClass (tp 36) 0) "Web.__init__" ["self", "points", "ties"] := di_mk X G a i l c k m n kc fun _ _ _ _ _ _ us hl => match us, hl with | [_, _, _], _ => rfl
theorem dE {oc kV dc pm cd ct : Value} {od an : Option Addr} {sl : Array (Option Value)} {f : Addr} (l : K.lookup f = some ⟨oc, od, .func (PySem.W.fnOf "__eq__" "Web.__eq__" (defArgs (inClass (tp 36) 1)) (defBody (inClass (tp 36) 1)) (defScope (inClass (tp 36) 1)) .none kV dc pm an cd ct), sl⟩) (c : PySem.W.codeIn K cd "Web.__eq__" = true) (k : PySem.W.keepIn K (.ref f) = true) : ∃ fd, FunS K "__eq__" "Web.__eq__" (inClass (tp 36) 1) [] f fd ∧ Binds K fd ["self", "other"] [] :=
  have F : FunS K "__eq__" "Web.__eq__" (inClass (tp 36) 1) [] f _ := ⟨⟨oc, od, .none, kV, dc, pm, an, cd, ct, sl, rfl, l, c, .inl ⟨rfl, rfl⟩, .inl rfl⟩, k⟩
  ⟨_, F, binds0 F fun _ _ _ _ _ _ us hl => match us, hl with | [_, _], _ => rfl⟩
theorem d14 {oc kV dc pm cd ct : Value} {od an : Option Addr} {sl : Array (Option Value)} {f T : Addr} {to : Value} {td : Option Addr} {n : Nat} {ts : Array (Option Value)} {its : Array Value} (X : K.In h) (G : h.Ns mainGlobals mg) (a : PySem.W.nsIn K mainGlobals "need_number" = some (some (.ref f))) (l : K.lookup f = some ⟨oc, od, .func (PySem.W.fnOf "need_number" "need_number" (defArgs (tp 14)) (defBody (tp 14)) (defScope (tp 14)) (.ref T) kV dc pm an cd ct), sl⟩) (c : PySem.W.codeIn K cd "need_number" = true) (k : PySem.W.keepIn K (.ref f) = true) (t : K.lookup T = some ⟨to, td, .seq its n, ts⟩) (e : its = #[.none, .none]) : Dd K mg "need_number" (tp 14) ["value", "part", "least", "most"] [.non, .non] [] := by
  subst e
  exact dd_mk (its := [.none, .none]) (dvs := [.non, .non]) 4 2 X G a l c k t (.cons rfl (.cons rfl .nil)) (by simp) rfl fun _ _ _ _ _ _ _ us its hl hi => match us, hl, its, hi with | [_, _, _, _], _, [_, _], _ => ⟨_, rfl, rfl⟩
theorem d29 {oc kV dc pm cd ct : Value} {od an : Option Addr} {sl : Array (Option Value)} {f T : Addr} {to : Value} {td : Option Addr} {n : Nat} {ts : Array (Option Value)} {its : Array Value} {z : Tok} (X : K.In h) (G : h.Ns mainGlobals mg) (a : PySem.W.nsIn K mainGlobals "need_teams" = some (some (.ref f))) (l : K.lookup f = some ⟨oc, od, .func (PySem.W.fnOf "need_teams" "need_teams" (defArgs (tp 29)) (defBody (tp 29)) (defScope (tp 29)) (.ref T) kV dc pm an cd ct), sl⟩) (c : PySem.W.codeIn K cd "need_teams" = true) (k : PySem.W.keepIn K (.ref f) = true) (t : K.lookup T = some ⟨to, td, .seq its n, ts⟩) (e : its = #[.str "teams" z]) : Dd K mg "need_teams" (tp 29) ["value", "part"] [.str "teams"] [.str "teams"] := by
  subst e
  exact dd_mk (its := [.str "teams" z]) (dvs := [.str "teams"]) 1 0 X G a l c k t (.cons ⟨z, rfl⟩ .nil) (by simp) rfl fun _ _ _ _ _ _ _ us its hl hi => match us, hl, its, hi with | [_], _, [_], _ => ⟨_, rfl, rfl⟩
theorem lw_all {CW CT CN CTm CWb CMy CS CO CF fe iN iT iW iM fa c1 c2 : Addr} {u_mP u_mT u_mO : Tok} (P1 P2 : Addr) (X : K.In h) (G : h.Ns mainGlobals mg) (hfa : mg "law" = some (.ref fa)) (hne : P1 ≠ P2) (hT : ∀ p, p = P1 ∨ p = P2 → h.get? p = some { cls := .none, data := .fields #[] }) (nT : ∀ p, p = P1 ∨ p = P2 → K.lookup p = none)
    (a_CW : PySem.W.nsIn K mainGlobals "Web" = some (some (.ref CW)))
    (a_CT : PySem.W.nsIn K mainGlobals "Teams" = some (some (.ref CT)))
    (a_CN : PySem.W.nsIn K mainGlobals "BadNumber" = some (some (.ref CN)))
    (a_CTm : PySem.W.nsIn K mainGlobals "BadTeams" = some (some (.ref CTm)))
    (a_CWb : PySem.W.nsIn K mainGlobals "BadWeb" = some (some (.ref CWb)))
    (a_CMy : PySem.W.nsIn K mainGlobals "TooMany" = some (some (.ref CMy)))
    (a_CS : PySem.W.nsIn K mainGlobals "StairError" = some (some (.ref CS)))
    (a_CO : PySem.W.nsIn K mainGlobals "BadOrder" = some (some (.ref CO)))
    (a_CF : PySem.W.nsIn K mainGlobals "BadFilling" = some (some (.ref CF)))
    (clW : Cls K CW) (clT : Cls K CT) (n1 : NoAttr K CW "points") (n2 : NoAttr K CW "ties") (n3 : NoAttr K CT "people") (n4 : NoAttr K CT "teams") (n5 : NoAttr K CT "many") (tW : ClT K CW) (tT : ClT K CT) (isWT : PySem.W.kitOne K (.ref CW) (.ref CT) = some false) (isTW : PySem.W.kitOne K (.ref CT) (.ref CW) = some false)
    (bT_NoneType : PySem.W.kitOne K (.type "NoneType") (.ref CT) = some false) (bW_NoneType : PySem.W.kitOne K (.type "NoneType") (.ref CW) = some false)
    (bT_bool : PySem.W.kitOne K (.type "bool") (.ref CT) = some false) (bW_bool : PySem.W.kitOne K (.type "bool") (.ref CW) = some false)
    (bT_int : PySem.W.kitOne K (.type "int") (.ref CT) = some false) (bW_int : PySem.W.kitOne K (.type "int") (.ref CW) = some false)
    (bT_tuple : PySem.W.kitOne K (.type "tuple") (.ref CT) = some false) (bW_tuple : PySem.W.kitOne K (.type "tuple") (.ref CW) = some false)
    (z_isinst : PySem.W.nsIn K mainGlobals "isinstance" = some none)
    (z_tint : PySem.W.nsIn K mainGlobals "int" = some none)
    (z_tbool : PySem.W.nsIn K mainGlobals "bool" = some none)
    (z_tlist : PySem.W.nsIn K mainGlobals "list" = some none)
    (z_ttuple : PySem.W.nsIn K mainGlobals "tuple" = some none)
    (z_tset : PySem.W.nsIn K mainGlobals "set" = some none)
    (z_tlen : PySem.W.nsIn K mainGlobals "len" = some none)
    (z_tall : PySem.W.nsIn K mainGlobals "all" = some none)
    (z_tany : PySem.W.nsIn K mainGlobals "any" = some none)
    (z_trange : PySem.W.nsIn K mainGlobals "range" = some none)
    (z_tsorted : PySem.W.nsIn K mainGlobals "sorted" = some none)
    (z_tenum : PySem.W.nsIn K mainGlobals "enumerate" = some none)
    (z_tmin : PySem.W.nsIn K mainGlobals "min" = some none)
    (z_tmax : PySem.W.nsIn K mainGlobals "max" = some none)
    (z_tabs : PySem.W.nsIn K mainGlobals "abs" = some none)
    (z_trepr : PySem.W.nsIn K mainGlobals "repr" = some none)
    (z_mP : PySem.W.nsIn K mainGlobals "MOST_PEOPLE" = some (some (.int 12 u_mP)))
    (z_mT : PySem.W.nsIn K mainGlobals "MOST_TEAMS" = some (some (.int 500 u_mT)))
    (z_mO : PySem.W.nsIn K mainGlobals "MOST_POINTS" = some (some (.int 60 u_mO)))
    (k_CN_CMy : PySem.W.kitOne K (.ref CN) (.ref CMy) = some false)
    (k_CN_CN : PySem.W.kitOne K (.ref CN) (.ref CN) = some true)
    (k_CN_CTm : PySem.W.kitOne K (.ref CN) (.ref CTm) = some false)
    (k_CN_CWb : PySem.W.kitOne K (.ref CN) (.ref CWb) = some false)
    (k_CN_CO : PySem.W.kitOne K (.ref CN) (.ref CO) = some false)
    (k_CN_CF : PySem.W.kitOne K (.ref CN) (.ref CF) = some false)
    (k_CTm_CMy : PySem.W.kitOne K (.ref CTm) (.ref CMy) = some false)
    (k_CTm_CN : PySem.W.kitOne K (.ref CTm) (.ref CN) = some false)
    (k_CTm_CTm : PySem.W.kitOne K (.ref CTm) (.ref CTm) = some true)
    (k_CTm_CWb : PySem.W.kitOne K (.ref CTm) (.ref CWb) = some false)
    (k_CTm_CO : PySem.W.kitOne K (.ref CTm) (.ref CO) = some false)
    (k_CTm_CF : PySem.W.kitOne K (.ref CTm) (.ref CF) = some false)
    (k_CWb_CMy : PySem.W.kitOne K (.ref CWb) (.ref CMy) = some false)
    (k_CWb_CN : PySem.W.kitOne K (.ref CWb) (.ref CN) = some false)
    (k_CWb_CTm : PySem.W.kitOne K (.ref CWb) (.ref CTm) = some false)
    (k_CWb_CWb : PySem.W.kitOne K (.ref CWb) (.ref CWb) = some true)
    (k_CWb_CO : PySem.W.kitOne K (.ref CWb) (.ref CO) = some false)
    (k_CWb_CF : PySem.W.kitOne K (.ref CWb) (.ref CF) = some false)
    (k_CMy_CMy : PySem.W.kitOne K (.ref CMy) (.ref CMy) = some true)
    (x_CN : PySem.W.exmOne K (.ref CN) (.ref CS) = some true) (e_CN : ErrC K CN)
    (x_CTm : PySem.W.exmOne K (.ref CTm) (.ref CS) = some true) (e_CTm : ErrC K CTm)
    (x_CWb : PySem.W.exmOne K (.ref CWb) (.ref CS) = some true) (e_CWb : ErrC K CWb)
    (x_CMy : PySem.W.exmOne K (.ref CMy) (.ref CS) = some true) (e_CMy : ErrC K CMy)
    (f_CN : PySem.W.findIn K (.ref CN) "part" = some none)
    (f_CTm : PySem.W.findIn K (.ref CTm) "part" = some none)
    (f_CWb : PySem.W.findIn K (.ref CWb) "part" = some none)
    (f_what : PySem.W.findIn K (.ref CMy) "what" = some none) (f_most : PySem.W.findIn K (.ref CMy) "most" = some none)
    (E_CN : ErrK P K mg "BadNumber" CN iN (inClass (tp 2) 0) "BadNumber.__init__")
    (E_CTm : ErrK P K mg "BadTeams" CTm iT (inClass (tp 3) 0) "BadTeams.__init__")
    (E_CWb : ErrK P K mg "BadWeb" CWb iW (inClass (tp 6) 0) "BadWeb.__init__")
    (E_CMy : ErrK P K mg "TooMany" CMy iM (inClass (tp 7) 0) "TooMany.__init__")
    (EC : EqC K CW fe) (DE : ∃ fd, FunS K "__eq__" "Web.__eq__" (inClass (tp 36) 1) [] fe fd ∧ Binds K fd ["self", "other"] [])
    (D10 : Dn K mg "is_integer" (tp 10) ["value"])
    (D11 : Dn K mg "is_within" (tp 11) ["value", "least", "most"])
    (D12 : Dn K mg "is_list" (tp 12) ["value"])
    (D13 : Dn K mg "are_unlike" (tp 13) ["value", "least", "most"])
    (D14 : Dd K mg "need_number" (tp 14) ["value", "part", "least", "most"] [.non, .non] [])
    (D24 : Dn K mg "is_team" (tp 24) ["value", "people"])
    (D25 : Dn K mg "kept_team" (tp 25) ["value"])
    (D26 : Dn K mg "kept_teams" (tp 26) ["people", "value", "part"])
    (DT : Di K mg "Teams" CT (inClass (tp 27) 0) "Teams.__init__" ["self", "people", "teams"])
    (D29 : Dd K mg "need_teams" (tp 29) ["value", "part"] [.str "teams"] [.str "teams"])
    (D30 : Dn K mg "apart_in" (tp 30) ["one", "other"])
    (D31 : Dn K mg "apart_pairs" (tp 31) ["teams"])
    (D34 : Dn K mg "is_tie" (tp 34) ["value", "points"])
    (D35 : Dn K mg "are_ties" (tp 35) ["value", "points"])
    (DW : Di K mg "Web" CW (inClass (tp 36) 0) "Web.__init__" ["self", "points", "ties"])
    (D37 : Dn K mg "need_web" (tp 37) ["value"])
    (D38 : Dn K mg "need_few_people" (tp 38) ["many"])
    (D39 : Dn K mg "untied_pairs" (tp 39) ["web"])
    (D40 : Dn K mg "web_teams" (tp 40) ["web"])
    (D41 : Dn K mg "is_tied" (tp 41) ["web", "one", "other"])
    (D42 : Dn K mg "are_tied" (tp 42) ["web", "one", "other"])
    (D43 : Dn K mg "web_of" (tp 43) ["teams"])
    (D44 : Dn K mg "people_in" (tp 44) ["web"])
    (D45 : Dn K mg "team_of" (tp 45) ["web", "point"])
    (D46 : Dn K mg "teams_of" (tp 46) ["web"])
    (D48 : Dn K mg "_law_bag" (tp 48) ["_law_script"])
    (D49 : Dn K mg "_law_grab" (tp 49) ["_law_bag_here", "_law_many"])
    (D50 : Dn K mg "_law_apart" (tp 50) ["_law_one", "_law_other"])
    (D51 : Dn K mg "_law_some_teams" (tp 51) ["_law_bag_here", "_law_people", "_law_most"])
    (D52 : Dn K mg "_law_web" (tp 52) ["_law_bag_here", "_law_points"])
    (D53 : Dn K mg "_law_web_teams" (tp 53) ["_law_points", "_law_ties"])
    (D54 : Dn K mg "_law_heard" (tp 54) ["_law_ask"])
    (D55 : Dc K mg "_law_refused_right" (tp 55) c2 ["_law_bag_here", "_law_web_here", "_law_points"])
    (D56 : Dc K mg "law" (tp 56) c1 ["_law_script"])
    (C1 : PySem.W.codeHdIn K c1 P1 = true) (C2 : PySem.W.codeHdIn K c2 P2 = true) : Lw56 P w K mg fa h := by
  have T : Tx K mg ⟨CW, CT⟩ := {
    cl := ⟨clW, clT, n1, n2, n3, n4, n5⟩
    tW := tW
    tT := tT
    gW := PySem.W.mg_of X G a_CW
    gT := PySem.W.mg_of X G a_CT
    isWT := isWT
    isTW := isTW
    isBT := fun n hn => by
      rcases List.mem_cons.mp hn with e | hn
      · rw [e]; exact bT_NoneType
      rcases List.mem_cons.mp hn with e | hn
      · rw [e]; exact bT_bool
      rcases List.mem_cons.mp hn with e | hn
      · rw [e]; exact bT_int
      rw [List.mem_singleton.mp hn]
      exact bT_tuple
    isBW := fun n hn => by
      rcases List.mem_cons.mp hn with e | hn
      · rw [e]; exact bW_NoneType
      rcases List.mem_cons.mp hn with e | hn
      · rw [e]; exact bW_bool
      rcases List.mem_cons.mp hn with e | hn
      · rw [e]; exact bW_int
      rw [List.mem_singleton.mp hn]
      exact bW_tuple
    isinst := PySem.W.mg_none_of X G z_isinst
    tint := PySem.W.mg_none_of X G z_tint
    tbool := PySem.W.mg_none_of X G z_tbool
    tlist := PySem.W.mg_none_of X G z_tlist
    ttuple := PySem.W.mg_none_of X G z_ttuple
    tset := PySem.W.mg_none_of X G z_tset
    tlen := PySem.W.mg_none_of X G z_tlen
    tall := PySem.W.mg_none_of X G z_tall
    tany := PySem.W.mg_none_of X G z_tany
    trange := PySem.W.mg_none_of X G z_trange
    tsorted := PySem.W.mg_none_of X G z_tsorted
    tenum := PySem.W.mg_none_of X G z_tenum
    tmin := PySem.W.mg_none_of X G z_tmin
    tmax := PySem.W.mg_none_of X G z_tmax
    tabs := PySem.W.mg_none_of X G z_tabs
    trepr := PySem.W.mg_none_of X G z_trepr
    mP := ⟨_, PySem.W.mg_of X G z_mP⟩
    mT := ⟨_, PySem.W.mg_of X G z_mT⟩
    mO := ⟨_, PySem.W.mg_of X G z_mO⟩
  }
  have Y : Hd K mg ⟨CN, CTm, CWb, CMy, CS, CO, CF⟩ := {
    k_CN_CMy := k_CN_CMy
    k_CN_CN := k_CN_CN
    k_CN_CTm := k_CN_CTm
    k_CN_CWb := k_CN_CWb
    k_CN_CO := k_CN_CO
    k_CN_CF := k_CN_CF
    k_CTm_CMy := k_CTm_CMy
    k_CTm_CN := k_CTm_CN
    k_CTm_CTm := k_CTm_CTm
    k_CTm_CWb := k_CTm_CWb
    k_CTm_CO := k_CTm_CO
    k_CTm_CF := k_CTm_CF
    k_CWb_CMy := k_CWb_CMy
    k_CWb_CN := k_CWb_CN
    k_CWb_CTm := k_CWb_CTm
    k_CWb_CWb := k_CWb_CWb
    k_CWb_CO := k_CWb_CO
    k_CWb_CF := k_CWb_CF
    k_CMy_CMy := k_CMy_CMy
    x_CN := x_CN
    e_CN := e_CN
    x_CTm := x_CTm
    e_CTm := e_CTm
    x_CWb := x_CWb
    e_CWb := e_CWb
    x_CMy := x_CMy
    e_CMy := e_CMy
    f_CN := f_CN
    f_CTm := f_CTm
    f_CWb := f_CWb
    f_what := f_what
    f_most := f_most
    g_CN := PySem.W.mg_of X G a_CN
    g_CTm := PySem.W.mg_of X G a_CTm
    g_CWb := PySem.W.mg_of X G a_CWb
    g_CMy := PySem.W.mg_of X G a_CMy
    g_CS := PySem.W.mg_of X G a_CS
    g_CO := PySem.W.mg_of X G a_CO
    g_CF := PySem.W.mg_of X G a_CF
  }
  have X4 : Ex4 P w K mg ⟨CN, CTm, CWb, CMy, CS, CO, CF⟩ := ⟨mk_part E_CN f_CN (.inl rfl), mk_part E_CTm f_CTm (.inr (.inl rfl)), mk_part E_CWb f_CWb (.inr (.inr rfl)), mk_many E_CMy f_what f_most⟩
  exact lw_mk hne hT nT (PySem.W.codeHd_of_K X C1) (PySem.W.codeHd_of_K X C2) T Y X4 EC DE D10 D11 D12 D13 D14 D24 D25 D26 DT D29 D30 D31 D34 D35 DW D37 D38 D39 D40 D41 D42 D43 D44 D45 D46 D48 D49 D50 D51 D52 D53 D54 D55 D56 hfa
end
end My
open PySem PySem.W PyProof.Rows
set_option maxRecDepth 100000 in
set_option maxHeartbeats 0 in
theorem PySem.Challenge.cw_roomstair_k56_whole_webs_are_teams_holds : PySem.Challenge.rw_roomstair_k56_whole_webs_are_teams.Holds := by
  w_on; o_law; k_head; (case hw => w_witness2)
  k_fill
  refine My.walk56 (l := PySem.Challenge.rw_roomstair_k56_whole_webs_are_teams) rfl rfl (fun w h Y => PySem.W.km_in_of Y) ?F
  case F =>
    intro w mg fa h Y KX G hmg
    have T8 := PySem.W.km_tabs_of Y
    have hm2 : mg "law" = some (.ref fa) := hmg
    clear hmg Y
    refine' My.lw_all 515 510 KX G hm2 (by decide) (fun p e => ?hT) (fun p e => ?nT) ?a_CW ?a_CT ?a_CN ?a_CTm ?a_CWb ?a_CMy ?a_CS ?a_CO ?a_CF ?clW ?clT ?n1 ?n2 ?n3 ?n4 ?n5 ?tW ?tT ?isWT ?isTW ?bT_NoneType ?bW_NoneType ?bT_bool ?bW_bool ?bT_int ?bW_int ?bT_tuple ?bW_tuple ?z_isinst ?z_tint ?z_tbool ?z_tlist ?z_ttuple ?z_tset ?z_tlen ?z_tall ?z_tany ?z_trange ?z_tsorted ?z_tenum ?z_tmin ?z_tmax ?z_tabs ?z_trepr ?z_mP ?z_mT ?z_mO ?k_CN_CMy ?k_CN_CN ?k_CN_CTm ?k_CN_CWb ?k_CN_CO ?k_CN_CF ?k_CTm_CMy ?k_CTm_CN ?k_CTm_CTm ?k_CTm_CWb ?k_CTm_CO ?k_CTm_CF ?k_CWb_CMy ?k_CWb_CN ?k_CWb_CTm ?k_CWb_CWb ?k_CWb_CO ?k_CWb_CF ?k_CMy_CMy ?x_CN ?e_CN ?x_CTm ?e_CTm ?x_CWb ?e_CWb ?x_CMy ?e_CMy ?f_CN ?f_CTm ?f_CWb ?f_what ?f_most ?E_CN ?E_CTm ?E_CWb ?E_CMy ?EC ?DE ?D10 ?D11 ?D12 ?D13 ?D14 ?D24 ?D25 ?D26 ?DT ?D29 ?D30 ?D31 ?D34 ?D35 ?DW ?D37 ?D38 ?D39 ?D40 ?D41 ?D42 ?D43 ?D44 ?D45 ?D46 ?D48 ?D49 ?D50 ?D51 ?D52 ?D53 ?D54 ?D55 ?D56 ?C1 ?C2
    (case hT => rcases e with e | e <;> (rw [e]; first | exact T8 515 (by simp) | exact T8 510 (by simp)))
    (case nT => rcases e with e | e <;> (rw [e]; kernel_rfl))
    (case a_CW => k_is)
    (case a_CT => k_is)
    (case a_CN => k_is)
    (case a_CTm => k_is)
    (case a_CWb => k_is)
    (case a_CMy => k_is)
    (case a_CS => k_is)
    (case a_CO => k_is)
    (case a_CF => k_is)
    (case clW => exact ⟨by k_is, by k_is, by k_is, by k_is⟩)
    (case clT => exact ⟨by k_is, by k_is, by k_is, by k_is⟩)
    (case n1 => unfold L2.NoAttr; k_is)
    (case n2 => unfold L2.NoAttr; k_is)
    (case n3 => unfold L2.NoAttr; k_is)
    (case n4 => unfold L2.NoAttr; k_is)
    (case n5 => unfold L2.NoAttr; k_is)
    (case tW => exact ⟨by k_is, by k_is, by k_is, by k_is⟩)
    (case tT => exact ⟨by k_is, by k_is, by k_is, by k_is⟩)
    (case isWT => kernel_rfl)
    (case isTW => kernel_rfl)
    (case bT_NoneType => kernel_rfl)
    (case bW_NoneType => kernel_rfl)
    (case bT_bool => kernel_rfl)
    (case bW_bool => kernel_rfl)
    (case bT_int => kernel_rfl)
    (case bW_int => kernel_rfl)
    (case bT_tuple => kernel_rfl)
    (case bW_tuple => kernel_rfl)
    (case z_isinst => k_is)
    (case z_tint => k_is)
    (case z_tbool => k_is)
    (case z_tlist => k_is)
    (case z_ttuple => k_is)
    (case z_tset => k_is)
    (case z_tlen => k_is)
    (case z_tall => k_is)
    (case z_tany => k_is)
    (case z_trange => k_is)
    (case z_tsorted => k_is)
    (case z_tenum => k_is)
    (case z_tmin => k_is)
    (case z_tmax => k_is)
    (case z_tabs => k_is)
    (case z_trepr => k_is)
    (case z_mP => k_is)
    (case z_mT => k_is)
    (case z_mO => k_is)
    (case k_CN_CMy => kernel_rfl)
    (case k_CN_CN => kernel_rfl)
    (case k_CN_CTm => kernel_rfl)
    (case k_CN_CWb => kernel_rfl)
    (case k_CN_CO => kernel_rfl)
    (case k_CN_CF => kernel_rfl)
    (case k_CTm_CMy => kernel_rfl)
    (case k_CTm_CN => kernel_rfl)
    (case k_CTm_CTm => kernel_rfl)
    (case k_CTm_CWb => kernel_rfl)
    (case k_CTm_CO => kernel_rfl)
    (case k_CTm_CF => kernel_rfl)
    (case k_CWb_CMy => kernel_rfl)
    (case k_CWb_CN => kernel_rfl)
    (case k_CWb_CTm => kernel_rfl)
    (case k_CWb_CWb => kernel_rfl)
    (case k_CWb_CO => kernel_rfl)
    (case k_CWb_CF => kernel_rfl)
    (case k_CMy_CMy => kernel_rfl)
    (case x_CN => kernel_rfl)
    (case e_CN => exact ⟨by kernel_rfl, ⟨by k_is, by k_is, by k_is, by k_is, by k_is, by k_is, by k_is, by k_is⟩⟩)
    (case x_CTm => kernel_rfl)
    (case e_CTm => exact ⟨by kernel_rfl, ⟨by k_is, by k_is, by k_is, by k_is, by k_is, by k_is, by k_is, by k_is⟩⟩)
    (case x_CWb => kernel_rfl)
    (case e_CWb => exact ⟨by kernel_rfl, ⟨by k_is, by k_is, by k_is, by k_is, by k_is, by k_is, by k_is, by k_is⟩⟩)
    (case x_CMy => kernel_rfl)
    (case e_CMy => exact ⟨by kernel_rfl, ⟨by k_is, by k_is, by k_is, by k_is, by k_is, by k_is, by k_is, by k_is⟩⟩)
    (case f_CN => k_is)
    (case f_CTm => k_is)
    (case f_CWb => k_is)
    (case f_what => k_is)
    (case f_most => k_is)
    (case E_CN => refine' My.err_mk KX G ?a ?lC ?hbm ?sa ?iC ?tC ?kC ?exC ?tyC ?veC ?sup ?mro ?th ?nsup ?l ?ci ?lcd ?hvs ?lcc ?top ?hfile; (case a => k_is); (case lC => k_is); (case hbm => first | rfl | kernel_rfl); (case sa => k_is); (case iC => k_is); (case tC => k_is); (case kC => k_is); (case exC => k_is); (case tyC => k_is); (case veC => k_is); (case sup => first | rfl | kernel_rfl); (case mro => k_is); (case th => first | rfl | kernel_rfl); (case nsup => k_is); (case l => k_is); (case ci => k_is); (case lcd => k_is); (case hvs => first | rfl | kernel_rfl); (case lcc => k_is); (case top => first | rfl | kernel_rfl); (case hfile => first | rfl | kernel_rfl))
    (case E_CTm => refine' My.err_mk KX G ?a ?lC ?hbm ?sa ?iC ?tC ?kC ?exC ?tyC ?veC ?sup ?mro ?th ?nsup ?l ?ci ?lcd ?hvs ?lcc ?top ?hfile; (case a => k_is); (case lC => k_is); (case hbm => first | rfl | kernel_rfl); (case sa => k_is); (case iC => k_is); (case tC => k_is); (case kC => k_is); (case exC => k_is); (case tyC => k_is); (case veC => k_is); (case sup => first | rfl | kernel_rfl); (case mro => k_is); (case th => first | rfl | kernel_rfl); (case nsup => k_is); (case l => k_is); (case ci => k_is); (case lcd => k_is); (case hvs => first | rfl | kernel_rfl); (case lcc => k_is); (case top => first | rfl | kernel_rfl); (case hfile => first | rfl | kernel_rfl))
    (case E_CWb => refine' My.err_mk KX G ?a ?lC ?hbm ?sa ?iC ?tC ?kC ?exC ?tyC ?veC ?sup ?mro ?th ?nsup ?l ?ci ?lcd ?hvs ?lcc ?top ?hfile; (case a => k_is); (case lC => k_is); (case hbm => first | rfl | kernel_rfl); (case sa => k_is); (case iC => k_is); (case tC => k_is); (case kC => k_is); (case exC => k_is); (case tyC => k_is); (case veC => k_is); (case sup => first | rfl | kernel_rfl); (case mro => k_is); (case th => first | rfl | kernel_rfl); (case nsup => k_is); (case l => k_is); (case ci => k_is); (case lcd => k_is); (case hvs => first | rfl | kernel_rfl); (case lcc => k_is); (case top => first | rfl | kernel_rfl); (case hfile => first | rfl | kernel_rfl))
    (case E_CMy => refine' My.err_mk KX G ?a ?lC ?hbm ?sa ?iC ?tC ?kC ?exC ?tyC ?veC ?sup ?mro ?th ?nsup ?l ?ci ?lcd ?hvs ?lcc ?top ?hfile; (case a => k_is); (case lC => k_is); (case hbm => first | rfl | kernel_rfl); (case sa => k_is); (case iC => k_is); (case tC => k_is); (case kC => k_is); (case exC => k_is); (case tyC => k_is); (case veC => k_is); (case sup => first | rfl | kernel_rfl); (case mro => k_is); (case th => first | rfl | kernel_rfl); (case nsup => k_is); (case l => k_is); (case ci => k_is); (case lcd => k_is); (case hvs => first | rfl | kernel_rfl); (case lcc => k_is); (case top => first | rfl | kernel_rfl); (case hfile => first | rfl | kernel_rfl))
    (case EC => refine' ⟨?e1, ?e2, ?e3, ?e4⟩; (case e1 => k_is); (case e2 => k_is); (case e3 => k_is); (case e4 => k_is))
    (case DE => refine' My.dE ?l ?c ?k; (case l => k_is); (case c => k_is); (case k => k_is))
    (case D10 => refine' My.d10 KX G ?a ?l ?c ?k; (case a => k_is); (case l => k_is); (case c => k_is); (case k => k_is))
    (case D11 => refine' My.d11 KX G ?a ?l ?c ?k; (case a => k_is); (case l => k_is); (case c => k_is); (case k => k_is))
    (case D12 => refine' My.d12 KX G ?a ?l ?c ?k; (case a => k_is); (case l => k_is); (case c => k_is); (case k => k_is))
    (case D13 => refine' My.d13 KX G ?a ?l ?c ?k; (case a => k_is); (case l => k_is); (case c => k_is); (case k => k_is))
    (case D14 => refine' My.d14 KX G ?a ?l ?c ?k ?t ?e; (case a => k_is); (case l => k_is); (case c => k_is); (case k => k_is); (case t => k_is); (case e => first | rfl | kernel_rfl))
    (case D24 => refine' My.d24 KX G ?a ?l ?c ?k; (case a => k_is); (case l => k_is); (case c => k_is); (case k => k_is))
    (case D25 => refine' My.d25 KX G ?a ?l ?c ?k; (case a => k_is); (case l => k_is); (case c => k_is); (case k => k_is))
    (case D26 => refine' My.d26 KX G ?a ?l ?c ?k; (case a => k_is); (case l => k_is); (case c => k_is); (case k => k_is))
    (case DT => refine' My.di27 KX G ?a ?i ?l ?c ?k ?m ?n ?kc; (case a => k_is); (case i => k_is); (case l => k_is); (case c => k_is); (case k => k_is); (case m => k_is); (case n => k_is); (case kc => k_is))
    (case D29 => refine' My.d29 KX G ?a ?l ?c ?k ?t ?e; (case a => k_is); (case l => k_is); (case c => k_is); (case k => k_is); (case t => k_is); (case e => first | rfl | kernel_rfl))
    (case D30 => refine' My.d30 KX G ?a ?l ?c ?k; (case a => k_is); (case l => k_is); (case c => k_is); (case k => k_is))
    (case D31 => refine' My.d31 KX G ?a ?l ?c ?k; (case a => k_is); (case l => k_is); (case c => k_is); (case k => k_is))
    (case D34 => refine' My.d34 KX G ?a ?l ?c ?k; (case a => k_is); (case l => k_is); (case c => k_is); (case k => k_is))
    (case D35 => refine' My.d35 KX G ?a ?l ?c ?k; (case a => k_is); (case l => k_is); (case c => k_is); (case k => k_is))
    (case DW => refine' My.di36 KX G ?a ?i ?l ?c ?k ?m ?n ?kc; (case a => k_is); (case i => k_is); (case l => k_is); (case c => k_is); (case k => k_is); (case m => k_is); (case n => k_is); (case kc => k_is))
    (case D37 => refine' My.d37 KX G ?a ?l ?c ?k; (case a => k_is); (case l => k_is); (case c => k_is); (case k => k_is))
    (case D38 => refine' My.d38 KX G ?a ?l ?c ?k; (case a => k_is); (case l => k_is); (case c => k_is); (case k => k_is))
    (case D39 => refine' My.d39 KX G ?a ?l ?c ?k; (case a => k_is); (case l => k_is); (case c => k_is); (case k => k_is))
    (case D40 => refine' My.d40 KX G ?a ?l ?c ?k; (case a => k_is); (case l => k_is); (case c => k_is); (case k => k_is))
    (case D41 => refine' My.d41 KX G ?a ?l ?c ?k; (case a => k_is); (case l => k_is); (case c => k_is); (case k => k_is))
    (case D42 => refine' My.d42 KX G ?a ?l ?c ?k; (case a => k_is); (case l => k_is); (case c => k_is); (case k => k_is))
    (case D43 => refine' My.d43 KX G ?a ?l ?c ?k; (case a => k_is); (case l => k_is); (case c => k_is); (case k => k_is))
    (case D44 => refine' My.d44 KX G ?a ?l ?c ?k; (case a => k_is); (case l => k_is); (case c => k_is); (case k => k_is))
    (case D45 => refine' My.d45 KX G ?a ?l ?c ?k; (case a => k_is); (case l => k_is); (case c => k_is); (case k => k_is))
    (case D46 => refine' My.d46 KX G ?a ?l ?c ?k; (case a => k_is); (case l => k_is); (case c => k_is); (case k => k_is))
    (case D48 => refine' My.d48 KX G ?a ?l ?c ?k; (case a => k_is); (case l => k_is); (case c => k_is); (case k => k_is))
    (case D49 => refine' My.d49 KX G ?a ?l ?c ?k; (case a => k_is); (case l => k_is); (case c => k_is); (case k => k_is))
    (case D50 => refine' My.d50 KX G ?a ?l ?c ?k; (case a => k_is); (case l => k_is); (case c => k_is); (case k => k_is))
    (case D51 => refine' My.d51 KX G ?a ?l ?c ?k; (case a => k_is); (case l => k_is); (case c => k_is); (case k => k_is))
    (case D52 => refine' My.d52 KX G ?a ?l ?c ?k; (case a => k_is); (case l => k_is); (case c => k_is); (case k => k_is))
    (case D53 => refine' My.d53 KX G ?a ?l ?c ?k; (case a => k_is); (case l => k_is); (case c => k_is); (case k => k_is))
    (case D54 => refine' My.d54 KX G ?a ?l ?c ?k; (case a => k_is); (case l => k_is); (case c => k_is); (case k => k_is))
    (case D55 => refine' My.d55 KX G ?a ?l ?c ?k; (case a => k_is); (case l => k_is); (case c => k_is); (case k => k_is))
    (case D56 => refine' My.d56 KX G ?a ?l ?c ?k; (case a => k_is); (case l => k_is); (case c => k_is); (case k => k_is))
    (case C1 => kernel_rfl)
    (case C2 => kernel_rfl)
