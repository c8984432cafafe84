import PyProof.Rows.All
import Wide.All
import OpenK.AllK
import Wide.FinOn
import HandS.ForMost
import HandS.AnyAll
import KE.KDictKeyed
import KE.KDictWalk
import KE.SortData
import HandS.Style
import HandS.Conv
import KE.OsSortAny
import HandS.SortKw
import KE.KDictOf
import PyProof.WalksPairs
import PyProof.GenCompT
import KE.KNest
import KE.SortKeyHeap
import HandS.Zip
import HandS.EndTab
import PySem.Challenge.RW_heapgame_k92_whole_one_side_wins
set_option Elab.async false
set_option linter.all false
set_option maxRecDepth 100000
set_option maxHeartbeats 4000000
/-! Data of a Python value told over the abstract heap; judgements by data. -/
namespace HG
open PySem L2

/-! ### data -/
inductive D where
  | non
  | bl (b : Bool)
  | int (i : Int)
  | str (x : Str)
  | lst (xs : List D)
  | tup (xs : List D)
  | obj (C : Addr) (ns : List Str) (ds : List D)
  | dic (ks : List NestedKey) (ds : List D)
  | scr (a : Addr) (o : Option HO)

abbrev Sub (G H : Hp) : Prop := ∀ b o, G b = some o → H b = some o

mutual
inductive KR (G : Hp) : V → NestedKey → Prop
  | num (i : Int) : KR G (.int i) (.num i)
  | tup {a : Addr} {xs : List V} {ks : List NestedKey} : G a = some (.tup xs) → KRs G xs ks → KR G (.ref a) (.tup ks)
inductive KRs (G : Hp) : List V → List NestedKey → Prop
  | nil : KRs G [] []
  | cons {v : V} {vs : List V} {k : NestedKey} {ks : List NestedKey} : KR G v k → KRs G vs ks → KRs G (v :: vs) (k :: ks)
end

/-- just this object -/
def objHO (a : Addr) (o : Obj) : HO := .ext fun h => h.get? a = some o
/-- .. a dict with just these entries -/
structure DicOk (P : Program) (w : World) (G : Hp) (a : Addr) (o : Obj) (xs : List (NestedKey × Addr × Value)) : Prop where
  sys : (a == sysModules) = false
  len : xs.length ≤ sizeLine
  nd : (xs.map (·.1)).Nodup
  keys : ∀ x ∈ xs, KR G (.ref x.2.1) x.1 ∧ x.1.depth ≤ 8
  ex : o.ExactDict
  dat : ∃ es ep, o.data = .dict es ep ∧ es.toList = xs.map (entryOfKey (nestedKind P w))

mutual
inductive DR (P : Program) (w : World) (G : Hp) : V → D → Prop
  | non : DR P w G .non .non
  | bl (b : Bool) : DR P w G (.bl b) (.bl b)
  | int (i : Int) : DR P w G (.int i) (.int i)
  | str (x : Str) : DR P w G (.str x) (.str x)
  | lst {a : Addr} {xs : List V} {ds : List D} : G a = some (.lst xs) → DRs P w G xs ds → DR P w G (.ref a) (.lst ds)
  | tup {a : Addr} {xs : List V} {ds : List D} : G a = some (.tup xs) → DRs P w G xs ds → DR P w G (.ref a) (.tup ds)
  | obj {a C dx : Addr} {fs : List (Str × V)} {ds : List D} : G a = some (.ins C dx fs) → DRs P w G (fs.map (·.2)) ds → DR P w G (.ref a) (.obj C (fs.map (·.1)) ds)
  | dic {a : Addr} {o : Obj} {xs : List (NestedKey × Addr × Value)} {vs : List V} {ds : List D} : G a = some (objHO a o) → DicOk P w G a o xs → Vals vs (xs.map (·.2.2)) → DRs P w G vs ds → DR P w G (.ref a) (.dic (xs.map (·.1)) ds)
  | scr {a : Addr} {o : Option HO} : (∀ u, o = some u → G a = some u) → DR P w G (.ref a) (.scr a o)
inductive DRs (P : Program) (w : World) (G : Hp) : List V → List D → Prop
  | nil : DRs P w G [] []
  | cons {v : V} {vs : List V} {d : D} {ds : List D} : DR P w G v d → DRs P w G vs ds → DRs P w G (v :: vs) (d :: ds)
end

section
variable {P : Program} {w : World} {G G' : Hp}
mutual
theorem KR.mono (g : Sub G G') : ∀ (k : NestedKey) (v : V), KR G v k → KR G' v k
  | .num i, _, h => by cases h; exact .num i
  | .none, _, h => by cases h
  | .text _, _, h => by cases h
  | .tup ks, _, h => by
    cases h with
    | tup h1 h2 => exact .tup (g _ _ h1) (KRs.mono g ks _ h2)
theorem KRs.mono (g : Sub G G') : ∀ (ks : List NestedKey) (vs : List V), KRs G vs ks → KRs G' vs ks
  | [], _, h => by cases h; exact .nil
  | k :: ks, _, h => by
    cases h with
    | cons h1 h2 => exact .cons (KR.mono g k _ h1) (KRs.mono g ks _ h2)
end
theorem DicOk.mono (g : Sub G G') {a : Addr} {o : Obj} {xs : List (NestedKey × Addr × Value)} (h : DicOk P w G a o xs) : DicOk P w G' a o xs :=
  ⟨h.sys, h.len, h.nd, fun x hx => ⟨KR.mono g _ _ (h.keys x hx).1, (h.keys x hx).2⟩, h.ex, h.dat⟩
mutual
theorem DR.mono (g : Sub G G') : ∀ (d : D) (v : V), DR P w G v d → DR P w G' v d
  | .non, _, h => by cases h; exact .non
  | .bl b, _, h => by cases h; exact .bl b
  | .int b, _, h => by cases h; exact .int b
  | .str b, _, h => by cases h; exact .str b
  | .lst ds, _, h => by
    cases h with
    | lst h1 h2 => exact .lst (g _ _ h1) (DRs.mono g ds _ h2)
  | .tup ds, _, h => by
    cases h with
    | tup h1 h2 => exact .tup (g _ _ h1) (DRs.mono g ds _ h2)
  | .obj C ns ds, _, h => by
    cases h with
    | obj h1 h2 => exact .obj (g _ _ h1) (DRs.mono g ds _ h2)
  | .dic ks ds, _, h => by
    cases h with
    | dic h1 h2 h3 h4 => exact .dic (g _ _ h1) (h2.mono g) h3 (DRs.mono g ds _ h4)
  | .scr a o, _, h => by
    cases h with
    | scr h1 => exact .scr fun u e => g _ _ (h1 u e)
theorem DRs.mono (g : Sub G G') : ∀ (ds : List D) (vs : List V), DRs P w G vs ds → DRs P w G' vs ds
  | [], _, h => by cases h; exact .nil
  | d :: ds, _, h => by
    cases h with
    | cons h1 h2 => exact .cons (DR.mono g d _ h1) (DRs.mono g ds _ h2)
end
theorem DR.up (g : Sub G G') {d : D} {v : V} (h : DR P w G v d) : DR P w G' v d := DR.mono g d v h
theorem DRs.up (g : Sub G G') {d : List D} {v : List V} (h : DRs P w G v d) : DRs P w G' v d := DRs.mono g d v h

theorem DRs.length : ∀ {vs : List V} {ds : List D}, DRs P w G vs ds → vs.length = ds.length
  | _, [], h => by cases h; rfl
  | _, d :: ds, h => by
    cases h with
    | cons h1 h2 => rw [List.length_cons, List.length_cons, DRs.length h2]
theorem DRs.get : ∀ {vs : List V} {ds : List D} {i : Nat} {d : D}, DRs P w G vs ds → ds[i]? = some d → ∃ v, vs[i]? = some v ∧ DR P w G v d
  | _, [], _, _, h, e => by simp at e
  | _, d :: ds, 0, x, h, e => by
    cases h with
    | cons h1 h2 =>
      simp only [List.getElem?_cons_zero, Option.some.injEq] at e
      subst e
      exact ⟨_, rfl, h1⟩
  | _, d :: ds, i + 1, x, h, e => by
    cases h with
    | cons h1 h2 =>
      obtain ⟨v, q, r⟩ := DRs.get (i := i) h2 (by simpa using e)
      exact ⟨v, by simpa using q, r⟩
theorem DRs.getV : ∀ {vs : List V} {ds : List D} {i : Nat} {v : V}, DRs P w G vs ds → vs[i]? = some v → ∃ d, ds[i]? = some d ∧ DR P w G v d := fun {vs ds i v} h e => by
  have hl := h.length
  have hi := (List.getElem?_eq_some_iff.mp e).1
  obtain ⟨u, q, r⟩ := h.get (i := i) (d := ds[i]'(by omega)) (List.getElem?_eq_getElem _)
  rw [q] at e
  cases e
  exact ⟨_, List.getElem?_eq_getElem _, r⟩
theorem DRs.append : ∀ {vs us : List V} {ds es : List D}, DRs P w G vs ds → DRs P w G us es → DRs P w G (vs ++ us) (ds ++ es)
  | _, _, [], _, h, q => by cases h; exact q
  | _, _, d :: ds, _, h, q => by
    cases h with
    | cons h1 h2 => exact .cons h1 (DRs.append h2 q)
theorem DRs.one {v : V} {d : D} (h : DR P w G v d) : DRs P w G [v] [d] := .cons h .nil
theorem DRs.take : ∀ {vs : List V} {ds : List D} (n : Nat), DRs P w G vs ds → DRs P w G (vs.take n) (ds.take n)
  | _, _, 0, _ => .nil
  | _, [], n + 1, h => by cases h; exact .nil
  | _, d :: ds, n + 1, h => by
    cases h with
    | cons h1 h2 => exact .cons h1 (DRs.take n h2)
theorem DRs.drop : ∀ {vs : List V} {ds : List D} (n : Nat), DRs P w G vs ds → DRs P w G (vs.drop n) (ds.drop n)
  | _, _, 0, h => h
  | _, [], n + 1, h => by cases h; exact .nil
  | _, d :: ds, n + 1, h => by
    cases h with
    | cons h1 h2 => exact DRs.drop n h2
end

/-! ### the two heaps: what is known for ever (G), what stands (H); T: tables of code objects -/
structure WF (T : List Addr) (G H : Hp) : Prop where
  sub : Sub G H
  tab : ∀ p ∈ T, GxR.TabG H p
  tn : ∀ p ∈ T, G p = none
structure Ext (T M : List Addr) (G H G' H' : Hp) : Prop where
  g : Sub G G'
  keep : ∀ b o, H b = some o → b ∉ T → b ∉ M → H' b = some o
  new : ∀ b o, G' b = some o → G b = some o ∨ H b = none
  there : ∀ b, H b ≠ none → H' b ≠ none
  wf : WF T G' H'
section
variable {T M M' : List Addr} {G H G1 H1 G2 H2 : Hp}
theorem Ext.refl (h : WF T G H) : Ext T M G H G H := ⟨fun _ _ e => e, fun _ _ e _ _ => e, fun _ _ e => .inl e, fun _ e => e, h⟩
theorem Ext.trans (a : Ext T M G H G1 H1) (b : Ext T M' G1 H1 G2 H2) (hM : ∀ m ∈ M', m ∈ M ∨ H m = none) : Ext T M G H G2 H2 := by
  refine ⟨fun x o e => b.g _ _ (a.g _ _ e), fun x o e t m => b.keep _ _ (a.keep _ _ e t m) t (fun z => ?_), fun x o e => ?_, fun x e => b.there _ (a.there _ e), b.wf⟩
  · rcases hM x z with q | q
    · exact m q
    · rw [q] at e; cases e
  · rcases b.new _ _ e with q | q
    · exact a.new _ _ q
    · refine .inr ?_
      cases z : H x with
      | none => rfl
      | some u => exact absurd q (a.there x (by rw [z]; exact fun k => by cases k))
theorem Ext.tr (a : Ext T M G H G1 H1) (b : Ext T [] G1 H1 G2 H2) : Ext T M G H G2 H2 := a.trans b fun m h => absurd h (by simp)
theorem Ext.mono (a : Ext T M G H G1 H1) (h : ∀ m ∈ M, m ∈ M') : Ext T M' G H G1 H1 := ⟨a.g, fun b o e t m => a.keep b o e t fun z => m (h b z), a.new, a.there, a.wf⟩
/-- a new object, known for ever -/
theorem Ext.newG (h : WF T G H) {p : Addr} {o : HO} (hp : H p = none) : Ext T [] G H (upd G p o) (upd H p o) := by
  have pT : p ∉ T := fun z => by
    obtain ⟨ps, e, _⟩ := h.tab p z
    rw [hp] at e
    cases e
  have gp : G p = none := by
    cases q : G p with
    | none => rfl
    | some u => rw [h.sub _ _ q] at hp; cases hp
  refine ⟨fun b u e => ?_, fun b u e _ _ => ?_, fun b u e => ?_, fun b e => ?_, fun b u e => ?_, fun b z => ?_, fun b z => ?_⟩
  · rw [upd_ne (ne_of_none e gp)]; exact e
  · rw [upd_ne (ne_of_none e hp)]; exact e
  · by_cases q : b = p
    · exact .inr (by rw [q]; exact hp)
    · rw [upd_ne q] at e; exact .inl e
  · by_cases q : b = p
    · rw [q, upd_same]; exact fun z => by cases z
    · rw [upd_ne q]; exact e
  · by_cases q : b = p
    · subst q; rw [upd_same] at e ⊢; exact e
    · rw [upd_ne q] at e ⊢; exact h.sub _ _ e
  · have q : b ≠ p := fun e => pT (e ▸ z)
    obtain ⟨ps, e, r⟩ := h.tab b z
    exact ⟨ps, by rw [upd_ne q]; exact e, r⟩
  · have q : b ≠ p := fun e => pT (e ▸ z)
    rw [upd_ne q]; exact h.tn b z
/-- a new object that will change -/
theorem Ext.newH (h : WF T G H) {p : Addr} {o : HO} (hp : H p = none) : Ext T [] G H G (upd H p o) := by
  have a := Ext.newG (o := o) h hp
  have gp : G p = none := by
    cases q : G p with
    | none => rfl
    | some u => rw [h.sub _ _ q] at hp; cases hp
  exact ⟨fun b u e => e, a.keep, fun b u e => .inl e, a.there, fun b u e => a.wf.sub _ _ (a.g _ _ e), a.wf.tab, h.tn⟩
/-- an object that is not known for ever changes -/
theorem Ext.mut (h : WF T G H) {l : Addr} {o : HO} (hl : G l = none) (ht : l ∉ T) : Ext T [l] G H G (upd H l o) := by
  refine ⟨fun _ _ e => e, fun b u e _ m => ?_, fun b u e => .inl e, fun b e => ?_, fun b u e => ?_, fun b z => ?_, h.tn⟩
  · rw [upd_ne (fun q => m (by rw [q]; exact List.mem_singleton.mpr rfl))]; exact e
  · by_cases q : b = l
    · rw [q, upd_same]; exact fun z => by cases z
    · rw [upd_ne q]; exact e
  · rw [upd_ne (ne_of_none e hl)]; exact h.sub _ _ e
  · have q : b ≠ l := fun e => ht (e ▸ z)
    obtain ⟨ps, e, r⟩ := h.tab b z
    exact ⟨ps, by rw [upd_ne q]; exact e, r⟩
theorem WF.notT (h : WF T G H) {p : Addr} {o : HO} (e : H p = some o) (n : ∀ ps, o ≠ .tbl ps) : p ∉ T := fun z => by
  obtain ⟨ps, q, _⟩ := h.tab p z
  rw [e] at q
  exact n ps (Option.some.inj q)
theorem WF.gn (h : WF T G H) {p : Addr} (hp : H p = none) : G p = none := by
  cases q : G p with
  | none => rfl
  | some u => rw [h.sub _ _ q] at hp; cases hp
end

/-! ### what the slots hold -/
inductive SV where
  | und
  | dat (d : D)
  | val (v : V)
structure EnvR (P : Program) (w : World) (G : Hp) (σ : St) (γ : List SV) : Prop where
  len : σ.length = γ.length
  dat : ∀ (i : Nat) (d : D), γ[i]? = some (.dat d) → ∃ v, σ[i]? = some (some v) ∧ DR P w G v d
  val : ∀ (i : Nat) (v : V), γ[i]? = some (.val v) → σ[i]? = some (some v)
section
variable {P : Program} {w : World} {G G' : Hp} {σ : St} {γ : List SV}
theorem EnvR.up (g : Sub G G') (h : EnvR P w G σ γ) : EnvR P w G' σ γ := ⟨h.len, fun i d e => let ⟨v, a, b⟩ := h.dat i d e; ⟨v, a, b.up g⟩, h.val⟩
theorem EnvR.set {i : Nat} {v : V} {s : SV} (h : EnvR P w G σ γ) (hs : match s with | .und => True | .dat d => DR P w G v d | .val u => v = u) : EnvR P w G (σ.set i (some v)) (γ.set i s) := by
  have hl := h.len
  have at_ : ∀ (j : Nat) (t : SV), (γ.set i s)[j]? = some t → (j = i ∧ t = s ∧ j < σ.length) ∨ (j ≠ i ∧ γ[j]? = some t) := fun j t e => by
    by_cases q : i = j
    · subst q
      have hi : i < γ.length := by
        have := (List.getElem?_eq_some_iff.mp e).1
        simpa using this
      rw [List.getElem?_set_self hi] at e
      exact .inl ⟨rfl, (Option.some.inj e).symm, by omega⟩
    · rw [List.getElem?_set_ne q] at e
      exact .inr ⟨fun z => q z.symm, e⟩
  refine ⟨by simp [hl], fun j d e => ?_, fun j u e => ?_⟩
  · rcases at_ j _ e with ⟨rfl, z, hj⟩ | ⟨hj, z⟩
    · subst z
      exact ⟨v, List.getElem?_set_self hj, hs⟩
    · rw [List.getElem?_set_ne (fun q => hj q.symm)]
      exact h.dat j d z
  · rcases at_ j _ e with ⟨rfl, z, hj⟩ | ⟨hj, z⟩
    · subst z
      rw [List.getElem?_set_self hj]
      have hs' : v = u := hs
      rw [hs']
    · rw [List.getElem?_set_ne (fun q => hj q.symm)]
      exact h.val j u z
theorem EnvR.setD {i : Nat} {v : V} {d : D} (h : EnvR P w G σ γ) (hs : DR P w G v d) : EnvR P w G (σ.set i (some v)) (γ.set i (.dat d)) := h.set (s := .dat d) hs
theorem EnvR.setV {i : Nat} {v : V} (h : EnvR P w G σ γ) : EnvR P w G (σ.set i (some v)) (γ.set i (.val v)) := h.set (s := .val v) rfl
/-- forgotten -/
def undefs (γ : List SV) : List Nat → List SV
  | [] => γ
  | i :: is => (undefs γ is).set i .und
theorem EnvR.und1 (h : EnvR P w G σ γ) (i : Nat) (o : Option V) : EnvR P w G (σ.set i o) (γ.set i .und) := by
  have at_ : ∀ (j : Nat) (t : SV), (γ.set i .und)[j]? = some t → t ≠ .und → j ≠ i ∧ γ[j]? = some t := fun j t e n => by
    by_cases q : i = j
    · subst q
      have hi : i < γ.length := by
        have := (List.getElem?_eq_some_iff.mp e).1
        simpa using this
      rw [List.getElem?_set_self hi] at e
      exact absurd (Option.some.inj e).symm n
    · rw [List.getElem?_set_ne q] at e
      exact ⟨fun z => q z.symm, e⟩
  refine ⟨by simp [h.len], fun j d e => ?_, fun j u e => ?_⟩
  · obtain ⟨hj, z⟩ := at_ j _ e (fun z => by cases z)
    rw [List.getElem?_set_ne (fun q => hj q.symm)]
    exact h.dat j d z
  · obtain ⟨hj, z⟩ := at_ j _ e (fun z => by cases z)
    rw [List.getElem?_set_ne (fun q => hj q.symm)]
    exact h.val j u z
theorem EnvR.forget1 (h : EnvR P w G σ γ) (i : Nat) : EnvR P w G σ (γ.set i .und) := by
  have a := h.und1 i (σ[i]?.join)
  have e : σ.set i (σ[i]?.join) = σ := by
    apply List.ext_getElem?
    intro j
    by_cases q : i = j
    · subst q
      by_cases hi : i < σ.length
      · rw [List.getElem?_set_self hi, List.getElem?_eq_getElem hi]; rfl
      · rw [List.getElem?_eq_none (by simpa using hi), List.getElem?_eq_none (by simpa using hi)]
    · rw [List.getElem?_set_ne q]
  rw [e] at a
  exact a
theorem EnvR.forget (h : EnvR P w G σ γ) : ∀ is : List Nat, EnvR P w G σ (undefs γ is)
  | [] => h
  | i :: is => (EnvR.forget h is).forget1 i
theorem EnvR.wipe (h : EnvR P w G σ γ) : ∀ is : List Nat, EnvR P w G (wipe σ is) (undefs γ is)
  | [] => h
  | i :: is => (EnvR.wipe h is).und1 i none
end
theorem wipe_comm {σ : St} {i : Nat} {x : Option V} : ∀ {vs : List Nat}, i ∉ vs → wipe (σ.set i x) vs = (wipe σ vs).set i x
  | [], _ => rfl
  | v :: vs, h => by
    unfold wipe
    rw [wipe_comm (vs := vs) (fun z => h (List.mem_cons_of_mem _ z))]
    exact List.set_comm _ _ (fun e => h (by rw [e]; exact List.mem_cons_self))
theorem wipe_set {σ : St} {i : Nat} {x : Option V} : ∀ {vs : List Nat}, i ∈ vs → wipe (σ.set i x) vs = wipe σ vs
  | v :: vs, h => by
    unfold wipe
    by_cases q : i ∈ vs
    · rw [wipe_set q]
    · have e : i = v := by
        rcases List.mem_cons.mp h with e | e
        · exact e
        · exact absurd e q
      subst e
      rw [wipe_comm q, List.set_set]
theorem wipe_wipe (σ : St) : ∀ vs ws : List Nat, (∀ v ∈ vs, v ∈ ws) → wipe (wipe σ vs) ws = wipe σ ws
  | [], _, _ => rfl
  | v :: vs, ws, h => by
    show L2.wipe ((L2.wipe σ vs).set v none) ws = _
    rw [wipe_set (h v List.mem_cons_self)]
    exact wipe_wipe σ vs ws fun u hu => h u (List.mem_cons_of_mem _ hu)
end HG

set_option Elab.async false
set_option linter.all false
set_option maxRecDepth 100000
set_option maxHeartbeats 4000000
/-! Expressions by data: EE (a value), ET (a test), EA (arguments). -/
namespace HG
open PySem L2

/-! ### readings that say nothing but the run itself -/
section
variable (X : Cx)
def wE (e : Expr) : TE := fun σ H Q => ∀ (pins : List (Addr × Obj)) (s : Shared), Inv X pins σ H s → wpAny (model X.prog X.w) X.A (eval e X.env) (EP X pins σ Q) X.xe s
def wT (e : Expr) : TT := fun σ H Q => ∀ (pins : List (Addr × Obj)) (s : Shared), Inv X pins σ H s → wpAny (model X.prog X.w) X.A (isTrue e X.env (eval e X.env)) (TP X pins σ Q) X.xe s
def wA (es : List Expr) : TA := fun σ H Q => ∀ (pos : Pos) (pins : List (Addr × Obj)) (s : Shared), Inv X pins σ H s → wpAny (model X.prog X.w) X.A (spliced (backTo pos (starEach es X.env))) (AP X pins σ Q) X.xe s
def wS (st : Stmt) : TS := fun D σ H => ∀ (pins : List (Addr × Obj)) (s : Shared), Inv X pins σ H s → wpAny (model X.prog X.w) X.A (exec st X.env) (SP X pins D) X.xe s
def wB (st : List Stmt) : TS := fun D σ H => ∀ (pins : List (Addr × Obj)) (s : Shared), Inv X pins σ H s → wpAny (model X.prog X.w) X.A (execs st X.env) (SP X pins D) X.xe s
def wG (tg : Expr) : TG := fun v σ H Q => ∀ (pins : List (Addr × Obj)) (s : Shared) (u : Value), Inv X pins σ H s → RelV v u → wpAny (model X.prog X.w) X.A (assign tg X.env u) (fun _ s' => ∃ σ' H', Inv X pins σ' H' s' ∧ Q σ' H') X.xe s
end
section
variable {X : Cx}
theorem pe_w {e : Expr} : PE X e (wE X e) := ⟨fun pins s _ _ _ I h => h pins s I⟩
theorem pt_w {e : Expr} : PT X e (wT X e) := ⟨fun pins s _ _ _ I h => h pins s I⟩
theorem pa_w {es : List Expr} : PA X es (wA X es) := ⟨fun pos pins s _ _ _ I h => h pos pins s I⟩
theorem ps_w {st : Stmt} : PS X st (wS X st) := ⟨fun pins s _ _ _ I h => h pins s I⟩
theorem pb_w {st : List Stmt} : PSs X st (wB X st) := ⟨fun pins s _ _ _ I h => h pins s I⟩
theorem pg_w {tg : Expr} : PG X tg (wG X tg) := ⟨fun pins s _ _ _ u _ I r h => h pins s u I r⟩
theorem we_of {e : Expr} {t : TE} (h : PE X e t) {σ : St} {H : Hp} {Q : VK} (q : t σ H Q) : wE X e σ H Q := fun pins s I => h.run pins s σ H Q I q
theorem wt_of {e : Expr} {t : TT} (h : PT X e t) {σ : St} {H : Hp} {Q : Bool → Hp → Prop} (q : t σ H Q) : wT X e σ H Q := fun pins s I => h.run pins s σ H Q I q
theorem wa_of {es : List Expr} {t : TA} (h : PA X es t) {σ : St} {H : Hp} {Q : List V → Hp → Prop} (q : t σ H Q) : wA X es σ H Q := fun pos pins s I => h.run pos pins s σ H Q I q
theorem ws_of {st : Stmt} {t : TS} (h : PS X st t) {D : Ends} {σ : St} {H : Hp} (q : t D σ H) : wS X st D σ H := fun pins s I => h.run pins s σ H D I q
theorem wb_of {st : List Stmt} {t : TS} (h : PSs X st t) {D : Ends} {σ : St} {H : Hp} (q : t D σ H) : wB X st D σ H := fun pins s I => h.run pins s σ H D I q
theorem wg_of {tg : Expr} {t : TG} (h : PG X tg t) {v : V} {σ : St} {H : Hp} {Q : St → Hp → Prop} (q : t v σ H Q) : wG X tg v σ H Q := fun pins s u I r => h.run pins s σ H v u Q I r q
end

/-! ### the judgements -/
def EE (T : List Addr) (X : Cx) (e : Expr) (γ : List SV) (d : D) : Prop :=
  ∀ (σ : St) (G H : Hp) (Q : VK), WF T G H → EnvR X.prog X.w G σ γ → (∀ v G' H', Ext T [] G H G' H' → DR X.prog X.w G' v d → Q v H') → wE X e σ H Q
def ET (T : List Addr) (X : Cx) (e : Expr) (γ : List SV) (b : Bool) : Prop :=
  ∀ (σ : St) (G H : Hp) (Q : Bool → Hp → Prop), WF T G H → EnvR X.prog X.w G σ γ → (∀ G' H', Ext T [] G H G' H' → Q b H') → wT X e σ H Q
def EA (T : List Addr) (X : Cx) (es : List Expr) (γ : List SV) (ds : List D) : Prop :=
  ∀ (σ : St) (G H : Hp) (Q : List V → Hp → Prop), WF T G H → EnvR X.prog X.w G σ γ → (∀ vs G' H', Ext T [] G H G' H' → DRs X.prog X.w G' vs ds → Q vs H') → wA X es σ H Q

/-! ### what a value must be -/
section
variable {P : Program} {w : World} {G : Hp} {v : V}
theorem dr_int {i : Int} (h : DR P w G v (.int i)) : v = .int i := by cases h; rfl
theorem dr_bl {i : Bool} (h : DR P w G v (.bl i)) : v = .bl i := by cases h; rfl
theorem dr_str {i : Str} (h : DR P w G v (.str i)) : v = .str i := by cases h; rfl
theorem dr_non (h : DR P w G v .non) : v = .non := by cases h; rfl
theorem dr_lst {ds : List D} (h : DR P w G v (.lst ds)) : ∃ a xs, v = .ref a ∧ G a = some (.lst xs) ∧ DRs P w G xs ds := by cases h with | lst h1 h2 => exact ⟨_, _, rfl, h1, h2⟩
theorem dr_tup {ds : List D} (h : DR P w G v (.tup ds)) : ∃ a xs, v = .ref a ∧ G a = some (.tup xs) ∧ DRs P w G xs ds := by cases h with | tup h1 h2 => exact ⟨_, _, rfl, h1, h2⟩
theorem dr_obj {C : Addr} {ns : List Str} {ds : List D} (h : DR P w G v (.obj C ns ds)) : ∃ a dx fs, v = .ref a ∧ G a = some (.ins C dx fs) ∧ ns = fs.map (·.1) ∧ DRs P w G (fs.map (·.2)) ds := by
  cases h with
  | obj h1 h2 => exact ⟨_, _, _, rfl, h1, rfl, h2⟩
theorem dr_dic {ks : List NestedKey} {ds : List D} (h : DR P w G v (.dic ks ds)) : ∃ a o xs vs, v = .ref a ∧ G a = some (objHO a o) ∧ DicOk P w G a o xs ∧ ks = xs.map (·.1) ∧ Vals vs (xs.map (·.2.2)) ∧ DRs P w G vs ds := by
  cases h with
  | dic h1 h2 h3 h4 => exact ⟨_, _, _, _, rfl, h1, h2, rfl, h3, h4⟩
theorem drs_ints : ∀ {vs : List V} {ns : List Int}, DRs P w G vs (ns.map .int) → vs = ns.map V.int
  | _, [], h => by cases h; rfl
  | _, n :: ns, h => by
    cases h with
    | cons h1 h2 => rw [dr_int h1, drs_ints h2]; rfl
theorem drs_bls : ∀ {vs : List V} {ns : List Bool}, DRs P w G vs (ns.map .bl) → vs = ns.map V.bl
  | _, [], h => by cases h; rfl
  | _, n :: ns, h => by
    cases h with
    | cons h1 h2 => rw [dr_bl h1, drs_bls h2]; rfl
theorem of_ints : ∀ {ns : List Int}, DRs P w G (ns.map V.int) (ns.map .int)
  | [] => .nil
  | n :: ns => .cons (.int n) of_ints
end
def isNon : D → Bool
  | .non => true
  | _ => false
theorem isNon_of {P : Program} {w : World} {G : Hp} {v : V} {d : D} (h : DR P w G v d) : decide (v = .non) = isNon d := by
  cases h <;> rfl

section
variable {T : List Addr} {X : Cx} {γ : List SV} {a b e : Expr} {es : List Expr} {pos : Pos}

/-! ### names, constants -/
theorem ee_var {x : Str} {d : D} (i : Nat) (hγ : γ[i]? = some (.dat d) := by rfl) (hN : X.N[i]? = some x := by rfl) (hv : Vis X.env.scope x := by first | exact Or.inl rfl | exact Or.inr (Or.inl rfl) | exact Or.inr (Or.inr rfl)) (hd : (x == ("__debug__" : Str)) = false := by decide)
    (hcd : (x == ("__classdict__" : Str)) = false := by decide) : EE T X (.Name x pos) γ d := fun σ G H Q wf env k => by
  obtain ⟨v, e, r⟩ := env.dat i d hγ
  exact we_of (pe_var hN hv hd hcd) ⟨v, e, k v G H (Ext.refl wf) r⟩
theorem ee_int {i : Int} {j : Nat} : EE T X (.Constant (.int i) j pos) γ (.int i) := fun σ G H Q wf env k => we_of pe_int (k _ _ _ (Ext.refl wf) (.int i))
theorem ee_bl {i : Bool} {j : Nat} : EE T X (.Constant (.bool i) j pos) γ (.bl i) := fun σ G H Q wf env k => we_of pe_bl (k _ _ _ (Ext.refl wf) (.bl i))
theorem ee_non {j : Nat} : EE T X (.Constant .none j pos) γ .non := fun σ G H Q wf env k => we_of pe_non (k _ _ _ (Ext.refl wf) .non)
theorem ee_str {x : Str} {j : Nat} : EE T X (.Constant (.str x) j pos) γ (.str x) := fun σ G H Q wf env k => we_of pe_str (k _ _ _ (Ext.refl wf) (.str x))

/-! ### arguments, displays -/
theorem ea_nil : EA T X [] γ [] := fun σ G H Q wf env k => wa_of pa_nil (k _ _ _ (Ext.refl wf) .nil)
theorem ea_cons {d : D} {ds : List D} (h : EE T X e γ d) (hr : EA T X es γ ds) (hs : starEach (e :: es) X.env = (false, eval e X.env) :: starEach es X.env := by rfl) : EA T X (e :: es) γ (d :: ds) := fun σ G H Q wf env k =>
  wa_of (pa_cons pe_w pa_w hs) (h σ G H _ wf env fun v G1 H1 x1 r1 => hr σ G1 H1 _ x1.wf (env.up x1.g) fun vs G2 H2 x2 r2 => k _ G2 H2 (x1.tr x2) (.cons (r1.up x2.g) r2))
theorem dr_newL {P : Program} {w : World} {G H : Hp} {p : Addr} {vs : List V} {ds : List D} (wf : WF T G H) (hp : H p = none) (r : DRs P w G vs ds) : DR P w (upd G p (.lst vs)) (.ref p) (.lst ds) := .lst upd_same (r.up (Ext.newG wf hp).g)
theorem dr_newT {P : Program} {w : World} {G H : Hp} {p : Addr} {vs : List V} {ds : List D} (wf : WF T G H) (hp : H p = none) (r : DRs P w G vs ds) : DR P w (upd G p (.tup vs)) (.ref p) (.tup ds) := .tup upd_same (r.up (Ext.newG wf hp).g)
theorem ee_lst {ds : List D} (h : EA T X es γ ds) (hz : ds.length ≤ sizeLine) : EE T X (.List es pos) γ (.lst ds) := fun σ G H Q wf env k =>
  we_of (pe_lst pa_w) (h σ G H _ wf env fun vs G1 H1 x1 r1 => ⟨by rw [r1.length]; exact hz, fun p hp => k _ _ _ (x1.tr (Ext.newG x1.wf hp)) (dr_newL x1.wf hp r1)⟩)
theorem ee_tup {ds : List D} {x1 : Nat} (h : EA T X es γ ds) (hz : ds.length ≤ sizeLine) : EE T X (.Tuple es x1 pos) γ (.tup ds) := fun σ G H Q wf env k =>
  we_of (pe_tup pa_w) (h σ G H _ wf env fun vs G1 H1 x1 r1 => ⟨by rw [r1.length]; exact hz, fun p hp => k _ _ _ (x1.tr (Ext.newG x1.wf hp)) (dr_newT x1.wf hp r1)⟩)

/-! ### operators -/
theorem ee_op {op : Operator} {r : R2} {x y z : D} (ho : OpR X (binaryOp op) r) (ha : EE T X a γ x) (hb : EE T X b γ y)
    (hr : ∀ v u G H (Q : VK), WF T G H → DR X.prog X.w G v x → DR X.prog X.w G u y → (∀ v' G' H', Ext T [] G H G' H' → DR X.prog X.w G' v' z → Q v' H') → r v u H Q) : EE T X (.BinOp a op b pos) γ z := fun σ G H Q wf env k =>
  we_of (pe_op ho pe_w pe_w) (ha σ G H _ wf env fun v G1 H1 x1 r1 => hb σ G1 H1 _ x1.wf (env.up x1.g) fun u G2 H2 x2 r2 => hr v u G2 H2 Q x2.wf (r1.up x2.g) r2 fun v' G3 H3 x3 r3 => k v' G3 H3 ((x1.tr x2).tr x3) r3)
theorem ee_opI {op : Operator} {f : Int → Int → Int} {i j : Int} (ho : OpR X (binaryOp op) (rI0 fun i j => .int (f i j))) (ha : EE T X a γ (.int i)) (hb : EE T X b γ (.int j)) : EE T X (.BinOp a op b pos) γ (.int (f i j)) :=
  ee_op ho ha hb fun v u G H Q wf r1 r2 k => ⟨i, j, dr_int r1, dr_int r2, k _ _ _ (Ext.refl wf) (.int _)⟩
theorem ee_opC {op : Operator} {C : Int → Int → Prop} {f : Int → Int → Int} {i j : Int} (ho : OpR X (binaryOp op) (rI C fun i j => .int (f i j))) (hc : C i j) (ha : EE T X a γ (.int i)) (hb : EE T X b γ (.int j)) : EE T X (.BinOp a op b pos) γ (.int (f i j)) :=
  ee_op ho ha hb fun v u G H Q wf r1 r2 k => ⟨i, j, dr_int r1, dr_int r2, hc, k _ _ _ (Ext.refl wf) (.int _)⟩
theorem ee_add {i j : Int} (ha : EE T X a γ (.int i)) (hb : EE T X b γ (.int j)) : EE T X (.BinOp a .Add b pos) γ (.int (i + j)) := ee_opI op_add ha hb
theorem ee_sub {i j : Int} (ha : EE T X a γ (.int i)) (hb : EE T X b γ (.int j)) : EE T X (.BinOp a .Sub b pos) γ (.int (i - j)) := ee_opI op_sub ha hb
theorem ee_mul {i j : Int} (ha : EE T X a γ (.int i)) (hb : EE T X b γ (.int j)) (hc : CMul i j) : EE T X (.BinOp a .Mult b pos) γ (.int (i * j)) := ee_opC op_mul hc ha hb
theorem ee_mod {i j : Int} (ha : EE T X a γ (.int i)) (hb : EE T X b γ (.int j)) (hc : 0 < j) : EE T X (.BinOp a .Mod b pos) γ (.int (i % j)) := ee_opC op_mod hc ha hb
theorem ee_fdiv {i j : Int} (ha : EE T X a γ (.int i)) (hb : EE T X b γ (.int j)) (hc : CDiv i j) : EE T X (.BinOp a .FloorDiv b pos) γ (.int (i / j)) := ee_opC op_fdiv hc ha hb
theorem ee_pow {i j : Int} (ha : EE T X a γ (.int i)) (hb : EE T X b γ (.int j)) (hc : CPow i j) : EE T X (.BinOp a .Pow b pos) γ (.int (i ^ j.toNat)) := ee_opC op_pow hc ha hb
theorem ee_cat {xs ys : List D} (ha : EE T X a γ (.lst xs)) (hb : EE T X b γ (.lst ys)) (hz : xs.length + ys.length ≤ sizeLine) : EE T X (.BinOp a .Add b pos) γ (.lst (xs ++ ys)) :=
  ee_op op_cat ha hb fun v u G H Q wf r1 r2 k => by
    obtain ⟨l, vs, rfl, g1, q1⟩ := dr_lst r1
    obtain ⟨m, us, rfl, g2, q2⟩ := dr_lst r2
    exact ⟨l, m, vs, us, rfl, rfl, wf.sub _ _ g1, wf.sub _ _ g2, by rw [q1.length, q2.length]; exact hz, fun p hp => k _ _ _ (Ext.newG wf hp) (dr_newL wf hp (q1.append q2))⟩
theorem ee_neg {i : Int} (ha : EE T X a γ (.int i)) : EE T X (.UnaryOp .USub a pos) γ (.int (-i)) := fun σ G H Q wf env k =>
  we_of (pe_un un_neg pe_w) (ha σ G H _ wf env fun v G1 H1 x1 r1 => ⟨i, dr_int r1, k _ _ _ x1 (.int _)⟩)

/-! ### comparisons -/
theorem ee_cmp {op : CmpOp} {r : R2} {x y z : D} (ho : OpR X (compareOp op) r) (ha : EE T X a γ x) (hb : EE T X b γ y) (hm : behindInMarks op b = false)
    (hr : ∀ v u G H (Q : VK), WF T G H → DR X.prog X.w G v x → DR X.prog X.w G u y → (∀ v' G' H', Ext T [] G H G' H' → DR X.prog X.w G' v' z → Q v' H') → r v u H Q) : EE T X (.Compare a [op] [b] pos) γ z := fun σ G H Q wf env k =>
  we_of (pe_cmpR ho pe_w pe_w hm) (ha σ G H _ wf env fun v G1 H1 x1 r1 => hb σ G1 H1 _ x1.wf (env.up x1.g) fun u G2 H2 x2 r2 => hr v u G2 H2 Q x2.wf (r1.up x2.g) r2 fun v' G3 H3 x3 r3 => k v' G3 H3 ((x1.tr x2).tr x3) r3)
theorem et_cmp {op : CmpOp} {r : R2} {x y : D} {z : Bool} (ho : OpR X (compareOp op) r) (ha : EE T X a γ x) (hb : EE T X b γ y) (hm : behindInMarks op b = false)
    (hr : ∀ v u G H (Q : VK), WF T G H → DR X.prog X.w G v x → DR X.prog X.w G u y → (∀ G' H', Ext T [] G H G' H' → Q (.bl z) H') → r v u H Q) : ET T X (.Compare a [op] [b] pos) γ z := fun σ G H Q wf env k =>
  wt_of (pt_cmpR ho pe_w pe_w hm) (ha σ G H _ wf env fun v G1 H1 x1 r1 => hb σ G1 H1 _ x1.wf (env.up x1.g) fun u G2 H2 x2 r2 => hr v u G2 H2 _ x2.wf (r1.up x2.g) r2 fun G3 H3 x3 => ⟨z, rfl, k G3 H3 ((x1.tr x2).tr x3)⟩)
/-- the comparison of two values that are known -/
def CmpD (T : List Addr) (X : Cx) (op : CmpOp) (x y : D) (z : Bool) : Prop :=
  ∃ r : R2, OpR X (compareOp op) r ∧ ∀ v u G H (Q : VK), WF T G H → DR X.prog X.w G v x → DR X.prog X.w G u y → (∀ G' H', Ext T [] G H G' H' → Q (.bl z) H') → r v u H Q
theorem ee_c {op : CmpOp} {x y : D} {z : Bool} (h : CmpD T X op x y z) (ha : EE T X a γ x) (hb : EE T X b γ y) (hm : behindInMarks op b = false := by first | exact nomark _ (by decide) (by decide) | rfl) : EE T X (.Compare a [op] [b] pos) γ (.bl z) := by
  obtain ⟨r, ho, hr⟩ := h
  exact ee_cmp ho ha hb hm fun v u G H Q wf r1 r2 k => hr v u G H Q wf r1 r2 fun G' H' x => k _ G' H' x (.bl z)
theorem et_c {op : CmpOp} {x y : D} {z : Bool} (h : CmpD T X op x y z) (ha : EE T X a γ x) (hb : EE T X b γ y) (hm : behindInMarks op b = false := by first | exact nomark _ (by decide) (by decide) | rfl) : ET T X (.Compare a [op] [b] pos) γ z := by
  obtain ⟨r, ho, hr⟩ := h
  exact et_cmp ho ha hb hm hr
theorem c_lt {i j : Int} : CmpD T X .Lt (.int i) (.int j) (decide (i < j)) := ⟨_, op_lt, fun v u G H Q wf r1 r2 k => ⟨i, j, dr_int r1, dr_int r2, k _ _ (Ext.refl wf)⟩⟩
theorem c_le {i j : Int} : CmpD T X .LtE (.int i) (.int j) (decide (i ≤ j)) := ⟨_, op_le, fun v u G H Q wf r1 r2 k => ⟨i, j, dr_int r1, dr_int r2, k _ _ (Ext.refl wf)⟩⟩
theorem c_gt {i j : Int} : CmpD T X .Gt (.int i) (.int j) (decide (j < i)) := ⟨_, op_gt, fun v u G H Q wf r1 r2 k => ⟨i, j, dr_int r1, dr_int r2, k _ _ (Ext.refl wf)⟩⟩
theorem c_ge {i j : Int} : CmpD T X .GtE (.int i) (.int j) (decide (j ≤ i)) := ⟨_, op_ge, fun v u G H Q wf r1 r2 k => ⟨i, j, dr_int r1, dr_int r2, k _ _ (Ext.refl wf)⟩⟩
theorem dec_int' {i j : Int} : decide (V.int i = V.int j) = decide (i = j) := by
  rw [dec_int, Bool.beq_eq_decide_eq]
theorem dec_str' {i j : Str} : decide (V.str i = V.str j) = decide (i = j) := by
  rw [dec_str, Bool.beq_eq_decide_eq]
theorem c_eq {i j : Int} : CmpD T X .Eq (.int i) (.int j) (decide (i = j)) := ⟨_, op_eq, fun v u G H Q wf r1 r2 k => by
  rw [dr_int r1, dr_int r2]
  exact ⟨rfl, by rw [dec_int']; exact k _ _ (Ext.refl wf)⟩⟩
theorem c_ne {i j : Int} : CmpD T X .NotEq (.int i) (.int j) (!decide (i = j)) := ⟨_, op_ne, fun v u G H Q wf r1 r2 k => by
  rw [dr_int r1, dr_int r2]
  exact ⟨rfl, by rw [dec_int']; exact k _ _ (Ext.refl wf)⟩⟩
theorem c_eqS {i j : Str} : CmpD T X .Eq (.str i) (.str j) (decide (i = j)) := ⟨_, op_eq, fun v u G H Q wf r1 r2 k => by
  rw [dr_str r1, dr_str r2]
  exact ⟨rfl, by rw [dec_str']; exact k _ _ (Ext.refl wf)⟩⟩
theorem c_isB {i j : Bool} : CmpD T X .Is (.bl i) (.bl j) (decide (i = j)) := ⟨_, op_isBl, fun v u G H Q wf r1 r2 k => ⟨i, j, dr_bl r1, dr_bl r2, k _ _ (Ext.refl wf)⟩⟩
theorem c_isN {x : D} : CmpD T X .Is x .non (isNon x) := ⟨_, op_isN, fun v u G H Q wf r1 r2 k => ⟨dr_non r2, by rw [isNon_of r1]; exact k _ _ (Ext.refl wf)⟩⟩
theorem c_notN {x : D} : CmpD T X .IsNot x .non (!isNon x) := ⟨_, op_notN, fun v u G H Q wf r1 r2 k => ⟨dr_non r2, by rw [isNon_of r1]; exact k _ _ (Ext.refl wf)⟩⟩
theorem flat_ints (ns : List Int) : (ns.map V.int).all flatV = true := by
  rw [List.all_eq_true]
  intro x hx
  obtain ⟨n, _, rfl⟩ := List.mem_map.mp hx
  rfl
theorem inV_ints (i : Int) (ns : List Int) : inV (.int i) (ns.map V.int) = decide (i ∈ ns) := by
  induction ns with
  | nil => rfl
  | cons n ns ih =>
    have e : inV (.int i) ((n :: ns).map V.int) = (eqV (.int n) (.int i) || inV (.int i) (ns.map V.int)) := rfl
    rw [e, ih]
    have e2 : eqV (.int n) (.int i) = (n == i) := rfl
    rw [e2]
    by_cases h : n = i
    · subst h; simp
    · have h' : ¬ i = n := fun z => h z.symm
      simp [h, h']
theorem c_inI {i : Int} {ns : List Int} : CmpD T X .In (.int i) (.lst (ns.map .int)) (decide (i ∈ ns)) := ⟨_, op_in_seq, fun v u G H Q wf r1 r2 k => by
  obtain ⟨l, vs, rfl, g1, q1⟩ := dr_lst r2
  rw [dr_int r1]
  have e := drs_ints q1
  subst e
  exact ⟨l, _, rfl, .inl (SqL.of (wf.sub _ _ g1)), rfl, flat_ints ns, by rw [inV_ints]; exact k _ _ (Ext.refl wf)⟩⟩
theorem c_notInI {i : Int} {ns : List Int} : CmpD T X .NotIn (.int i) (.lst (ns.map .int)) (!decide (i ∈ ns)) := ⟨_, op_notIn_seq, fun v u G H Q wf r1 r2 k => by
  obtain ⟨l, vs, rfl, g1, q1⟩ := dr_lst r2
  rw [dr_int r1]
  have e := drs_ints q1
  subst e
  exact ⟨l, _, rfl, .inl (SqL.of (wf.sub _ _ g1)), rfl, flat_ints ns, by rw [inV_ints]; exact k _ _ (Ext.refl wf)⟩⟩

/-! ### and, or, not -/
theorem et_ee {b1 : Bool} (h : EE T X e γ (.bl b1)) (he : ∀ whole, isTrue e X.env whole = (do let v ← whole; standAt e.pos; holding [v] (truthy v)) := by intro _; rfl) : ET T X e γ b1 := fun σ G H Q wf env k =>
  wt_of (pt_val pe_w he) (h σ G H _ wf env fun v G1 H1 x1 r1 => ⟨b1, dr_bl r1, k _ _ x1⟩)
theorem et_not {b1 : Bool} (h : ET T X a γ b1) : ET T X (.UnaryOp .Not a pos) γ (!b1) := fun σ G H Q wf env k => wt_of (pt_not pt_w) (h σ G H _ wf env fun G1 H1 x1 => k _ _ x1)
theorem et_and {b1 b2 : Bool} (ha : ET T X a γ b1) (hb : b1 = true → ET T X b γ b2) : ET T X (.BoolOp .And [a, b] pos) γ (b1 && b2) := fun σ G H Q wf env k =>
  wt_of (PW.pt (pw_and pt_w (pw_and1 pt_w))) (ha σ G H _ wf env fun G1 H1 x1 => by
    cases b1 with
    | true => exact hb rfl σ G1 H1 _ x1.wf (env.up x1.g) fun G2 H2 x2 => k _ _ (x1.tr x2)
    | false => exact k _ _ x1)
theorem et_or {b1 b2 : Bool} (ha : ET T X a γ b1) (hb : b1 = false → ET T X b γ b2) : ET T X (.BoolOp .Or [a, b] pos) γ (b1 || b2) := fun σ G H Q wf env k =>
  wt_of (PW.pt (pw_or pt_w (pw_or1 pt_w))) (ha σ G H _ wf env fun G1 H1 x1 => by
    cases b1 with
    | false => exact hb rfl σ G1 H1 _ x1.wf (env.up x1.g) fun G2 H2 x2 => k _ _ (x1.tr x2)
    | true => exact k _ _ x1)
theorem et_or3 {c : Expr} {b1 b2 b3 : Bool} (ha : ET T X a γ b1) (hb : b1 = false → ET T X b γ b2) (hc : b1 = false → b2 = false → ET T X c γ b3) : ET T X (.BoolOp .Or [a, b, c] pos) γ (b1 || (b2 || b3)) := fun σ G H Q wf env k =>
  wt_of (PW.pt (pw_or pt_w (pw_or (pos := pos) pt_w (pw_or1 pt_w)))) (ha σ G H _ wf env fun G1 H1 x1 => by
    cases b1 with
    | false =>
      refine hb rfl σ G1 H1 _ x1.wf (env.up x1.g) fun G2 H2 x2 => ?_
      cases b2 with
      | false => exact hc rfl rfl σ G2 H2 _ x2.wf (env.up (fun b o z => x2.g _ _ (x1.g b o z))) fun G3 H3 x3 => k _ _ ((x1.tr x2).tr x3)
      | true => exact k _ _ (x1.tr x2)
    | true => exact k _ _ x1)
theorem ee_and {b1 b2 : Bool} (ha : EE T X a γ (.bl b1)) (hb : b1 = true → EE T X b γ (.bl b2)) : EE T X (.BoolOp .And [a, b] pos) γ (.bl (b1 && b2)) := fun σ G H Q wf env k =>
  we_of (pe_and pe_w (pe_one (pos := pos) pe_w)) (ha σ G H _ wf env fun v G1 H1 x1 r1 => ⟨b1, dr_bl r1, by
    cases b1 with
    | true => exact hb rfl σ G1 H1 _ x1.wf (env.up x1.g) fun u G2 H2 x2 r2 => k _ _ _ (x1.tr x2) r2
    | false => exact k _ _ _ x1 (.bl false)⟩)
theorem ee_or {b1 b2 : Bool} (ha : EE T X a γ (.bl b1)) (hb : b1 = false → EE T X b γ (.bl b2)) : EE T X (.BoolOp .Or [a, b] pos) γ (.bl (b1 || b2)) := fun σ G H Q wf env k =>
  we_of (pe_or pe_w (pe_one (pos := pos) pe_w)) (ha σ G H _ wf env fun v G1 H1 x1 r1 => ⟨b1, dr_bl r1, by
    cases b1 with
    | false => exact hb rfl σ G1 H1 _ x1.wf (env.up x1.g) fun u G2 H2 x2 r2 => k _ _ _ (x1.tr x2) r2
    | true => exact k _ _ _ x1 (.bl true)⟩)
/-- i <= j < k -/
theorem et_chain {op op' : CmpOp} {c : Expr} {r r' : R2} {x y z : D} {b1 b2 : Bool} (h1 : CmpD T X op x y b1) (h2 : CmpD T X op' y z b2) (ha : EE T X a γ x) (hb : EE T X b γ y) (hc : EE T X c γ z)
    (hm : lastMarks [op, op'] [b, c] = false := by with_unfolding_all rfl) : ET T X (.Compare a [op, op'] [b, c] pos) γ (b1 && b2) := fun σ G H Q wf env k => by
  obtain ⟨r1, ho1, k1⟩ := h1
  obtain ⟨r2, ho2, k2⟩ := h2
  refine wt_of (pt_chain ho1 ho2 pe_w pe_w pe_w hm) (ha σ G H _ wf env fun v G1 H1 x1 q1 => hb σ G1 H1 _ x1.wf (env.up x1.g) fun u G2 H2 x2 q2 => k1 v u G2 H2 _ x2.wf (q1.up x2.g) q2 fun G3 H3 x3 => ⟨b1, rfl, ?_⟩)
  have x13 := (x1.tr x2).tr x3
  cases b1 with
  | true => exact hc σ G3 H3 _ x13.wf (env.up x13.g) fun t G4 H4 x4 q4 => k2 u t G4 H4 _ x4.wf ((q2.up x3.g).up x4.g) q4 fun G5 H5 x5 => ⟨b2, rfl, k _ _ ((x13.tr x4).tr x5)⟩
  | false => exact ⟨false, rfl, k _ _ x13⟩
/-- the truth of a list -/
theorem et_lst {ds : List D} (h : EE T X a γ (.lst ds)) (he : ∀ whole, isTrue a X.env whole = (do let v ← whole; standAt a.pos; holding [v] (truthy v)) := by intro _; rfl) : ET T X a γ (!ds.isEmpty) := fun σ G H Q wf env k =>
  wt_of (pt_truth pe_w he) (h σ G H _ wf env fun v G1 H1 x1 r1 => by
    obtain ⟨l, vs, rfl, g1, q1⟩ := dr_lst r1
    have e : vs.isEmpty = ds.isEmpty := by
      have := q1.length
      cases vs <;> cases ds <;> simp at this ⊢
    exact ⟨!vs.isEmpty, .inl ⟨vs, SqL.of (x1.wf.sub _ _ g1), rfl⟩, by rw [e]; exact k _ _ x1⟩)

/-! ### items, slices, attributes -/
theorem ee_ixL {ds : List D} {i : Int} {d : D} (ha : EE T X a γ (.lst ds)) (hb : EE T X b γ (.int i)) (hi : atI ds i = some d) (hs : PlainIx b := by exact fun _ _ => rfl) : EE T X (.Subscript a b pos) γ d := fun σ G H Q wf env k =>
  we_of (pe_ix ix_list pe_w pe_w hs) (ha σ G H _ wf env fun v G1 H1 x1 r1 => hb σ G1 H1 _ x1.wf (env.up x1.g) fun u G2 H2 x2 r2 => by
    obtain ⟨l, vs, rfl, g1, q1⟩ := dr_lst r1
    have hl := q1.length
    unfold atI at hi
    rw [← hl] at hi
    cases e : ixN vs.length i with
    | none => rw [e] at hi; cases hi
    | some j =>
      rw [e] at hi
      obtain ⟨y, hy, ry⟩ := q1.get (i := j) hi
      exact ⟨l, vs, i, y, rfl, dr_int r2, SqL.of (x2.wf.sub _ _ (x2.g _ _ g1)), by unfold atI; rw [e]; exact hy, k _ _ _ (x1.tr x2) (ry.up x2.g)⟩)
theorem ee_ixT {ds : List D} {i : Int} {d : D} (ha : EE T X a γ (.tup ds)) (hb : EE T X b γ (.int i)) (hi : atI ds i = some d) (hs : PlainIx b := by exact fun _ _ => rfl) : EE T X (.Subscript a b pos) γ d := fun σ G H Q wf env k =>
  we_of (pe_ix ix_tup pe_w pe_w hs) (ha σ G H _ wf env fun v G1 H1 x1 r1 => hb σ G1 H1 _ x1.wf (env.up x1.g) fun u G2 H2 x2 r2 => by
    obtain ⟨l, vs, rfl, g1, q1⟩ := dr_tup r1
    have hl := q1.length
    unfold atI at hi
    rw [← hl] at hi
    cases e : ixN vs.length i with
    | none => rw [e] at hi; cases hi
    | some j =>
      rw [e] at hi
      obtain ⟨y, hy, ry⟩ := q1.get (i := j) hi
      exact ⟨l, vs, i, y, rfl, dr_int r2, SqT.of (x2.wf.sub _ _ (x2.g _ _ g1)), by unfold atI; rw [e]; exact hy, k _ _ _ (x1.tr x2) (ry.up x2.g)⟩)
theorem sIx_hi {n i : Nat} : HT.sIx n n (some (i : Int)) = min i n := HT.sIx_nat n n i
theorem sIx_lo {n i : Nat} : HT.sIx n 0 (some (i : Int)) = min i n := HT.sIx_nat n 0 i
theorem cut_hi (vs : List V) (i : Nat) : cutV vs none (some (i : Int)) = vs.take i := by
  unfold cutV
  rw [HT.sIx_none, sIx_hi]
  simp only [List.drop_zero, Nat.sub_zero]
  by_cases h : i ≤ vs.length
  · rw [Nat.min_eq_left h]
  · rw [Nat.min_eq_right (by omega), List.take_length, List.take_of_length_le (by omega)]
theorem cut_lo (vs : List V) (i : Nat) : cutV vs (some (i : Int)) none = vs.drop i := by
  unfold cutV
  rw [HT.sIx_none, sIx_lo]
  by_cases h : i ≤ vs.length
  · rw [Nat.min_eq_left h, List.take_of_length_le (by simp)]
  · rw [Nat.min_eq_right (by omega)]
    simp [List.drop_of_length_le (show vs.length ≤ i by omega)]
theorem ee_slHi {ds : List D} {j : Int} (i : Nat) {p2 : Pos} (ha : EE T X a γ (.lst ds)) (hb : EE T X b γ (.int j)) (hj : j = (i : Int)) : EE T X (.Subscript a (.Slice none (some b) none p2) pos) γ (.lst (ds.take i)) := fun σ G H Q wf env k =>
  we_of (pe_slice sl_list pe_w po_none (po_some pe_w)) (ha σ G H _ wf env fun v G1 H1 x1 r1 => hb σ G1 H1 _ x1.wf (env.up x1.g) fun u G2 H2 x2 r2 => by
    obtain ⟨l, vs, rfl, g1, q1⟩ := dr_lst r1
    refine ⟨(i : Int), by rw [dr_int r2, hj], l, vs, rfl, SqL.of (x2.wf.sub _ _ (x2.g _ _ g1)), fun p hp => ?_⟩
    rw [cut_hi]
    exact k _ _ _ ((x1.tr x2).tr (Ext.newG x2.wf hp)) (dr_newL x2.wf hp ((q1.up x2.g).take i)))
theorem ee_slLo {ds : List D} {j : Int} (i : Nat) {p2 : Pos} (ha : EE T X a γ (.lst ds)) (hb : EE T X b γ (.int j)) (hj : j = (i : Int)) : EE T X (.Subscript a (.Slice (some b) none none p2) pos) γ (.lst (ds.drop i)) := fun σ G H Q wf env k =>
  we_of (pe_slice sl_list pe_w (po_some pe_w) po_none) (ha σ G H _ wf env fun v G1 H1 x1 r1 => hb σ G1 H1 _ x1.wf (env.up x1.g) fun u G2 H2 x2 r2 => by
    obtain ⟨l, vs, rfl, g1, q1⟩ := dr_lst r1
    refine ⟨(i : Int), by rw [dr_int r2, hj], l, vs, rfl, SqL.of (x2.wf.sub _ _ (x2.g _ _ g1)), fun p hp => ?_⟩
    rw [cut_lo]
    exact k _ _ _ ((x1.tr x2).tr (Ext.newG x2.wf hp)) (dr_newL x2.wf hp ((q1.up x2.g).drop i)))
theorem lookup_fld {P : Program} {w : World} {G : Hp} {f : Str} {d : D} : ∀ {fs : List (Str × V)} {ds : List D}, DRs P w G (fs.map (·.2)) ds → ((fs.map (·.1)).zip ds).lookup f = some d → ∃ v, fs.lookup f = some v ∧ DR P w G v d
  | [], _, h, e => by simp at e
  | (g, x) :: fs, [], h, e => by cases h
  | (g, x) :: fs, y :: ds, h, e => by
    have h' : DRs P w G (x :: fs.map (·.2)) (y :: ds) := h
    cases h' with
    | cons h1 h2 =>
      have e' : ((g, y) :: (fs.map (·.1)).zip ds).lookup f = some d := e
      rw [List.lookup_cons] at e' ⊢
      cases q : f == g with
      | true =>
        rw [q] at e'
        have e2 : y = d := Option.some.inj e'
        subst e2
        exact ⟨x, rfl, h1⟩
      | false =>
        rw [q] at e'
        exact lookup_fld h2 e'
theorem ee_fld {C : Addr} {ns : List Str} {ds : List D} {d : D} {f : Str} (ha : EE T X a γ (.obj C ns ds)) (hc : Cls X.K C) (hn : NoAttr X.K C f) (hl : (ns.zip ds).lookup f = some d) (hb : attributeBase a f X.env (eval a X.env) = eval a X.env := by rfl) : EE T X (.Attribute a f pos) γ d := fun σ G H Q wf env k =>
  we_of (pe_fld pe_w hb) (ha σ G H _ wf env fun v G1 H1 x1 r1 => by
    obtain ⟨l, dx, fs, rfl, g1, rfl, q1⟩ := dr_obj r1
    obtain ⟨y, hy, ry⟩ := lookup_fld q1 hl
    exact ⟨l, C, dx, fs, y, rfl, x1.wf.sub _ _ g1, hc, hn, hy, k _ _ _ x1 ry⟩)
end
end HG

set_option Elab.async false
set_option linter.all false
set_option maxRecDepth 100000
set_option maxHeartbeats 4000000
/-! What is walked (Src), targets (GT), comprehensions, calls, statements. -/
namespace HG
open PySem L2

/-! ### what is walked -/
section
variable (X : Cx)
def wI (tg iter : Expr) : TI := fun σ H R => ∀ (pins : List (Addr × Obj)) (s : Shared), Inv X pins σ H s →
  wpAny (model X.prog X.w) X.A (eval iter X.env) (fun v s1 => wpAny (model X.prog X.w) X.A (pyIter v) (PIE X pins σ tg R) X.xe s1) X.xe s
end
section
variable {X : Cx}
theorem pi_w {tg iter : Expr} : PI X tg iter (wI X tg iter) := ⟨fun pins s _ _ _ I h => h pins s I⟩
theorem wi_of {tg iter : Expr} {t : TI} (h : PI X tg iter t) {σ : St} {H : Hp} {R : It → Hp → Prop} (q : t σ H R) : wI X tg iter σ H R := fun pins s I => h.run pins s σ H R I q
end
structure JOk (T : List Addr) (P : Program) (w : World) (J : It) (G1 : Hp) (ds : List D) : Prop where
  go : ∀ (i : Nat) (G H : Hp), WF T G H → Sub G1 G → i < ds.length → J.go i H
  stop : ∀ (i : Nat) (G H : Hp), WF T G H → Sub G1 G → ds.length ≤ i → J.stop i H
  yld : ∀ (i : Nat) (G H : Hp) (x : V) (H' : Hp) (d : D), WF T G H → Sub G1 G → ds[i]? = some d → J.yld i H x H' → ∃ G', Ext T [] G H G' H' ∧ DR P w G' x d
def Src (T : List Addr) (X : Cx) (tg iter : Expr) (γ : List SV) (ds : List D) : Prop :=
  ∀ (σ : St) (G H : Hp) (R : It → Hp → Prop), WF T G H → EnvR X.prog X.w G σ γ → (∀ J G' H', Ext T [] G H G' H' → JOk T X.prog X.w J G' ds → R J H') → wI X tg iter σ H R

section
variable {T : List Addr} {X : Cx} {γ : List SV} {tg a b e : Expr} {es : List Expr} {p pos : Pos}
theorem jok_list {P : Program} {w : World} {K : PySem.W.Frag} {G : Hp} {l : Addr} {xs : List V} {ds : List D} (h : G l = some (.lst xs)) (r : DRs P w G xs ds) : JOk T P w (Itl K l) G ds := by
  have hl := r.length
  refine ⟨fun i G' H' wf g hi => ⟨xs, xs[i]'(by omega), SqL.of (wf.sub _ _ (g _ _ h)), by simp⟩, fun i G' H' wf g hi => ⟨xs, SqL.of (wf.sub _ _ (g _ _ h)), by omega⟩, fun i G' H' x H2 d wf g hd y => ?_⟩
  obtain ⟨rfl, y⟩ := y
  have hx := y xs (SqL.of (wf.sub _ _ (g _ _ h)))
  obtain ⟨v, hv, rv⟩ := r.get hd
  rw [hx] at hv
  cases hv
  exact ⟨G', Ext.refl wf, rv.up g⟩
theorem src_lst {ds : List D} (h : EE T X a γ (.lst ds)) : Src T X tg a γ ds := fun σ G H R wf env k =>
  wi_of (pi_list pe_w) (h σ G H _ wf env fun v G1 H1 x1 r1 => by
    obtain ⟨l, vs, rfl, g1, q1⟩ := dr_lst r1
    exact ⟨l, rfl, ⟨vs, SqL.of (x1.wf.sub _ _ g1)⟩, k _ G1 H1 x1 (jok_list g1 q1)⟩)
theorem jok_zip {P : Program} {w : World} {K : PySem.W.Frag} {G : Hp} {l m : Addr} {xs ys : List V} {ds es : List D} (h : G l = some (.lst xs)) (r : DRs P w G xs ds) (h2 : G m = some (.lst ys)) (r2 : DRs P w G ys es) :
    JOk T P w (Itz K l m) G (List.zipWith (fun x y => .tup [x, y]) ds es) := by
  have hl := r.length
  have hl2 := r2.length
  refine ⟨fun i G' H' wf g hi => ?_, fun i G' H' wf g hi => ?_, fun i G' H' x H2 d wf g hd y => ?_⟩
  · rw [List.length_zipWith] at hi
    exact ⟨xs, ys, xs[i]'(by omega), ys[i]'(by omega), SqL.of (wf.sub _ _ (g _ _ h)), SqL.of (wf.sub _ _ (g _ _ h2)), by simp, by simp⟩
  · rw [List.length_zipWith] at hi
    refine ⟨xs, ys, SqL.of (wf.sub _ _ (g _ _ h)), SqL.of (wf.sub _ _ (g _ _ h2)), ?_⟩
    omega
  · obtain ⟨t, u, v, rfl, hn, rfl, y1, y2⟩ := y
    have hx := y1 xs (SqL.of (wf.sub _ _ (g _ _ h)))
    have hy := y2 ys (SqL.of (wf.sub _ _ (g _ _ h2)))
    rw [List.getElem?_zipWith] at hd
    obtain ⟨d1, e1, q1⟩ := r.getV hx
    obtain ⟨d2, e2, q2⟩ := r2.getV hy
    rw [e1, e2] at hd
    simp only [Option.some.injEq] at hd
    subst hd
    exact ⟨_, Ext.newG wf hn, dr_newT wf hn (.cons (q1.up g) (.cons (q2.up g) .nil))⟩
theorem src_zip {ds ds2 : List D} {elts : List Expr} {kk : Nat} {tpos : Pos} (hab : EA T X [a, b] γ [.lst ds, .lst ds2]) (hm : X.mg "zip" = none) (hg : Gl X "zip" := by rfl)
    (hs : starEach [a, b] X.env = (false, eval a X.env) :: starEach [b] X.env := by rfl) (hpl : (backTo pos (starEach [b] X.env)).any (·.1) = false := by rfl) :
    Src T X (.Tuple elts kk tpos) (.Call (.Name "zip" p) [a, b] [] pos) γ (List.zipWith (fun x y => .tup [x, y]) ds ds2) := fun σ G H R wf env k =>
  wi_of (pi_zip hg hm pa_w hs hpl) (hab σ G H _ wf env fun vs G1 H1 x1 r1 => by
    cases r1 with
    | cons r1 r2 =>
      cases r2 with
      | cons r2 r3 =>
        cases r3
        obtain ⟨l, xs, rfl, g1, q1⟩ := dr_lst r1
        obtain ⟨m, ys, rfl, g2, q2⟩ := dr_lst r2
        exact ⟨l, m, xs, ys, rfl, SqL.of (x1.wf.sub _ _ g1), SqL.of (x1.wf.sub _ _ g2), k _ G1 H1 x1 (jok_zip g1 q1 g2 q2)⟩)
/-- lo, lo + 1, .. below hi -/
def rngI (lo hi : Int) : List Int := (List.range (hi - lo).toNat).map fun (i : Nat) => lo + (i : Int)
theorem jok_rng {P : Program} {w : World} {G : Hp} {lo hi : Int} : JOk T P w (Itr lo (hi - lo).toNat) G ((rngI lo hi).map .int) := by
  have hl : ((rngI lo hi).map D.int).length = (hi - lo).toNat := by unfold rngI; rw [List.length_map, List.length_map, List.length_range]
  refine ⟨fun i G' H' wf g h => ?_, fun i G' H' wf g h => ?_, fun i G' H' x H2 d wf g hd y => ?_⟩
  · rw [hl] at h; exact h
  · rw [hl] at h; exact h
  · obtain ⟨rfl, rfl⟩ := y
    have hi := (List.getElem?_eq_some_iff.mp hd).1
    rw [hl] at hi
    unfold rngI at hd
    rw [List.getElem?_map, List.getElem?_map, List.getElem?_range hi] at hd
    simp only [Option.map_some, Option.some.injEq] at hd
    subst hd
    exact ⟨G', Ext.refl wf, .int _⟩
theorem src_rng1 {j : Int} (ha : EA T X [a] γ [.int j]) (hm : X.mg "range" = none) (h1 : -(2 ^ 62) ≤ j) (h2 : j < 2 ^ 62) (hg : Gl X "range" := by rfl) (hs : starEach [a] X.env = [(false, eval a X.env)] := by rfl) : Src T X tg (.Call (.Name "range" p) [a] [] pos) γ ((rngI 0 j).map .int) := fun σ G H R wf env k =>
  wi_of (pi_range1 hg hm pa_w hs) (ha σ G H _ wf env fun vs G1 H1 x1 r1 => by
    cases r1 with
    | cons r1 r2 =>
      cases r2
      rw [dr_int r1]
      refine ⟨j, rfl, h1, h2, k _ G1 H1 x1 ?_⟩
      have e : j.toNat = (j - 0).toNat := by simp
      rw [e]
      exact jok_rng)
theorem src_rng2 {i j : Int} (ha : EA T X [a, b] γ [.int i, .int j]) (hm : X.mg "range" = none) (h : -(2 ^ 62) ≤ i ∧ i < 2 ^ 62 ∧ -(2 ^ 62) ≤ j ∧ j < 2 ^ 62) (hg : Gl X "range" := by rfl)
    (hs : starEach [a, b] X.env = [(false, eval a X.env), (false, eval b X.env)] := by rfl) (hs2 : starEach [b] X.env = [(false, eval b X.env)] := by rfl) : Src T X tg (.Call (.Name "range" p) [a, b] [] pos) γ ((rngI i j).map .int) := fun σ G H R wf env k =>
  wi_of (pi_range2 hg hm pa_w hs hs2) (ha σ G H _ wf env fun vs G1 H1 x1 r1 => by
    cases r1 with
    | cons r1 r2 =>
      cases r2 with
      | cons r2 r3 =>
        cases r3
        rw [dr_int r1, dr_int r2]
        exact ⟨i, j, rfl, h, k _ G1 H1 x1 jok_rng⟩)

/-! ### a dict's keys -/
mutual
def kd : NestedKey → D
  | .none => .non
  | .num i => .int i
  | .text x => .str x
  | .tup ks => .tup (kds ks)
def kds : List NestedKey → List D
  | [] => []
  | k :: ks => kd k :: kds ks
end
mutual
theorem KR.dr {P : Program} {w : World} {G : Hp} : ∀ (k : NestedKey) (v : V), KR G v k → DR P w G v (kd k)
  | .num i, _, h => by cases h; exact .int i
  | .none, _, h => by cases h
  | .text _, _, h => by cases h
  | .tup ks, _, h => by
    cases h with
    | tup h1 h2 => exact .tup h1 (KRs.dr ks _ h2)
theorem KRs.dr {P : Program} {w : World} {G : Hp} : ∀ (ks : List NestedKey) (vs : List V), KRs G vs ks → DRs P w G vs (kds ks)
  | [], _, h => by cases h; exact .nil
  | k :: ks, _, h => by
    cases h with
    | cons h1 h2 => exact .cons (KR.dr k _ h1) (KRs.dr ks _ h2)
end
/-- the keys of the dict o at d, as they stand -/
def Itn (G1 : Hp) (d : Addr) (o : Obj) (xs : List (NestedKey × Addr × Value)) : It :=
  ⟨fun i H => H d = some (objHO d o) ∧ i < xs.length, fun i H x H' => H' = H ∧ ∃ y, xs[i]? = some y ∧ x = .ref y.2.1, fun i H => H d = some (objHO d o) ∧ xs.length ≤ i⟩
theorem obj_at {P : Program} {w : World} {H : Hp} {h : Heap} {d : Addr} {o : Obj} (ok : HOk P w H h) (e : H d = some (objHO d o)) : h.get? d = some o := by
  have x := ok d _ e
  exact x.1
theorem turn_nkeys {P : Program} {w : World} {K : PySem.W.Frag} {d it : Addr} {o : Obj} {es : Array DictEntry} {ep : Nat} {G1 : Hp} {xs : List (NestedKey × Addr × Value)} (hod : o.data = .dict es ep) (hes : es.toList = xs.map (entryOfKey (nestedKind P w))) :
    Turn P w K tg (Itn G1 d o xs) [it] it (fun i h => h.IsKeyIter it d i xs.length ep) where
  mem := by simp
  obj := fun i h st b hb => by
    have e : b = it := by simpa using hb
    subst e
    obtain ⟨oi, e, c, dd⟩ := st
    exact ⟨oi, e, fun v z => by rw [dd] at z; cases z⟩
  keep := fun i h h' st k => st.at fun oi e => k it (by simp) oi e
  item := by
    intro X hP hw hK hc i pins s σ H E I hf st hg
    subst hP hw hK
    obtain ⟨hd, hi⟩ := hg
    obtain ⟨f0, f1, f2, f3, f4, f5⟩ := hf it (by simp)
    have hgd := obj_at I.hok hd
    obtain ⟨y, hy⟩ : ∃ y, xs[i]? = some y := ⟨xs[i], List.getElem?_eq_getElem hi⟩
    have hen : es[i]? = some (entryOfKey (nestedKind X.prog X.w) y) := by
      rw [entry_at hes i, hy]; rfl
    have hsz : es.size = xs.length := by
      have := congrArg List.length hes
      simpa using this
    refine next_key_item st hgd hod hsz hen fun h' st' sb => ?_
    have I1 : Inv X pins σ H { s with heap := h' } := I.turned (t' := s.toks) (fun b ob hb e => (sb.2 b hb).trans e) f0 f1 f3 f4 f5
    obtain ⟨oi, e, c, dd⟩ := id st'
    exact ⟨_, rfl, go_of (s := { s with heap := h' }) e c dd (by decide) ⟨.ref y.2.1, H, I1, rfl, ⟨rfl, y, hy, rfl⟩, st', fun b hb => (hf b hb).1⟩⟩
  done := by
    intro X hP hw hK hc i pins s σ H E I hf st hg
    subst hP hw hK
    obtain ⟨hd, hi⟩ := hg
    obtain ⟨f0, f1, f2, f3, f4, f5⟩ := hf it (by simp)
    have hgd := obj_at I.hok hd
    have hsz : es.size = xs.length := by
      have := congrArg List.length hes
      simpa using this
    exact next_key_end (I.ok.hd hc) st hgd hod hsz hi fun h' eb => ⟨rfl, I.turned (t' := s.toks) (fun b ob hb e => eb b ob hb e) f0 f1 f3 f4 f5⟩
  self := fun A i s Q E st h => by
    refine wpAny_pyIter_slot st.typeIs F.slot_dict_keyiterator_iter (wpAny_call_entry F.slot_dict_keyiterator_iter st.typeIs F.entry_dict_keyiterator_iter ?_ (F.args_dict_keyiterator_iter_1 _))
    show wpAny _ _ (ret (.ref it)) _ _ s
    exact wpAny_pure ⟨_, rfl, "dict_keyiterator", _, st.typeIs, F.slot_dict_keyiterator_next.lookup, h⟩
theorem jok_dic {P : Program} {w : World} {G : Hp} {d : Addr} {o : Obj} {xs : List (NestedKey × Addr × Value)} (h : G d = some (objHO d o)) (ok : DicOk P w G d o xs) : JOk T P w (Itn G d o xs) G ((xs.map (·.1)).map kd) := by
  have hl : ((xs.map (·.1)).map kd).length = xs.length := by rw [List.length_map, List.length_map]
  refine ⟨fun i G' H' wf g hi => ?_, fun i G' H' wf g hi => ?_, fun i G' H' x H2 dd wf g hd y => ?_⟩
  · rw [hl] at hi; exact ⟨wf.sub _ _ (g _ _ h), hi⟩
  · rw [hl] at hi; exact ⟨wf.sub _ _ (g _ _ h), hi⟩
  · obtain ⟨rfl, y, hy, rfl⟩ := y
    rw [List.getElem?_map, List.getElem?_map, hy] at hd
    simp only [Option.map_some, Option.some.injEq] at hd
    subst hd
    exact ⟨G', Ext.refl wf, (KR.dr _ _ (ok.keys y (List.mem_of_getElem? hy)).1).up g⟩
theorem src_dic {ks : List NestedKey} {ds : List D} (h : EE T X a γ (.dic ks ds)) : Src T X tg a γ (ks.map kd) := fun σ G H R wf env k pins s I => by
  refine thn (h σ G H (fun v H1 => ∃ G1, Ext T [] G H G1 H1 ∧ DR X.prog X.w G1 v (.dic ks ds)) wf env (fun v G1 H1 x1 r1 => ⟨G1, x1, r1⟩) pins s I) fun u s1 ⟨v, H1, I1, rv, G1, x1, r1⟩ => ?_
  obtain ⟨l, o, xs, vs, rfl, g1, ok, rfl, _, _⟩ := dr_dic r1
  obtain rfl : u = Value.ref l := rv
  obtain ⟨es, ep, hod, hes⟩ := ok.dat
  have hsz : es.size = xs.length := by
    have := congrArg List.length hes
    simpa using this
  refine iter_keys ok.sys (obj_at I1.hok (x1.wf.sub _ _ g1)) ok.ex hod (pi_one (tk := s1.toks) I1 _ (turn_nkeys (G1 := G1) hod hes) ⟨_, Heap.get?_push_size _ rfl, rfl, ?_⟩ (k _ G1 H1 x1 (jok_dic g1 ok)))
  rw [hsz] <;> rfl
end

/-! ### targets -/
def GT (T : List Addr) (X : Cx) (tg : Expr) (js : List Nat) (d : D) (γ γ' : List SV) : Prop :=
  ∀ (σ : St) (G H : Hp) (v : V) (Q : St → Hp → Prop), WF T G H → EnvR X.prog X.w G σ γ → DR X.prog X.w G v d → (∀ σ', EnvR X.prog X.w G σ' γ' → (∀ vs, (∀ j ∈ js, j ∈ vs) → wipe σ' vs = wipe σ vs) → Q σ' H) → wG X tg v σ H Q
section
variable {T : List Addr} {X : Cx} {γ γ1 γ2 : List SV} {t1 t2 : Expr} {pos : Pos} {d : D}
theorem gt_name {x : Str} (i : Nat) (hN : X.N.Nodup) (hi : X.N[i]? = some x := by rfl) (hx : Loc X.env.scope x := by first | exact Or.inl rfl | exact Or.inr rfl) (hf : X.fn x = true ∨ X.env.scope.names.lookup x = some .local := by first | exact .inl rfl | exact .inr rfl | assumption) :
    GT T X (.Name x pos) [i] d γ (γ.set i (.dat d)) := fun σ G H v Q wf env r k =>
  wg_of (pg_name hN hi hx hf) (k _ (env.setD r) fun vs hj => wipe_set (hj i (by simp)))
theorem gt_pair {js1 js2 : List Nat} {d1 d2 : D} {k : Nat} (hc : X.calm = true) (h1 : GT T X t1 js1 d1 γ γ1) (h2 : GT T X t2 js2 d2 γ1 γ2)
    (hs : (assignEach [t1, t2] X.env).map (·.2) = assign t1 X.env :: (assignEach [t2] X.env).map (·.2) := by rfl) (hs2 : (assignEach [t2] X.env).map (·.2) = assign t2 X.env :: (assignEach [] X.env).map (·.2) := by rfl)
    (hn : (assignEach [t1, t2] X.env).length = 2 := by rfl) (hst : (assignEach [t1, t2] X.env).findIdx? (·.1) = none := by rfl) : GT T X (.Tuple [t1, t2] k pos) (js1 ++ js2) (.tup [d1, d2]) γ γ2 := fun σ G H v Q wf env r kk => by
  obtain ⟨l, xs, rfl, g1, q1⟩ := dr_tup r
  cases q1 with
  | cons r1 q2 =>
    cases q2 with
    | cons r2 q3 =>
      cases q3
      refine wg_of (pg_tup hc (pgs_cons pg_w (pgs_cons pg_w pgs_nil hs2) hs) hn hst) ⟨l, _, rfl, SqT.of (wf.sub _ _ g1), rfl, _, _, rfl, ?_⟩
      refine h1 σ G H _ _ wf env r1 fun σ1 env1 w1 => ⟨_, _, rfl, ?_⟩
      refine h2 σ1 G H _ _ wf env1 r2 fun σ2 env2 w2 => ⟨rfl, kk _ env2 fun vs hj => ?_⟩
      rw [w2 vs (fun j z => hj j (List.mem_append_right _ z)), w1 vs (fun j z => hj j (List.mem_append_left _ z))]
end

/-! ### tests of a clause -/
def wTs (X : Cx) (ifs : List Expr) : TT := fun σ H Q => ∀ (pins : List (Addr × Obj)) (s : Shared), Inv X pins σ H s →
  wpAny (model X.prog X.w) X.A (forIn ifs true fun c r => if r = true then do let ok ← isTrue c X.env (eval c X.env); pure (ForInStep.yield ok) else pure (ForInStep.yield r)) (TP X pins σ Q) X.xe s
theorem pts_w {X : Cx} {ifs : List Expr} : PTs X ifs (wTs X ifs) := ⟨fun pins s _ _ _ I h => h pins s I⟩
def ETs (T : List Addr) (X : Cx) (ifs : List Expr) (γ : List SV) (b : Bool) : Prop :=
  ∀ (σ : St) (G H : Hp) (Q : Bool → Hp → Prop), WF T G H → EnvR X.prog X.w G σ γ → (∀ G' H', Ext T [] G H G' H' → Q b H') → wTs X ifs σ H Q
section
variable {T : List Addr} {X : Cx} {γ : List SV}
theorem ets_nil : ETs T X [] γ true := fun σ G H Q wf env k pins s I => pts_nil.run pins s σ H Q I (k _ _ (Ext.refl wf))
theorem ets_one {c : Expr} {b : Bool} (h : ET T X c γ b) : ETs T X [c] γ b := fun σ G H Q wf env k pins s I => (pts_one pt_w).run pins s σ H Q I (h σ G H Q wf env k)
end

/-! ### list comprehensions -/
/-- what the block's readings are, in whichever block -/
def bE (X : Cx) (scope : Scope) (e : Expr) : TE := fun σ H Q => ∀ (s0 : Shared) (H0 : Hp) (C : Addr) (cl : List (Str × Addr)) (fp : List Addr), wE (X.blk s0 H0 scope (compEnvC scope cl C X.env) fp) e σ H Q
def bTs (X : Cx) (scope : Scope) (ifs : List Expr) : TT := fun σ H Q => ∀ (s0 : Shared) (H0 : Hp) (C : Addr) (cl : List (Str × Addr)) (fp : List Addr), wTs (X.blk s0 H0 scope (compEnvC scope cl C X.env) fp) ifs σ H Q
def bG (X : Cx) (scope : Scope) (tg : Expr) : TG := fun v σ H Q => ∀ (s0 : Shared) (H0 : Hp) (C : Addr) (cl : List (Str × Addr)) (fp : List Addr), wG (X.blk s0 H0 scope (compEnvC scope cl C X.env) fp) tg v σ H Q
section
variable {T : List Addr} {X : Cx} {γ : List SV} {elt tg iter : Expr} {ifs : List Expr} {scope : Scope} {own : List (Str × Nat)} {pos : Pos}
theorem lc_read {α : Type} {xs : List α} (enc : α → D) (js : List Nat) (B : α → List SV) (f : α → Bool) (g : α → D) (hi : Src T X tg iter γ (xs.map enc)) (hjs : ∀ j ∈ js, j ∈ own.map (·.2))
    (hg : ∀ (s0 : Shared) (H0 : Hp) (C : Addr) (cl : List (Str × Addr)) (fp : List Addr) (x : α), x ∈ xs → GT T (X.blk s0 H0 scope (compEnvC scope cl C X.env) fp) tg js (enc x) (undefs γ (own.map (·.2))) (B x))
    (ht : ∀ (s0 : Shared) (H0 : Hp) (C : Addr) (cl : List (Str × Addr)) (fp : List Addr) (x : α), x ∈ xs → ETs T (X.blk s0 H0 scope (compEnvC scope cl C X.env) fp) ifs (B x) (f x))
    (he : ∀ (s0 : Shared) (H0 : Hp) (C : Addr) (cl : List (Str × Addr)) (fp : List Addr) (x : α), x ∈ xs → f x = true → EE T (X.blk s0 H0 scope (compEnvC scope cl C X.env) fp) elt (B x) (g x))
    (hz : xs.length ≤ sizeLine) {σ : St} {G H : Hp} {Q : VK} (wf : WF T G H) (env : EnvR X.prog X.w G σ γ) (k : ∀ v G' H', Ext T [] G H G' H' → DR X.prog X.w G' v (.lst ((xs.filter f).map g)) → Q v H') :
    tLc (wI X tg iter) (bG X scope tg) (bTs X scope ifs) (bE X scope elt) (own.map (·.2)) σ H Q := by
  refine hi σ G H _ wf env fun J G1 H1 x1 jok => ?_
  intro Da hD
  have hlen : (xs.map enc).length = xs.length := List.length_map ..
  refine ⟨fun i m H' => m = xs.length - i ∧ i ≤ xs.length ∧ ∃ G', Sub G1 G' ∧ Ext T [] G1 H1 G' H' ∧ G' Da = none ∧ ∃ vs, H' Da = some (.lst vs) ∧ DRs X.prog X.w G' vs (((xs.take i).filter f).map g),
    ⟨xs.length, rfl, Nat.zero_le _, G1, fun _ _ e => e, Ext.newH x1.wf hD, x1.wf.gn hD, [], upd_same, .nil⟩, ?_⟩
  rintro i m H' ⟨rfl, hi', G', g', x', gD, vs, hvs, rvs⟩
  by_cases hlt : i < xs.length
  · refine .inr ⟨jok.go i G' H' x'.wf g' (by rw [hlen]; exact hlt), fun H'' => i + 1 ≤ xs.length ∧ ∃ G', Sub G1 G' ∧ Ext T [] G1 H1 G' H'' ∧ G' Da = none ∧ ∃ vs, H'' Da = some (.lst vs) ∧ DRs X.prog X.w G' vs (((xs.take (i + 1)).filter f).map g), fun H'' q => ⟨xs.length - (i + 1), by omega, rfl, q⟩, fun x H2 y => ?_⟩
    have hxi : xs[i]? = some xs[i] := List.getElem?_eq_getElem hlt
    have hmem : xs[i] ∈ xs := List.getElem_mem hlt
    obtain ⟨G2, x2, r2⟩ := jok.yld i G' H' x H2 (enc xs[i]) x'.wf g' (by rw [List.getElem?_map, hxi]; rfl) y
    have gD2 : G2 Da = none := by
      cases q : G2 Da with
      | none => rfl
      | some u =>
        rcases x2.new _ _ q with z | z
        · rw [gD] at z; cases z
        · rw [hvs] at z; cases z
    have nT : Da ∉ T := x'.wf.notT hvs (fun ps z => by cases z)
    have hvs2 : H2 Da = some (.lst vs) := x2.keep _ _ hvs nT (by simp)
    have x12 : Ext T [] G1 H1 G2 H2 := x'.tr x2
    have sub2 : Sub G G2 := fun b o z => x12.g _ _ (x1.g _ _ z)
    have ew : EnvR X.prog X.w G2 (wipe σ (own.map (·.2))) (undefs γ (own.map (·.2))) := (env.wipe _).up sub2
    intro s0 H0 C cl fp
    refine hg s0 H0 C cl fp xs[i] hmem _ G2 H2 x _ x2.wf ew r2 fun σ2 env2 w2 => ⟨?_, ?_⟩
    · rw [w2 _ hjs]
      exact wipe_wipe σ _ _ fun v hv => hv
    intro s0 H0 C cl fp
    refine ht s0 H0 C cl fp xs[i] hmem σ2 G2 H2 _ x2.wf env2 fun G3 H3 x3 => ?_
    have gD3 : G3 Da = none := by
      cases q : G3 Da with
      | none => rfl
      | some u =>
        rcases x3.new _ _ q with z | z
        · rw [gD2] at z; cases z
        · rw [hvs2] at z; cases z
    have hvs3 : H3 Da = some (.lst vs) := x3.keep _ _ hvs2 nT (by simp)
    have x13 : Ext T [] G1 H1 G3 H3 := x12.tr x3
    have et : xs.take (i + 1) = xs.take i ++ [xs[i]] := by rw [List.take_add_one, hxi]; rfl
    have lb : vs.length ≤ i := by
      rw [rvs.length, List.length_map]
      exact Nat.le_trans (List.length_filter_le _ _) (by rw [List.length_take]; omega)
    cases hf : f xs[i] with
    | false =>
      simp only [Bool.false_eq_true, if_false]
      refine ⟨hlt, G3, x13.g, x13, gD3, vs, hvs3, ?_⟩
      rw [et, List.filter_append, List.map_append]
      simp only [List.filter_cons, hf, Bool.false_eq_true, if_false, List.filter_nil, List.map_nil, List.append_nil]
      exact (rvs.up x2.g).up x3.g
    | true =>
      simp only [if_true]
      intro s0 H0 C cl fp
      refine he s0 H0 C cl fp xs[i] hmem hf σ2 G3 H3 _ x3.wf (env2.up x3.g) fun v G4 H4 x4 r4 => ?_
      have gD4 : G4 Da = none := by
        cases q : G4 Da with
        | none => rfl
        | some u =>
          rcases x4.new _ _ q with z | z
          · rw [gD3] at z; cases z
          · rw [hvs3] at z; cases z
      have hvs4 : H4 Da = some (.lst vs) := x4.keep _ _ hvs3 nT (by simp)
      have x14 : Ext T [] G1 H1 G4 H4 := x13.tr x4
      refine ⟨vs, hvs4, by omega, hlt, G4, x14.g, x14.trans (Ext.mut x4.wf gD4 nT) (fun m hm => .inr ?_), gD4, vs ++ [v], upd_same, ?_⟩
      · rw [List.mem_singleton.mp hm]; exact hD
      · rw [et, List.filter_append, List.map_append]
        simp only [List.filter_cons, hf, if_true, List.filter_nil, List.map_cons, List.map_nil]
        exact (((rvs.up x2.g).up x3.g).up x4.g).append (.one r4)
  · have e : i = xs.length := by omega
    subst e
    refine .inl ⟨jok.stop _ G' H' x'.wf g' (by rw [hlen]; exact Nat.le_refl _), ?_⟩
    rw [List.take_length] at rvs
    have pT : Da ∉ T := x'.wf.notT hvs (fun ps z => by cases z)
    have x1' := x1.tr x'
    refine k _ (upd G' Da (.lst vs)) H' ⟨fun b o z => ?_, x1'.keep, fun b o z => ?_, x1'.there, ⟨fun b o z => ?_, x1'.wf.tab, fun b z => ?_⟩⟩ (.lst upd_same (rvs.up fun b o z => ?_))
    · rw [upd_ne (ne_of_none (x1'.g _ _ z) gD)]; exact x1'.g _ _ z
    · by_cases q : b = Da
      · subst q
        refine .inr ?_
        cases u : H b with
        | none => rfl
        | some w => exact absurd hD (x1.there b (by rw [u]; exact fun z => by cases z))
      · rw [upd_ne q] at z; exact x1'.new _ _ z
    · by_cases q : b = Da
      · subst q; rw [upd_same] at z; cases z; exact hvs
      · rw [upd_ne q] at z; exact x1'.wf.sub _ _ z
    · rw [upd_ne (fun q => by rw [q] at z; exact pT z)]; exact x1'.wf.tn b z
    · rw [upd_ne (ne_of_none z gD)]; exact z
theorem ee_lc {α : Type} {xs : List α} (enc : α → D) (js : List Nat) (B : α → List SV) (f : α → Bool) (g : α → D) (hc : X.calm = true) (hN : X.N.Nodup) (ok : BlkOk X.N X.env.scope scope own) (hi : Src T X tg iter γ (xs.map enc)) (hjs : ∀ j ∈ js, j ∈ own.map (·.2))
    (hg : ∀ (s0 : Shared) (H0 : Hp) (C : Addr) (cl : List (Str × Addr)) (fp : List Addr) (x : α), x ∈ xs → GT T (X.blk s0 H0 scope (compEnvC scope cl C X.env) fp) tg js (enc x) (undefs γ (own.map (·.2))) (B x))
    (ht : ∀ (s0 : Shared) (H0 : Hp) (C : Addr) (cl : List (Str × Addr)) (fp : List Addr) (x : α), x ∈ xs → ETs T (X.blk s0 H0 scope (compEnvC scope cl C X.env) fp) ifs (B x) (f x))
    (he : ∀ (s0 : Shared) (H0 : Hp) (C : Addr) (cl : List (Str × Addr)) (fp : List Addr) (x : α), x ∈ xs → f x = true → EE T (X.blk s0 H0 scope (compEnvC scope cl C X.env) fp) elt (B x) (g x))
    (hz : xs.length ≤ sizeLine) {ys : List D} (hy : (xs.filter f).map g = ys) (hs : ∀ x, foldedSetIterable iter X.env x = pure x := by intro _; rfl) : EE T X (.ListComp elt [⟨tg, iter, ifs, 0⟩] scope pos) γ (.lst ys) := fun σ G H Q wf env k =>
  we_of (pe_lc (own := own) (g := bG X scope tg) (tt := bTs X scope ifs) (te := bE X scope elt) hc hN pi_w ok (fun s0 H0 C cl fp => ⟨fun pins s σ H v u Q I r h => h s0 H0 C cl fp pins s u I r⟩) (fun s0 H0 C cl fp => ⟨fun pins s σ H Q I h => h s0 H0 C cl fp pins s I⟩)
    (fun s0 H0 C cl fp => ⟨fun pins s σ H Q I h => h s0 H0 C cl fp pins s I⟩) hs) (lc_read enc js B f g hi hjs hg ht he hz wf env (by rw [hy]; exact k))
end
end HG

set_option Elab.async false
set_option linter.all false
set_option maxRecDepth 100000
set_option maxHeartbeats 4000000
/-! Calls and statements by data. -/
namespace HG
open PySem L2

/-! ### calls of built-ins -/
section
variable {T : List Addr} {X : Cx} {γ : List SV} {a b e : Expr} {es : List Expr} {p pos : Pos}
theorem ee_callB {x : Str} {id : String} {r : List V → Hp → VK → Prop} {ds : List D} {z : D} (hc : CallR X (.builtin id) r) (hm : X.mg x = none) (hv : bootBuiltins x = some (.builtin id)) (ha : EA T X (e :: es) γ ds)
    (hr : ∀ vs G H (Q : VK), WF T G H → DRs X.prog X.w G vs ds → (∀ v G' H', Ext T [] G H G' H' → DR X.prog X.w G' v z → Q v H') → r vs H Q) (hg : Gl X x) (hn : x ≠ "__name__") (hdb : (x == ("__debug__" : Str)) = false)
    (he : starEach (e :: es) X.env = (false, eval e X.env) :: starEach es X.env) (hpl : (backTo pos (starEach es X.env)).any (·.1) = false) : EE T X (.Call (.Name x p) (e :: es) [] pos) γ z := fun σ G H Q wf env k =>
  we_of (pe_callB hc hg hm hv pa_w hn hdb he hpl) (ha σ G H _ wf env fun vs G1 H1 x1 r1 => hr vs G1 H1 Q x1.wf r1 fun v G2 H2 x2 r2 => k v G2 H2 (x1.tr x2) r2)
theorem ee_callT {x : Str} {id : String} {r : List V → Hp → VK → Prop} {ds : List D} {z : D} (hc : CallR X (.type id) r) (hm : X.mg x = none) (hv : bootBuiltins x = some (.type id)) (ha : EA T X (e :: es) γ ds)
    (hr : ∀ vs G H (Q : VK), WF T G H → DRs X.prog X.w G vs ds → (∀ v G' H', Ext T [] G H G' H' → DR X.prog X.w G' v z → Q v H') → r vs H Q) (hg : Gl X x) (hn : x ≠ "__name__") (hdb : (x == ("__debug__" : Str)) = false)
    (he : starEach (e :: es) X.env = (false, eval e X.env) :: starEach es X.env) (hpl : (backTo pos (starEach es X.env)).any (·.1) = false) : EE T X (.Call (.Name x p) (e :: es) [] pos) γ z := fun σ G H Q wf env k =>
  we_of (pe_callTy hc hg hm hv pa_w hn hdb he hpl) (ha σ G H _ wf env fun vs G1 H1 x1 r1 => hr vs G1 H1 Q x1.wf r1 fun v G2 H2 x2 r2 => k v G2 H2 (x1.tr x2) r2)
theorem drs1 {P : Program} {w : World} {G : Hp} {vs : List V} {d : D} (h : DRs P w G vs [d]) : ∃ v, vs = [v] ∧ DR P w G v d := by
  cases h with
  | cons h1 h2 => cases h2; exact ⟨_, rfl, h1⟩
theorem ee_len {ds : List D} (h : EE T X e γ (.lst ds)) (hm : X.mg "len" = none) (hg : Gl X "len" := by rfl) (he : starEach [e] X.env = (false, eval e X.env) :: starEach [] X.env := by rfl) (hpl : (backTo pos (starEach [] X.env)).any (·.1) = false := by rfl) :
    EE T X (.Call (.Name "len" p) [e] [] pos) γ (.int ds.length) :=
  ee_callB call_len_seq hm PySem.boot_len (ea_cons h ea_nil he) (fun vs G H Q wf r k => by
    obtain ⟨v, rfl, rr⟩ := drs1 r
    obtain ⟨l, xs, rfl, g1, q1⟩ := dr_lst rr
    exact ⟨l, xs, rfl, .inl (SqL.of (wf.sub _ _ g1)), k _ _ _ (Ext.refl wf) (by rw [q1.length]; exact .int _)⟩) hg (by decide) (by decide) he hpl
theorem ee_lenD {ks : List NestedKey} {ds : List D} (h : EE T X e γ (.dic ks ds)) (hm : X.mg "len" = none) (hg : Gl X "len" := by rfl) (he : starEach [e] X.env = (false, eval e X.env) :: starEach [] X.env := by rfl) (hpl : (backTo pos (starEach [] X.env)).any (·.1) = false := by rfl) :
    EE T X (.Call (.Name "len" p) [e] [] pos) γ (.int ks.length) :=
  ee_callB (r := fun vs H Q => ∃ (l : Addr) (o : Obj) (xs : List (NestedKey × Addr × Value)), vs = [.ref l] ∧ H l = some (objHO l o) ∧ (l == sysModules) = false ∧ xs.length ≤ sizeLine ∧ o.ExactDict ∧ (∃ es ep, o.data = .dict es ep ∧ es.toList = xs.map (entryOfKey (nestedKind X.prog X.w))) ∧ Q (.int xs.length) H)
    (fun pins s σ H xs us Q I r h => by
      obtain ⟨l, o, ys, rfl, hl, hs, hz, hx, ⟨es, ep, hd, hes⟩, q⟩ := h
      obtain ⟨u, rfl, ru⟩ := vals1 r
      obtain rfl : u = Value.ref l := ru
      have ho := obj_at I.hok hl
      have hsz : es.size = ys.length := by
        have := congrArg List.length hes
        simpa using this
      have hty : s.TypeIs (.ref l) "dict" := ⟨o, ho, hx.1⟩
      refine PyProof.Rows.call_len_slot (n := ys.length) hty F.slot_dict_len (fun Q' hq => call_len_raw (es := es) (ep := ep) hs ⟨o, ho, hx, hd⟩ (by rw [hsz]; exact hq)) (by omega) (by rw [sizeLine_eq] at hz; omega) ?_
      exact ⟨.int ys.length, H, I.tok _, ⟨_, rfl⟩, q⟩) hm PySem.boot_len (ea_cons h ea_nil he) (fun vs G H Q wf r k => by
    obtain ⟨v, rfl, rr⟩ := drs1 r
    obtain ⟨l, o, xs, us, rfl, g1, ok, rfl, _, _⟩ := dr_dic rr
    exact ⟨l, o, xs, rfl, wf.sub _ _ g1, ok.sys, ok.len, ok.ex, ok.dat, k _ _ _ (Ext.refl wf) (by rw [List.length_map]; exact .int _)⟩) hg (by decide) (by decide) he hpl
theorem ee_intI {i : Int} (h : EE T X e γ (.int i)) (hm : X.mg "int" = none) (hg : Gl X "int" := by rfl) (he : starEach [e] X.env = (false, eval e X.env) :: starEach [] X.env := by rfl) (hpl : (backTo pos (starEach [] X.env)).any (·.1) = false := by rfl) :
    EE T X (.Call (.Name "int" p) [e] [] pos) γ (.int i) :=
  ee_callT call_int1 hm PyProof.Rows.boot_int (ea_cons h ea_nil he) (fun vs G H Q wf r k => by
    obtain ⟨v, rfl, rr⟩ := drs1 r
    rw [dr_int rr]
    exact .inl ⟨i, rfl, k _ _ _ (Ext.refl wf) (.int i)⟩) hg (by decide) (by decide) he hpl
theorem ee_intB {i : Bool} (h : EE T X e γ (.bl i)) (hm : X.mg "int" = none) (hg : Gl X "int" := by rfl) (he : starEach [e] X.env = (false, eval e X.env) :: starEach [] X.env := by rfl) (hpl : (backTo pos (starEach [] X.env)).any (·.1) = false := by rfl) :
    EE T X (.Call (.Name "int" p) [e] [] pos) γ (.int (if i then 1 else 0)) :=
  ee_callT call_int1 hm PyProof.Rows.boot_int (ea_cons h ea_nil he) (fun vs G H Q wf r k => by
    obtain ⟨v, rfl, rr⟩ := drs1 r
    rw [dr_bl rr]
    exact .inr ⟨i, rfl, k _ _ _ (Ext.refl wf) (.int _)⟩) hg (by decide) (by decide) he hpl
theorem ee_tuple {ds : List D} (h : EE T X e γ (.lst ds)) (hm : X.mg "tuple" = none) (hg : Gl X "tuple" := by rfl) (he : starEach [e] X.env = (false, eval e X.env) :: starEach [] X.env := by rfl) (hpl : (backTo pos (starEach [] X.env)).any (·.1) = false := by rfl) :
    EE T X (.Call (.Name "tuple" p) [e] [] pos) γ (.tup ds) :=
  ee_callT call_tuple_of hm PyProof.Rows.boot_tuple (ea_cons h ea_nil he) (fun vs G H Q wf r k => by
    obtain ⟨v, rfl, rr⟩ := drs1 r
    obtain ⟨l, xs, rfl, g1, q1⟩ := dr_lst rr
    exact ⟨l, xs, rfl, .inl ⟨SqL.of (wf.sub _ _ g1), fun t ht => k _ _ _ (Ext.newG wf ht) (dr_newT wf ht q1)⟩⟩) hg (by decide) (by decide) he hpl
theorem ee_list {ds : List D} (h : EE T X e γ (.lst ds)) (hm : X.mg "list" = none) (hg : Gl X "list" := by rfl) (he : starEach [e] X.env = (false, eval e X.env) :: starEach [] X.env := by rfl) (hpl : (backTo pos (starEach [] X.env)).any (·.1) = false := by rfl) :
    EE T X (.Call (.Name "list" p) [e] [] pos) γ (.lst ds) :=
  ee_callT call_list_of hm PyProof.Rows.boot_list (ea_cons h ea_nil he) (fun vs G H Q wf r k => by
    obtain ⟨v, rfl, rr⟩ := drs1 r
    obtain ⟨l, xs, rfl, g1, q1⟩ := dr_lst rr
    exact ⟨l, xs, rfl, .inl (SqL.of (wf.sub _ _ g1)), fun t ht => k _ _ _ (Ext.newG wf ht) (dr_newL wf ht q1)⟩) hg (by decide) (by decide) he hpl
theorem ee_sum {ns : List Int} (h : EE T X e γ (.lst (ns.map .int))) (hc : X.calm = true) (hm : X.mg "sum" = none) (hg : Gl X "sum" := by rfl) (he : starEach [e] X.env = (false, eval e X.env) :: starEach [] X.env := by rfl) (hpl : (backTo pos (starEach [] X.env)).any (·.1) = false := by rfl) :
    EE T X (.Call (.Name "sum" p) [e] [] pos) γ (.int ns.sum) :=
  ee_callB (cr_sum hc) hm PyProof.Rows.boot_sum (ea_cons h ea_nil he) (fun vs G H Q wf r k => by
    obtain ⟨v, rfl, rr⟩ := drs1 r
    obtain ⟨l, xs, rfl, g1, q1⟩ := dr_lst rr
    have e := drs_ints q1
    subst e
    exact ⟨l, ns, rfl, SqL.of (wf.sub _ _ g1), k _ _ _ (Ext.refl wf) (.int _)⟩) hg (by decide) (by decide) he hpl
theorem ee_all {ns : List Bool} (h : EE T X e γ (.lst (ns.map .bl))) (hc : X.calm = true) (hm : X.mg "all" = none) (hg : Gl X "all" := by rfl) (he : starEach [e] X.env = (false, eval e X.env) :: starEach [] X.env := by rfl) (hpl : (backTo pos (starEach [] X.env)).any (·.1) = false := by rfl) :
    EE T X (.Call (.Name "all" p) [e] [] pos) γ (.bl (ns.all id)) :=
  ee_callB (cr_all hc) hm (by decide +kernel) (ea_cons h ea_nil he) (fun vs G H Q wf r k => by
    obtain ⟨v, rfl, rr⟩ := drs1 r
    obtain ⟨l, xs, rfl, g1, q1⟩ := dr_lst rr
    have e := drs_bls q1
    subst e
    exact ⟨l, ns, rfl, SqL.of (wf.sub _ _ g1), k _ _ _ (Ext.refl wf) (.bl _)⟩) hg (by decide) (by decide) he hpl
end

/-! ### calls of defs -/
/-- called with data ds it gives the data d -/
def spR (P : Program) (w : World) (T : List Addr) (R : List D → D → Prop) : Sp := fun vs H Q _ =>
  ∃ (ds : List D) (d : D) (G : Hp), R ds d ∧ WF T G H ∧ DRs P w G vs ds ∧ ∀ v G' H', Ext T [] G H G' H' → DR P w G' v d → Q v H'
structure Dk (P : Program) (w : World) (K : PySem.W.Frag) (mg : Str → Option Value) (base : Heap) (T : List Addr) (k : Nat) (x : Str) (R : List D → D → Prop) : Prop where
  ex : ∃ (f : Addr) (fd : FuncData) (ps : List Str), FnOk P w K mg base CX0 k f fd ps (spR P w T R) ∧ mg x = some (.ref f) ∧ PySem.W.keepIn K (.ref f) = true ∧ Binds K fd ps []
/-- a method -/
structure Mk2 (P : Program) (w : World) (K : PySem.W.Frag) (mg : Str → Option Value) (base : Heap) (T : List Addr) (k : Nat) (C : Addr) (m : Str) (R : List D → D → Prop) : Prop where
  ex : ∃ (f : Addr) (fd : FuncData) (ps : List Str), FnOk P w K mg base CX0 k f fd ps (spR P w T R) ∧ Meth K C m f ∧ Binds K fd ps []
  cl : Cls K C
/-- __init__: the new object's attributes by the arguments -/
def spI (P : Program) (w : World) (T : List Addr) (C : Addr) (ns : List Str) (R : List D → List D → Prop) : Sp := fun vs H Q _ =>
  ∃ (ds fds : List D) (G Hc : Hp) (x dx : Addr) (rest : List V), vs = .ref x :: rest ∧ R ds fds ∧ WF T G Hc ∧ DRs P w G rest ds ∧ Hc x = none ∧ Hc dx = none ∧ dx ≠ x ∧ H = upd (upd Hc dx (.own x)) x (.ins C dx []) ∧
    ∀ G' H', Ext T [] G Hc G' H' → DR P w G' (.ref x) (.obj C ns fds) → Q .non H'
structure Ck (P : Program) (w : World) (K : PySem.W.Frag) (mg : Str → Option Value) (base : Heap) (T : List Addr) (k : Nat) (x : Str) (C : Addr) (ns : List Str) (R : List D → List D → Prop) : Prop where
  ex : ∃ (f : Addr) (fd : FuncData) (ps : List Str), FnOk P w K mg base CX0 k f fd ps (spI P w T C ns R) ∧ L2.Mk K C f ∧ mg x = some (.ref C) ∧ Binds K fd ps []
theorem Dk.mono {P : Program} {w : World} {K : PySem.W.Frag} {mg : Str → Option Value} {base : Heap} {T : List Addr} {j k : Nat} {x : Str} {R : List D → D → Prop} (F : Dk P w K mg base T j x R) (h : j ≤ k) : Dk P w K mg base T k x R := by
  obtain ⟨f, fd, ps, a, b, c, d⟩ := F.ex
  exact ⟨f, fd, ps, a.mono h, b, c, d⟩
section
variable {T : List Addr} {X : Cx} {γ : List SV} {a b e : Expr} {es : List Expr} {p pos : Pos}
theorem ee_call {x : Str} {k : Nat} {R : List D → D → Prop} {ds : List D} {d : D} (F : Dk X.prog X.w X.K X.mg X.base T k x R) (hr : Room k X.A) (ha : EA T X (e :: es) γ ds) (h : R ds d) (hg : Gl X x := by rfl) (hdb : (x == ("__debug__" : Str)) = false := by decide)
    (he : starEach (e :: es) X.env = (false, eval e X.env) :: starEach es X.env := by rfl) (hpl : (backTo pos (starEach es X.env)).any (·.1) = false := by rfl) : EE T X (.Call (.Name x p) (e :: es) [] pos) γ d := fun σ G H Q wf env kk => by
  obtain ⟨f, fd, ps, Fo, hm, hk, hb⟩ := F.ex
  refine we_of (pe_call Fo hr hg hm hk hb .nil (pass0 (X := X)) pa_w hdb he hpl) (ha σ G H _ wf env fun vs G1 H1 x1 r1 => ?_)
  rw [List.append_nil]
  exact ⟨ds, d, G1, h, x1.wf, r1, fun v G2 H2 x2 r2 => kk v G2 H2 (x1.tr x2) r2⟩
theorem ee_make {x : Str} {k : Nat} {C : Addr} {ns : List Str} {R : List D → List D → Prop} {ds fds : List D} (F : Ck X.prog X.w X.K X.mg X.base T k x C ns R) (hr : Room (k + 1) X.A) (ha : EA T X (e :: es) γ ds) (h : R ds fds) (hg : Gl X x := by rfl) (hdb : (x == ("__debug__" : Str)) = false := by decide)
    (he : starEach (e :: es) X.env = (false, eval e X.env) :: starEach es X.env := by rfl) (hpl : (backTo pos (starEach es X.env)).any (·.1) = false := by rfl) : EE T X (.Call (.Name x p) (e :: es) [] pos) γ (.obj C ns fds) := fun σ G H Q wf env kk => by
  obtain ⟨f, fd, ps, Fo, hM, hm, hb⟩ := F.ex
  refine we_of (pe_make hM Fo hr hg hm hb .nil (pass0 (X := X)) pa_w hdb he hpl) (ha σ G H _ wf env fun vs G1 H1 x1 r1 => ?_)
  intro y dy hy hdy ne
  rw [List.append_nil]
  exact ⟨ds, fds, G1, H1, y, dy, vs, rfl, h, x1.wf, r1, hy, hdy, ne, rfl, fun G2 H2 x2 r2 => ⟨rfl, kk _ G2 H2 (x1.tr x2) r2⟩⟩
theorem lookup_none {f : Str} : ∀ {fs : List (Str × V)}, f ∉ fs.map (·.1) → fs.lookup f = none
  | [], _ => rfl
  | (g, x) :: r, h => by
    rw [List.lookup_cons]
    have hg : f ≠ g := fun e => h (by rw [e]; simp)
    rw [beq_eq_false_iff_ne.mpr hg]
    exact lookup_none fun z => h (by simp only [List.map_cons]; exact List.mem_cons_of_mem _ z)
theorem ee_meth {m : Str} {apos : Pos} {k : Nat} {C : Addr} {ns : List Str} {sds : List D} {R : List D → D → Prop} {ds : List D} {d : D} (F : Mk2 X.prog X.w X.K X.mg X.base T k C m R) (hr : Room k X.A) (ho : EE T X a γ (.obj C ns sds)) (hn : m ∉ ns) (ha : EA T X (e :: es) γ ds) (h : R (.obj C ns sds :: ds) d)
    (hst : starEach (e :: es) X.env = (false, eval e X.env) :: starEach es X.env := by rfl) (hpl : (backTo pos (starEach es X.env)).any (·.1) = false := by rfl) {pl : Sem Bool}
    (ht : eval (.Call (.Attribute a m apos) (e :: es) [] pos) X.env = (do
      let ov ← eval a X.env
      standAt apos.atName
      let (f, first) ← holding [ov] (getMethod ov m pl)
      callWith pos f first (backTo pos (starEach (e :: es) X.env)) (backToKw pos (keywordEach [] X.env))) := by rfl) : EE T X (.Call (.Attribute a m apos) (e :: es) [] pos) γ d := fun σ G H Q wf env kk => by
  obtain ⟨f, fd, ps, Fo, hM, hb⟩ := F.ex
  refine we_of (pe_meth pe_w F.cl hM Fo hr hb .nil (pass0 (X := X)) pa_w hst hpl ht) (ho σ G H _ wf env fun v G1 H1 x1 r1 => ?_)
  obtain ⟨l, dx, fs, rfl, g1, rfl, q1⟩ := dr_obj r1
  refine ⟨l, dx, fs, rfl, x1.wf.sub _ _ g1, lookup_none hn, ha σ G1 H1 _ x1.wf (env.up x1.g) fun vs G2 H2 x2 r2 => ?_⟩
  rw [List.append_nil]
  exact ⟨_, d, G2, h, x2.wf, .cons (DR.up x2.g (.obj g1 q1)) r2, fun v G3 H3 x3 r3 => kk v G3 H3 ((x1.tr x2).tr x3) r3⟩
end

/-! ### statements -/
structure En where
  T : List Addr
  M : List Addr
  G0 : Hp
  H0 : Hp
structure EndD where
  nx : List SV → Hp → Hp → Prop
  rt : V → Hp → Hp → Prop := fun _ _ _ => False
  bk : List SV → Hp → Hp → Prop := fun _ _ _ => False
  ct : List SV → Hp → Hp → Prop := fun _ _ _ => False
def endS (N : En) (P : Program) (w : World) (G : Hp) (p : List SV → Hp → Hp → Prop) : St → Hp → Prop := fun σ H => ∃ γ G', Sub G G' ∧ Ext N.T N.M N.G0 N.H0 G' H ∧ EnvR P w G' σ γ ∧ p γ G' H
def ends (N : En) (P : Program) (w : World) (G : Hp) (E : EndD) : Ends where
  nx := endS N P w G E.nx
  rt := fun v H => ∃ G', Sub G G' ∧ Ext N.T N.M N.G0 N.H0 G' H ∧ E.rt v G' H
  bk := endS N P w G E.bk
  ct := endS N P w G E.ct
theorem endS.up {N : En} {P : Program} {w : World} {G G1 : Hp} {p : List SV → Hp → Hp → Prop} (g : Sub G G1) {σ : St} {H : Hp} (h : endS N P w G1 p σ H) : endS N P w G p σ H := by
  obtain ⟨γ, G', g', r⟩ := h
  exact ⟨γ, G', fun b o z => g' _ _ (g b o z), r⟩
def S1 (N : En) (X : Cx) (st : Stmt) (γ : List SV) (G H : Hp) (E : EndD) : Prop := ∀ σ, Ext N.T N.M N.G0 N.H0 G H → EnvR X.prog X.w G σ γ → wS X st (ends N X.prog X.w G E) σ H
def SB (N : En) (X : Cx) (st : List Stmt) (γ : List SV) (G H : Hp) (E : EndD) : Prop := ∀ σ, Ext N.T N.M N.G0 N.H0 G H → EnvR X.prog X.w G σ γ → wB X st (ends N X.prog X.w G E) σ H
/-- at these heaps: a value, a test -/
def VJ (T : List Addr) (X : Cx) (e : Expr) (γ : List SV) (G H : Hp) (d : D) : Prop :=
  ∀ (σ : St) (Q : VK), WF T G H → EnvR X.prog X.w G σ γ → (∀ v G' H', Ext T [] G H G' H' → DR X.prog X.w G' v d → Q v H') → wE X e σ H Q
def TJ (T : List Addr) (X : Cx) (e : Expr) (γ : List SV) (G H : Hp) (b : Bool) : Prop :=
  ∀ (σ : St) (Q : Bool → Hp → Prop), WF T G H → EnvR X.prog X.w G σ γ → (∀ G' H', Ext T [] G H G' H' → Q b H') → wT X e σ H Q
theorem EE.vj {T : List Addr} {X : Cx} {e : Expr} {γ : List SV} {d : D} (h : EE T X e γ d) {G H : Hp} : VJ T X e γ G H d := fun σ Q wf env k => h σ G H Q wf env k
theorem ET.tj {T : List Addr} {X : Cx} {e : Expr} {γ : List SV} {d : Bool} (h : ET T X e γ d) {G H : Hp} : TJ T X e γ G H d := fun σ Q wf env k => h σ G H Q wf env k

theorem SP.mono {X : Cx} {pins : List (Addr × Obj)} {D D' : Ends} {f : Flow} {s : Shared} (h : SP X pins D f s) (nx : ∀ σ H, D.nx σ H → D'.nx σ H) (rt : ∀ v H, D.rt v H → D'.rt v H) (bk : ∀ σ H, D.bk σ H → D'.bk σ H) (ct : ∀ σ H, D.ct σ H → D'.ct σ H) : SP X pins D' f s := by
  cases f with
  | next => obtain ⟨σ', H', I, q⟩ := h; exact ⟨σ', H', I, nx _ _ q⟩
  | brk => obtain ⟨σ', H', I, q⟩ := h; exact ⟨σ', H', I, bk _ _ q⟩
  | cont => obtain ⟨σ', H', I, q⟩ := h; exact ⟨σ', H', I, ct _ _ q⟩
  | ret u => obtain ⟨v, σ', H', I, r, q⟩ := h; exact ⟨v, σ', H', I, r, rt _ _ q⟩
theorem ws_mono {X : Cx} {st : Stmt} {D D' : Ends} {σ : St} {H : Hp} (h : wS X st D σ H) (nx : ∀ σ H, D.nx σ H → D'.nx σ H) (rt : ∀ v H, D.rt v H → D'.rt v H) (bk : ∀ σ H, D.bk σ H → D'.bk σ H) (ct : ∀ σ H, D.ct σ H → D'.ct σ H) : wS X st D' σ H := fun pins s I => thn (h pins s I) fun _ _ q => SP.mono q nx rt bk ct
theorem wb_mono {X : Cx} {st : List Stmt} {D D' : Ends} {σ : St} {H : Hp} (h : wB X st D σ H) (nx : ∀ σ H, D.nx σ H → D'.nx σ H) (rt : ∀ v H, D.rt v H → D'.rt v H) (bk : ∀ σ H, D.bk σ H → D'.bk σ H) (ct : ∀ σ H, D.ct σ H → D'.ct σ H) : wB X st D' σ H := fun pins s I => thn (h pins s I) fun _ _ q => SP.mono q nx rt bk ct
theorem wb_up {N : En} {X : Cx} {st : List Stmt} {G G1 : Hp} {E : EndD} {σ : St} {H : Hp} (g : Sub G G1) (h : wB X st (ends N X.prog X.w G1 E) σ H) : wB X st (ends N X.prog X.w G E) σ H :=
  wb_mono h (fun _ _ q => q.up g) (fun v H q => let ⟨G', g', r⟩ := q; ⟨G', fun b o z => g' _ _ (g b o z), r⟩) (fun _ _ q => q.up g) (fun _ _ q => q.up g)

section
variable {N : En} {X : Cx} {γ : List SV} {G H : Hp} {E : EndD} {st : Stmt} {rest : List Stmt} {e : Expr} {pos : Pos} {d : D}
theorem sb_nil (h : E.nx γ G H) : SB N X [] γ G H E := fun σ x env => wb_of pss_nil ⟨γ, G, fun _ _ z => z, x, env, h⟩
theorem sb_cons (h : S1 N X st γ G H { E with nx := fun γ' G' H' => SB N X rest γ' G' H' E }) : SB N X (st :: rest) γ G H E := fun σ x env =>
  wb_of (pss_cons ps_w pb_w) (ws_mono (h σ x env) (fun σ' H' q => by
    obtain ⟨γ', G', g', x', env', q⟩ := q
    exact wb_up g' (q σ' x' env')) (fun _ _ q => q) (fun _ _ q => q) (fun _ _ q => q))
theorem sb_one (h : S1 N X st γ G H E) : SB N X [st] γ G H E := fun σ x env => wb_of (pss_one ps_w) (h σ x env)
theorem sb_ext (h : Ext N.T N.M N.G0 N.H0 G H → SB N X rest γ G H E) : SB N X rest γ G H E := fun σ x env => h x σ x env
theorem sb_forget (is : List Nat) (h : SB N X rest (undefs γ is) G H E) : SB N X rest γ G H E := fun σ x env => h σ x (env.forget is)

theorem s_set {x : Str} {pos' : Pos} (i : Nat) (hN : X.N.Nodup) (he : VJ N.T X e γ G H d) (k : ∀ G' H', Ext N.T [] G H G' H' → E.nx (γ.set i (.dat d)) G' H') (hi : X.N[i]? = some x := by rfl) (hx : Loc X.env.scope x := by first | exact Or.inl rfl | exact Or.inr rfl)
    (hs : swapsWith e (some (.Name x pos')) pos.line X.env = pure false := by rfl) (hf : X.fn x = true ∨ X.env.scope.names.lookup x = some .local := by first | exact .inl rfl | exact .inr rfl | assumption) : S1 N X (.Assign [.Name x pos'] e pos) γ G H E := fun σ x0 env =>
  ws_of (ps_set hN hi hx pe_w hs hf) (he σ _ x0.wf env fun v G1 H1 x1 r1 => ⟨_, G1, x1.g, x0.tr x1, (env.up x1.g).setD r1, k G1 H1 x1⟩)
theorem s_setLc {α : Type} {xs : List α} {y : Str} {py : Pos} {elt tg iter : Expr} {ifs : List Expr} {scope : Scope} {own : List (Str × Nat)} {pos' : Pos} (i : Nat) (enc : α → D) (js : List Nat) (B : α → List SV) (f : α → Bool) (g : α → D) (hc : X.calm = true) (hN : X.N.Nodup) (ok : BlkOk X.N X.env.scope scope own)
    (hyl : X.env.scope.names.lookup y = some .local) (hsw : swapsWith (.ListComp elt [⟨tg, iter, ifs, 0⟩] scope pos') (some (.Name y py)) pos.line X.env = pure true) (hi : Src N.T X tg iter γ (xs.map enc)) (hjs : ∀ j ∈ js, j ∈ own.map (·.2))
    (hg : ∀ (s0 : Shared) (H0 : Hp) (C : Addr) (cl : List (Str × Addr)) (fp : List Addr) (x : α), x ∈ xs → GT N.T (X.blk s0 H0 scope (compEnvC scope cl C X.env) fp) tg js (enc x) (undefs γ (own.map (·.2))) (B x))
    (ht : ∀ (s0 : Shared) (H0 : Hp) (C : Addr) (cl : List (Str × Addr)) (fp : List Addr) (x : α), x ∈ xs → ETs N.T (X.blk s0 H0 scope (compEnvC scope cl C X.env) fp) ifs (B x) (f x))
    (he : ∀ (s0 : Shared) (H0 : Hp) (C : Addr) (cl : List (Str × Addr)) (fp : List Addr) (x : α), x ∈ xs → f x = true → EE N.T (X.blk s0 H0 scope (compEnvC scope cl C X.env) fp) elt (B x) (g x))
    (hz : xs.length ≤ sizeLine) {ys : List D} (hys : (xs.filter f).map g = ys) (k : ∀ G' H', Ext N.T [] G H G' H' → E.nx (γ.set i (.dat (.lst ys))) G' H') (hy : X.N[i]? = some y := by rfl) (hs : ∀ x, foldedSetIterable iter X.env x = pure x := by intro _; rfl) :
    S1 N X (.Assign [.Name y py] (.ListComp elt [⟨tg, iter, ifs, 0⟩] scope pos') pos) γ G H E := fun σ x0 env =>
  ws_of (ps_setLc (i := i) (own := own) (g := bG X scope tg) (tt := bTs X scope ifs) (te := bE X scope elt) hc hN hy hyl hsw pi_w ok (fun s0 H0 C cl fp => ⟨fun pins s σ H v u Q I r h => h s0 H0 C cl fp pins s u I r⟩) (fun s0 H0 C cl fp => ⟨fun pins s σ H Q I h => h s0 H0 C cl fp pins s I⟩)
    (fun s0 H0 C cl fp => ⟨fun pins s σ H Q I h => h s0 H0 C cl fp pins s I⟩) hs) (lc_read (own := own) enc js B f g hi hjs hg ht he hz x0.wf env fun v G1 H1 x1 r1 => by
    rw [hys] at r1
    exact ⟨_, G1, x1.g, x0.tr x1, (env.up x1.g).setD r1, k G1 H1 x1⟩)
theorem s_if {c : Expr} {as bs : List Stmt} {b : Bool} (hc : TJ N.T X c γ G H b) (h1 : b = true → ∀ G' H', Ext N.T [] G H G' H' → SB N X as γ G' H' E) (h2 : b = false → ∀ G' H', Ext N.T [] G H G' H' → SB N X bs γ G' H' E) : S1 N X (.If c as bs pos) γ G H E := fun σ x env =>
  ws_of (ps_if pt_w pb_w pb_w) (hc σ _ x.wf env fun G1 H1 x1 => by
    cases b with
    | true => exact wb_up x1.g (h1 rfl G1 H1 x1 σ (x.tr x1) (env.up x1.g))
    | false => exact wb_up x1.g (h2 rfl G1 H1 x1 σ (x.tr x1) (env.up x1.g)))
theorem s_ret (he : VJ N.T X e γ G H d) (k : ∀ v G' H', Ext N.T [] G H G' H' → DR X.prog X.w G' v d → E.rt v G' H') : S1 N X (.Return (some e) pos) γ G H E := fun σ x env =>
  ws_of (ps_ret pe_w) (he σ _ x.wf env fun v G1 H1 x1 r1 => ⟨G1, x1.g, x.tr x1, k v G1 H1 x1 r1⟩)
theorem s_brk (h : E.bk γ G H) : S1 N X (.Break pos) γ G H E := fun σ x env => ws_of ps_break ⟨γ, G, fun _ _ z => z, x, env, h⟩
theorem s_never (h : False) : S1 N X st γ G H E := h.elim
theorem s_drop (he : VJ N.T X e γ G H d) (k : ∀ G' H', Ext N.T [] G H G' H' → E.nx γ G' H') (hs : swapsWith e none pos.line X.env = pure false := by rfl) : S1 N X (.Expr e pos) γ G H E := fun σ x env =>
  ws_of (ps_expr pe_w hs) (he σ _ x.wf env fun v G1 H1 x1 r1 => ⟨γ, G1, x1.g, x.tr x1, env.up x1.g, k G1 H1 x1⟩)
/-- x += n -/
theorem s_inc {x : Str} {pos' : Pos} {i j : Int} (n : Nat) (hN : X.N.Nodup) (hγ : γ[n]? = some (.dat (.int i))) (he : EE N.T X e γ (.int j)) (k : ∀ G' H', Ext N.T [] G H G' H' → E.nx (γ.set n (.dat (.int (i + j)))) G' H') (hi : X.N[n]? = some x := by rfl) (hx : Loc X.env.scope x := by first | exact Or.inl rfl | exact Or.inr rfl)
    (hf : X.fn x = true ∨ X.env.scope.names.lookup x = some .local := by first | exact .inl rfl | exact .inr rfl | assumption) : S1 N X (.AugAssign (.Name x pos') .Add e pos) γ G H E := fun σ x0 env => by
  obtain ⟨v, hv, rv⟩ := env.dat n _ hγ
  rw [dr_int rv] at hv
  refine ws_of (ps_aug hN hi hx pe_w ip_add hf) ⟨_, hv, he σ G H _ x0.wf env fun u G1 H1 x1 r1 => ?_⟩
  rw [dr_int r1]
  exact ⟨i, j, rfl, rfl, _, G1, x1.g, x0.tr x1, (env.up x1.g).setD (.int _), k G1 H1 x1⟩

/-! ### loops -/
theorem s_for {tg iter : Expr} {body : List Stmt} {ds : List D} (hc : X.calm = true) (hi : Src N.T X tg iter γ ds) (Pv : Nat → List SV → Hp → Hp → Prop) (h0 : ∀ G' H', Ext N.T [] G H G' H' → Pv 0 γ G' H')
    (hs : ∀ (i : Nat) (d : D) γ' G' H', ds[i]? = some d → Sub G G' → Ext N.T N.M N.G0 N.H0 G' H' → Pv i γ' G' H' → ∀ G2 H2, Ext N.T [] G' H' G2 H2 → ∃ js γ2, GT N.T X tg js d γ' γ2 ∧ SB N X body γ2 G2 H2 { nx := Pv (i + 1), rt := E.rt, bk := E.nx, ct := Pv (i + 1) })
    (hd : ∀ γ' G' H', Sub G G' → Ext N.T N.M N.G0 N.H0 G' H' → Pv ds.length γ' G' H' → E.nx γ' G' H') (hp : PassesOwn (model X.prog X.w) X.A X.env X.xe := by exact PassesOwn.never) (hf : ∀ x, foldedSetIterable iter X.env x = pure x := by intro _; rfl) : S1 N X (.For tg iter body [] pos) γ G H E := fun σ x env => by
  refine ws_of (ps_for hp hc pi_w pg_w pb_w hf) (hi σ G H _ x.wf env fun J G1 H1 x1 jok => ?_)
  refine ⟨fun i m σ' H' => m = ds.length - i ∧ i ≤ ds.length ∧ ∃ γ' G', Sub G1 G' ∧ Ext N.T N.M N.G0 N.H0 G' H' ∧ EnvR X.prog X.w G' σ' γ' ∧ Pv i γ' G' H', ⟨ds.length, rfl, Nat.zero_le _, γ, G1, fun _ _ z => z, x.tr x1, env.up x1.g, h0 G1 H1 x1⟩, ?_⟩
  rintro i m σ' H' ⟨rfl, hle, γ', G', g', x', env', pv⟩
  have gG : Sub G G' := fun b o z => g' _ _ (x1.g _ _ z)
  by_cases hlt : i < ds.length
  · refine .inr ⟨jok.go i G' H' x'.wf g' hlt, fun σ2 H2 => i + 1 ≤ ds.length ∧ ∃ γ2 G2, Sub G1 G2 ∧ Ext N.T N.M N.G0 N.H0 G2 H2 ∧ EnvR X.prog X.w G2 σ2 γ2 ∧ Pv (i + 1) γ2 G2 H2, fun σ2 H2 q => ⟨ds.length - (i + 1), by omega, rfl, q⟩, fun v H2 y => ?_⟩
    have hdi : ds[i]? = some ds[i] := List.getElem?_eq_getElem hlt
    obtain ⟨G2, x2, r2⟩ := jok.yld i G' H' v H2 _ x'.wf g' hdi y
    obtain ⟨js, γ2, gt, sb⟩ := hs i _ γ' G' H' hdi gG x' pv G2 H2 x2
    refine gt σ' G2 H2 v _ x2.wf (env'.up x2.g) r2 fun σ2 env2 _ => ?_
    refine wb_mono (sb σ2 (x'.tr x2) env2) (fun σ3 H3 q => ?_) (fun v3 H3 q => ?_) (fun σ3 H3 q => ?_) (fun σ3 H3 q => ?_)
    · obtain ⟨γ3, G3, g3, x3, env3, q⟩ := q
      exact ⟨hlt, γ3, G3, fun b o z => g3 _ _ (x2.g _ _ (g' _ _ z)), x3, env3, q⟩
    · obtain ⟨G3, g3, r⟩ := q
      exact ⟨G3, fun b o z => g3 _ _ (x2.g _ _ (gG _ _ z)), r⟩
    · exact endS.up (fun b o z => x2.g _ _ (gG _ _ z)) q
    · obtain ⟨γ3, G3, g3, x3, env3, q⟩ := q
      exact ⟨hlt, γ3, G3, fun b o z => g3 _ _ (x2.g _ _ (g' _ _ z)), x3, env3, q⟩
  · have e : i = ds.length := by omega
    subst e
    exact .inl ⟨jok.stop _ G' H' x'.wf g' (Nat.le_refl _), γ', G', gG, x', env', hd γ' G' H' gG x' pv⟩
theorem s_while {c : Expr} {body : List Stmt} (Pv : Nat → List SV → Hp → Hp → Prop) (m0 : Nat) (h0 : Pv m0 γ G H)
    (hs : ∀ (m : Nat) γ' G' H', Sub G G' → Ext N.T N.M N.G0 N.H0 G' H' → Pv m γ' G' H' → ∃ b, TJ N.T X c γ' G' H' b ∧ (b = true → ∀ G2 H2, Ext N.T [] G' H' G2 H2 → SB N X body γ' G2 H2 { nx := fun γ3 G3 H3 => ∃ m', m' < m ∧ Pv m' γ3 G3 H3, rt := E.rt, bk := E.nx, ct := fun γ3 G3 H3 => ∃ m', m' < m ∧ Pv m' γ3 G3 H3 }) ∧
      (b = false → ∀ G2 H2, Ext N.T [] G' H' G2 H2 → E.nx γ' G2 H2)) (hp : PassesOwn (model X.prog X.w) X.A X.env X.xe := by exact PassesOwn.never) : S1 N X (.While c body [] pos) γ G H E := fun σ x env => by
  refine ws_of (ps_while hp pt_w pb_w) ⟨fun m σ' H' => ∃ γ' G', Sub G G' ∧ Ext N.T N.M N.G0 N.H0 G' H' ∧ EnvR X.prog X.w G' σ' γ' ∧ Pv m γ' G' H', ⟨m0, γ, G, fun _ _ z => z, x, env, h0⟩, ?_⟩
  rintro m σ' H' ⟨γ', G', g', x', env', pv⟩
  obtain ⟨b, tj, hb1, hb2⟩ := hs m γ' G' H' g' x' pv
  refine tj σ' _ x'.wf env' fun G2 H2 x2 => ?_
  have g2 : Sub G G2 := fun b o z => x2.g _ _ (g' _ _ z)
  cases b with
  | true =>
    refine ⟨fun σ3 H3 => ∃ m', m' < m ∧ ∃ γ3 G3, Sub G G3 ∧ Ext N.T N.M N.G0 N.H0 G3 H3 ∧ EnvR X.prog X.w G3 σ3 γ3 ∧ Pv m' γ3 G3 H3, fun σ3 H3 q => q, ?_⟩
    refine wb_mono (hb1 rfl G2 H2 x2 σ' (x'.tr x2) (env'.up x2.g)) (fun σ3 H3 q => ?_) (fun v3 H3 q => ?_) (fun σ3 H3 q => endS.up g2 q) (fun σ3 H3 q => ?_)
    · obtain ⟨γ3, G3, g3, x3, env3, m', hm, q⟩ := q
      exact ⟨m', hm, γ3, G3, fun b o z => g3 _ _ (g2 _ _ z), x3, env3, q⟩
    · obtain ⟨G3, g3, r⟩ := q
      exact ⟨G3, fun b o z => g3 _ _ (g2 _ _ z), r⟩
    · obtain ⟨γ3, G3, g3, x3, env3, m', hm, q⟩ := q
      exact ⟨m', hm, γ3, G3, fun b o z => g3 _ _ (g2 _ _ z), x3, env3, q⟩
  | false => exact ⟨γ', G2, g2, x'.tr x2, env'.up x2.g, hb2 rfl G2 H2 x2⟩
end

/-! ### lists that change -/
def ML (P : Program) (w : World) (G H : Hp) (l : Addr) (ds : List D) : Prop := G l = none ∧ ∃ vs, H l = some (.lst vs) ∧ DRs P w G vs ds
theorem ML.ext {P : Program} {w : World} {T M : List Addr} {G H G' H' : Hp} {l : Addr} {ds : List D} (wf : WF T G H) (h : ML P w G H l ds) (x : Ext T M G H G' H') (hm : l ∉ M) : ML P w G' H' l ds := by
  obtain ⟨g, vs, e, r⟩ := h
  refine ⟨?_, vs, x.keep _ _ e (wf.notT e (fun ps z => by cases z)) hm, r.up x.g⟩
  cases q : G' l with
  | none => rfl
  | some u =>
    rcases x.new _ _ q with z | z
    · rw [g] at z; cases z
    · rw [e] at z; cases z
theorem ML.ex {P : Program} {w : World} {T : List Addr} {G H G' H' : Hp} {l : Addr} {ds : List D} (wf : WF T G H) (h : ML P w G H l ds) (x : Ext T [] G H G' H') : ML P w G' H' l ds := h.ext wf x (by simp)
theorem ML.ne {P : Program} {w : World} {G H : Hp} {l m : Addr} {ds : List D} (h : ML P w G H l ds) (hm : H m = none) : l ≠ m := fun e => by
  obtain ⟨_, vs, q, _⟩ := h
  rw [e, hm] at q
  cases q
/-- what does not change any more is known for ever -/
theorem Ext.frz {T M : List Addr} {G0 H0 G H : Hp} (x : Ext T M G0 H0 G H) {l : Addr} {o : HO} (hl : H l = some o) (hg : G l = none) (h0 : H0 l = none) (no : ∀ ps, o ≠ .tbl ps) : Ext T M G0 H0 (upd G l o) H := by
  have nT := x.wf.notT hl no
  refine ⟨fun b u e => ?_, x.keep, fun b u e => ?_, x.there, ⟨fun b u e => ?_, x.wf.tab, fun b z => ?_⟩⟩
  · rw [upd_ne (ne_of_none (x.g _ _ e) hg)]; exact x.g _ _ e
  · by_cases q : b = l
    · rw [q]; exact .inr h0
    · rw [upd_ne q] at e; exact x.new _ _ e
  · by_cases q : b = l
    · rw [q] at e ⊢; rw [upd_same] at e; rw [hl]; exact e
    · rw [upd_ne q] at e; exact x.wf.sub _ _ e
  · rw [upd_ne (fun q => by rw [q] at z; exact nT z)]; exact x.wf.tn b z
theorem sub_upd {G : Hp} {l : Addr} {o : HO} (h : G l = none) : Sub G (upd G l o) := fun b u e => by rw [upd_ne (ne_of_none e h)]; exact e
section
variable {N : En} {X : Cx} {γ : List SV} {G H : Hp} {E : EndD} {st : Stmt} {rest : List Stmt} {e : Expr} {es : List Expr} {pos : Pos} {d : D}
/-- x = [..], a list that will change -/
theorem s_newL {x : Str} {pos' pl : Pos} {ds : List D} (i : Nat) (hN : X.N.Nodup) (ha : EA N.T X es γ ds) (hz : ds.length ≤ sizeLine) (k : ∀ l G' H', H l = none → N.H0 l = none → Ext N.T [] G H G' H' → ML X.prog X.w G' H' l ds → E.nx (γ.set i (.val (.ref l))) G' H') (hi : X.N[i]? = some x := by rfl) (hx : Loc X.env.scope x := by first | exact Or.inl rfl | exact Or.inr rfl)
    (hs : swapsWith (.List es pl) (some (.Name x pos')) pos.line X.env = pure false := by rfl) (hf : X.fn x = true ∨ X.env.scope.names.lookup x = some .local := by first | exact .inl rfl | exact .inr rfl | assumption) : S1 N X (.Assign [.Name x pos'] (.List es pl) pos) γ G H E := fun σ x0 env =>
  ws_of (ps_set hN hi hx (pe_lst pa_w) hs hf) (ha σ G H _ x0.wf env fun vs G1 H1 x1 r1 => ⟨by rw [r1.length]; exact hz, fun l hl => by
    have x2 := x1.tr (Ext.newH (o := .lst vs) x1.wf hl)
    have hl0 : H l = none := by
      cases q : H l with
      | none => rfl
      | some u => exact absurd hl (x1.there l (by rw [q]; exact fun z => by cases z))
    have hl00 : N.H0 l = none := by
      cases q : N.H0 l with
      | none => rfl
      | some u => exact absurd hl0 (x0.there l (by rw [q]; exact fun z => by cases z))
    exact ⟨_, G1, x1.g, x0.tr x2, (env.up x1.g).setV, k l G1 _ hl0 hl00 x2 ⟨x1.wf.gn hl, vs, upd_same, r1⟩⟩⟩)
/-- the exact value of an expression that makes nothing -/
def EV (X : Cx) (e : Expr) (γ : List SV) (G H : Hp) (v : V) : Prop := ∀ (σ : St) (Q : VK), EnvR X.prog X.w G σ γ → Q v H → wE X e σ H Q
theorem ev_var {x : Str} {v : V} (i : Nat) (hγ : γ[i]? = some (.val v) := by rfl) (hN : X.N[i]? = some x := by rfl) (hv : Vis X.env.scope x := by first | exact Or.inl rfl | exact Or.inr (Or.inl rfl) | exact Or.inr (Or.inr rfl)) (hd : (x == ("__debug__" : Str)) = false := by decide)
    (hcd : (x == ("__classdict__" : Str)) = false := by decide) : EV X (.Name x pos) γ G H v := fun σ Q env q => we_of (pe_var hN hv hd hcd) ⟨v, env.val i v hγ, q⟩
theorem ev_fld {C a dx : Addr} {fs : List (Str × V)} {f : Str} {v : V} (ha : EV X e γ G H (.ref a)) (ho : H a = some (.ins C dx fs)) (hc : Cls X.K C) (hn : NoAttr X.K C f) (hl : fs.lookup f = some v) (hb : attributeBase e f X.env (eval e X.env) = eval e X.env := by rfl) : EV X (.Attribute e f pos) γ G H v := fun σ Q env q =>
  we_of (pe_fld pe_w hb) (ha σ _ env ⟨a, C, dx, fs, v, rfl, ho, hc, hn, hl, q⟩)
/-- l.append(e) -/
theorem s_append {o : Expr} {apos cpos : Pos} {l : Addr} {ds : List D} (ho : EV X o γ G H (.ref l)) (he : VJ N.T X e γ G H d) (hm : ML X.prog X.w G H l ds) (hz : ds.length < sizeLine) (h0 : l ∈ N.M ∨ N.H0 l = none) (k : ∀ G' H', Ext N.T [l] G H G' H' → ML X.prog X.w G' H' l (ds ++ [d]) → E.nx γ G' H')
    (hsE : starEach [e] X.env = (false, eval e X.env) :: starEach [] X.env := by rfl) (hbase : attributeBase o "append" X.env (eval o X.env) = eval o X.env := by rfl)
    (hfew : ((backTo cpos (starEach [e] X.env)).all (fun x => !x.1) && (backToKw cpos (keywordEach [] X.env)).all (fun x => x.1.isSome) && decide (([e] : List Expr).length + ([] : List Keyword).length + (if ([] : List Keyword).isEmpty then 0 else 1) < 30)) = true := by rfl)
    (hline : (apos.endLine == cpos.line) = true := by rfl) (hplain : (backTo cpos (starEach [] X.env)).any (·.1) = false := by rfl)
    (hs : swapsWith (.Call (.Attribute o "append" apos) [e] [] cpos) none pos.line X.env = pure false := by rfl) : S1 N X (.Expr (.Call (.Attribute o "append" apos) [e] [] cpos) pos) γ G H E := fun σ x0 env => by
  obtain ⟨gl, vs, hl, r⟩ := id hm
  refine ws_of (ps_expr (pe_bm PySem.F.plainAttrs_list PySem.F.slot_list_append PySem.F.type_list_append mt_append pe_w (pa_cons pe_w pa_nil hsE) hbase hfew hline hsE hplain) hs) (ho σ _ env ⟨.inl ⟨rfl, _, SqL.of hl⟩, he σ _ x0.wf env fun v G1 H1 x1 r1 => ?_⟩)
  obtain ⟨gl1, vs1, hl1, q1⟩ := hm.ex x0.wf x1
  have nT := x1.wf.notT hl1 (fun ps z => by cases z)
  have x2 := (x1.mono (M' := [l]) (by simp)).trans (Ext.mut (o := .lst (vs1 ++ [v])) x1.wf gl1 nT) (fun m hm => .inl hm)
  exact ⟨l, vs1, v, rfl, rfl, hl1, by rw [q1.length]; exact hz, γ, G1, x2.g, x0.trans x2 (fun m hm => by rw [List.mem_singleton.mp hm]; exact h0), env.up x1.g, k G1 _ x2 ⟨gl1, _, upd_same, q1.append (.one r1)⟩⟩
theorem env_frz {P : Program} {w : World} {σ : St} {l : Addr} {i : Nat} {o : HO} {d : D} (env : EnvR P w G σ γ) (hγ : γ[i]? = some (.val (.ref l))) (hg : G l = none) (r : DR P w (upd G l o) (.ref l) d) : EnvR P w (upd G l o) σ (γ.set i (.dat d)) := by
  have e := env.val i _ hγ
  have a := (env.up (sub_upd (o := o) hg)).setD (i := i) r
  have es : σ.set i (some (.ref l)) = σ := by
    apply List.ext_getElem?
    intro j
    by_cases q : i = j
    · subst q
      have hi := (List.getElem?_eq_some_iff.mp e).1
      rw [List.getElem?_set_self hi, e]
    · rw [List.getElem?_set_ne q]
  rw [es] at a
  exact a
/-- from here on the list at slot i stands still -/
theorem sb_frz {l : Addr} {ds : List D} (i : Nat) (hγ : γ[i]? = some (.val (.ref l))) (hm : ML X.prog X.w G H l ds) (h0 : N.H0 l = none) (h : ∀ vs, H l = some (.lst vs) → SB N X rest (γ.set i (.dat (.lst ds))) (upd G l (.lst vs)) H E) : SB N X rest γ G H E := fun σ x env => by
  obtain ⟨gl, vs, hl, r⟩ := hm
  have g := sub_upd (o := .lst vs) gl
  exact wb_up g (h vs hl σ (x.frz hl gl h0 (fun ps z => by cases z)) (env_frz env hγ gl (.lst upd_same (r.up g))))
/-- a value that no heap is asked for -/
def scalD : D → Bool
  | .non => true
  | .bl _ => true
  | .int _ => true
  | .str _ => true
  | _ => false
theorem scal_any {P : Program} {w : World} {G1 G2 : Hp} {v : V} : ∀ {d : D}, scalD d = true → DR P w G1 v d → DR P w G2 v d
  | .non, _, h => by cases h; exact .non
  | .bl _, _, h => by cases h; exact .bl _
  | .int _, _, h => by cases h; exact .int _
  | .str _, _, h => by cases h; exact .str _
  | .lst _, h, _ => by cases h
  | .tup _, h, _ => by cases h
  | .obj _ _ _, h, _ => by cases h
  | .dic _ _, h, _ => by cases h
  | .scr _ _, h, _ => by cases h
/-- asked while something more stands still -/
theorem Ext.thaw {T : List Addr} {G G1 H G2 H2 : Hp} (wf : WF T G H) (g : Sub G G1) (x : Ext T [] G1 H G2 H2) : Ext T [] G H G H2 :=
  ⟨fun _ _ z => z, x.keep, fun _ _ z => .inl z, x.there, ⟨fun b o z => x.wf.sub _ _ (x.g _ _ (g _ _ z)), x.wf.tab, wf.tn⟩⟩
theorem vj_frz {T : List Addr} {G1 : Hp} {γ1 : List SV} (g : Sub G G1) (wf1 : WF T G1 H) (env1 : ∀ σ, EnvR X.prog X.w G σ γ → EnvR X.prog X.w G1 σ γ1) (h : EE T X e γ1 d) (hd : scalD d = true) : VJ T X e γ G H d := fun σ Q wf env k =>
  h σ G1 H Q wf1 (env1 σ env) fun v G2 H2 x2 r2 => k v G H2 (x2.thaw wf g) (scal_any hd r2)
theorem tj_frz {T : List Addr} {G1 : Hp} {γ1 : List SV} {b : Bool} (g : Sub G G1) (wf1 : WF T G1 H) (env1 : ∀ σ, EnvR X.prog X.w G σ γ → EnvR X.prog X.w G1 σ γ1) (h : ET T X e γ1 b) : TJ T X e γ G H b := fun σ Q wf env k =>
  h σ G1 H Q wf1 (env1 σ env) fun G2 H2 x2 => k G H2 (x2.thaw wf g)
theorem WF.frz {T : List Addr} (wf : WF T G H) {l : Addr} {o : HO} (hl : H l = some o) (no : ∀ ps, o ≠ .tbl ps) : WF T (upd G l o) H := by
  have nT := wf.notT hl no
  refine ⟨fun b u e => ?_, wf.tab, fun b z => ?_⟩
  · by_cases q : b = l
    · rw [q] at e ⊢; rw [upd_same] at e; rw [hl]; exact e
    · rw [upd_ne q] at e; exact wf.sub _ _ e
  · rw [upd_ne (fun q => by rw [q] at z; exact nT z)]; exact wf.tn b z
theorem tj_ml {T : List Addr} {l : Addr} {ds : List D} {b : Bool} (i : Nat) (hγ : γ[i]? = some (.val (.ref l))) (wf : WF T G H) (hm : ML X.prog X.w G H l ds) (h : ET T X e (γ.set i (.dat (.lst ds))) b) : TJ T X e γ G H b := by
  obtain ⟨gl, vs, hl, r⟩ := hm
  exact tj_frz (sub_upd gl) (wf.frz hl (fun ps z => by cases z)) (fun σ env => env_frz env hγ gl (.lst upd_same (r.up (sub_upd gl)))) h
end

/-! ### a def by its body -/
section
variable {P : Program} {w : World} {K : PySem.W.Frag} {mg : Str → Option Value} {base : Heap} {T : List Addr}
theorem def_ok {x qual : Str} {st : Stmt} {f : Addr} {fd : FuncData} {N ps : List Str} {k : Nat} {R : List D → D → Prop} (F : Fun K x qual st f fd) (S : FnScope N ps (defScope st)) (len : ∀ ds d, R ds d → ds.length = ps.length)
    (body : ∀ (cdv : Value) (A : Around) (outer : List Env) (s : Shared) (H : Hp) (E : XK) (G : Hp) (ds : List D) (d : D), Room k (A.deeper (PyProof.Rows.envOfC qual (defScope st) s.heap.objs.size f cdv)) → WF T G H → R ds d →
      SB ⟨T, [], G, H⟩ (cxOf CX0 P w K mg base N qual (defScope st) f cdv A outer s H E).nox (defBody st) (ds.map .dat ++ List.replicate (N.length - ds.length) .und) G H { nx := fun _ _ _ => d = .non, rt := fun v G' _ => DR P w G' v d }) :
    FnOk P w K mg base CX0 (k + 1) f fd ps (spR P w T R) := by
  refine F.ok S (fun vs H Q E h => ?_) (fun cdv A outer s H vs Q E hr h => ?_)
  · obtain ⟨ds, d, G, h1, h2, h3, _⟩ := h
    rw [h3.length]
    exact len ds d h1
  · obtain ⟨ds, d, G, h1, h2, h3, h4⟩ := h
    have hl := h3.length
    refine ⟨_, pb_w, ?_⟩
    have env : EnvR P w G (L2.start N vs) (ds.map .dat ++ List.replicate (N.length - ds.length) .und) := by
      refine ⟨by unfold L2.start; simp [hl], fun i y e => ?_, fun i v e => ?_⟩
      · by_cases hi : i < ds.length
        · rw [List.getElem?_append_left (by simpa using hi), List.getElem?_map, List.getElem?_eq_getElem hi] at e
          simp only [Option.map_some, Option.some.injEq] at e
          cases e
          obtain ⟨v, hv, rv⟩ := h3.get (List.getElem?_eq_getElem hi)
          exact ⟨v, by unfold L2.start; rw [List.getElem?_append_left (by simp; omega), List.getElem?_map, hv]; rfl, rv⟩
        · rw [List.getElem?_append_right (by simpa using hi), List.getElem?_replicate] at e
          split at e <;> cases e
      · by_cases hi : i < ds.length
        · rw [List.getElem?_append_left (by simpa using hi), List.getElem?_map, List.getElem?_eq_getElem hi] at e
          simp only [Option.map_some, Option.some.injEq] at e
          cases e
        · rw [List.getElem?_append_right (by simpa using hi), List.getElem?_replicate] at e
          split at e <;> cases e
    refine wb_mono (body cdv A outer s H E G ds d hr h2 h1 (L2.start N vs) (Ext.refl h2) env) (fun σ' H' q => ?_) (fun v H' q => ?_) (fun σ' H' q => ?_) (fun σ' H' q => ?_)
    · obtain ⟨γ', G', g', x', env', e⟩ := q
      subst e
      exact h4 _ G' H' x' .non
    · obtain ⟨G', g', x', q⟩ := q
      exact h4 _ G' H' x' q
    · obtain ⟨γ', G', g', x', env', e⟩ := q
      exact e.elim
    · obtain ⟨γ', G', g', x', env', e⟩ := q
      exact e.elim
end
end HG

set_option Elab.async false
set_option linter.all false
set_option maxRecDepth 100000
set_option maxHeartbeats 4000000
/-! sorted of data. -/
namespace HG
open PySem L2

/-! ### sorting by insertion -/
section
variable {α : Type} (le : α → α → Bool)
def ins (x : α) : List α → List α
  | [] => [x]
  | y :: ys => if le x y then x :: y :: ys else y :: ins x ys
def isort : List α → List α
  | [] => []
  | x :: xs => ins le x (isort xs)
theorem ins_perm (x : α) : ∀ l : List α, (ins le x l).Perm (x :: l)
  | [] => .refl _
  | y :: ys => by
    unfold ins
    split
    · exact .refl _
    · exact (List.Perm.cons y (ins_perm x ys)).trans (List.Perm.swap _ _ _)
theorem isort_perm : ∀ l : List α, (isort le l).Perm l
  | [] => .refl _
  | x :: xs => (ins_perm le x _).trans (List.Perm.cons x (isort_perm xs))
structure LinLe (le : α → α → Bool) : Prop where
  trans : ∀ x y z, le x y = true → le y z = true → le x z = true
  total : ∀ x y, (le x y || le y x) = true
  anti : ∀ x y, le x y = true → le y x = true → x = y
variable {le}
theorem ins_pw (h : LinLe le) (x : α) : ∀ l : List α, l.Pairwise (fun a b => le a b = true) → (ins le x l).Pairwise (fun a b => le a b = true)
  | [], _ => by simp [ins]
  | y :: ys, hp => by
    unfold ins
    obtain ⟨h1, h2⟩ := List.pairwise_cons.mp hp
    by_cases q : le x y = true
    · rw [if_pos q]
      refine List.pairwise_cons.mpr ⟨fun z hz => ?_, hp⟩
      rcases List.mem_cons.mp hz with e | hz
      · rw [e]; exact q
      · exact h.trans _ _ _ q (h1 z hz)
    · rw [if_neg q]
      refine List.pairwise_cons.mpr ⟨fun z hz => ?_, ins_pw h x ys h2⟩
      rcases List.mem_cons.mp ((ins_perm le x ys).mem_iff.mp hz) with e | hz
      · rw [e]
        have t := h.total x y
        simpa [q] using t
      · exact h1 z hz
theorem isort_pw (h : LinLe le) : ∀ l : List α, (isort le l).Pairwise (fun a b => le a b = true)
  | [] => .nil
  | x :: xs => ins_pw h x _ (isort_pw h xs)
theorem isort_merge (h : LinLe le) (l : List α) : l.mergeSort le = isort le l := (PySem.W.Srt.the_of_perm le h.trans h.total h.anti (isort_perm le l) (isort_pw h l)).symm
end

/-! ### data as the sort reads it -/
mutual
def pd : D → PyData
  | .non => .none
  | .bl b => .bool b
  | .int i => .int i
  | .str x => .str x
  | .lst xs => .list (pds xs)
  | .tup xs => .tuple (pds xs)
  | .obj _ _ _ => .none
  | .dic _ _ => .none
  | .scr _ _ => .none
def pds : List D → List PyData
  | [] => []
  | d :: ds => pd d :: pds ds
end
mutual
def flatD : D → Bool
  | .non => true
  | .bl _ => true
  | .int _ => true
  | .str _ => true
  | .lst xs => flatDs xs
  | .tup xs => flatDs xs
  | .obj _ _ _ => false
  | .dic _ _ => false
  | .scr _ _ => false
def flatDs : List D → Bool
  | [] => true
  | d :: ds => flatD d && flatDs ds
end
theorem pds_map (ds : List D) : pds ds = ds.map pd := by
  induction ds with
  | nil => rfl
  | cons d ds ih => rw [pds, ih]; rfl
mutual
theorem dr_dp {P : Program} {w : World} {K : PySem.W.Frag} {G H : Hp} (g : Sub G H) : ∀ (d : D) (v : V), flatD d = true → DR P w G v d → Dp K H v (pd d)
  | .non, _, _, h => by cases h; exact .non
  | .bl b, _, _, h => by cases h; exact .bl b
  | .int i, _, _, h => by cases h; exact .int i
  | .str x, _, _, h => by cases h; exact .str x
  | .lst xs, _, f, h => by
    cases h with
    | lst h1 h2 => exact .lst (SqL.of (g _ _ h1)) (drs_dp g xs _ (by simpa [flatD] using f) h2)
  | .tup xs, _, f, h => by
    cases h with
    | tup h1 h2 => exact .tup (SqT.of (g _ _ h1)) (drs_dp g xs _ (by simpa [flatD] using f) h2)
  | .obj _ _ _, _, f, _ => by simp [flatD] at f
  | .dic _ _, _, f, _ => by simp [flatD] at f
  | .scr _ _, _, f, _ => by simp [flatD] at f
theorem drs_dp {P : Program} {w : World} {K : PySem.W.Frag} {G H : Hp} (g : Sub G H) : ∀ (ds : List D) (vs : List V), flatDs ds = true → DRs P w G vs ds → DpAll K H vs (pds ds)
  | [], _, _, h => by cases h; exact .nil
  | d :: ds, _, f, h => by
    cases h with
    | cons h1 h2 =>
      have f' : flatD d = true ∧ flatDs ds = true := by simpa [flatDs] using f
      exact .cons (dr_dp g d _ f'.1 h1) (drs_dp g ds _ f'.2 h2)
end

/-! ### sorted -/
def rSortD (K : PySem.W.Frag) : List V → Hp → VK → Prop := fun vs H Q => ∃ (a : Addr) (zs : List (V × PyData)), vs = [.ref a] ∧ SqL K H a (zs.map (·.1)) ∧ (∀ z ∈ zs, Dp K H z.1 z.2) ∧ PySem.W.AllAlike (zs.map (·.2)) ∧ PySem.W.Sortable (zs.map (·.2)) ∧ (∀ z ∈ zs, z.2.depth ≤ 60) ∧
  ∀ p, H p = none → Q (.ref p) (upd H p (.lst ((zs.mergeSort (PySem.W.dataLe false (·.2))).map (·.1))))
theorem each_vals {zs : List (V × PyData)} : ∀ {us : List Value}, Vals (zs.map (·.1)) us → PySem.W.EachIs (fun u (z : V × PyData) => RelV z.1 u) us zs := by
  induction zs with
  | nil => intro us h; cases h; exact .nil
  | cons z zs ih =>
    intro us h
    have h' : Vals (z.1 :: zs.map (·.1)) us := h
    cases h' with
    | cons r t => exact .cons r (ih t)
theorem vals_each {zs : List (V × PyData)} : ∀ {us : List Value}, PySem.W.EachIs (fun u (z : V × PyData) => RelV z.1 u) us zs → Vals (zs.map (·.1)) us := by
  induction zs with
  | nil => intro us h; cases h; exact .nil
  | cons z zs ih =>
    intro us h
    cases h with
    | cons r t => exact .cons r (ih t)
theorem each_imp {α β : Type} {R S : α → β → Prop} : ∀ {as : List α} {bs : List β}, PySem.W.EachIs R as bs → (∀ a b, b ∈ bs → R a b → S a b) → PySem.W.EachIs S as bs
  | _, _, .nil, _ => .nil
  | _, _, .cons h t, k => .cons (k _ _ List.mem_cons_self h) (each_imp t fun a b hb r => k a b (List.mem_cons_of_mem _ hb) r)
theorem cr_sortD {X : Cx} (hu : X.A.units + 64 < cLine) : CallR X (.builtin "sorted") (rSortD X.K) := by
  intro pins s σ H vs us Q I r h
  obtain ⟨a, zs, rfl, hs, hdp, hal, hso, hde, q⟩ := h
  obtain rfl := Vals.ref1 r
  obtain ⟨its, rv, hl, hz⟩ := I.list hs
  rw [List.length_map] at hz
  have e := each_vals rv
  refine PySem.W.sorted_data (enc := (·.2)) hl.isList e (each_imp e fun u z hz r => Dp.reads I _ _ _ (hdp z hz) r) hal hso hz (fun z hz => by have := hde z hz; omega) fun out ho eo => ?_
  obtain ⟨ep, he'⟩ := PyProof.Rows.sortedAll_at s.heap its out.toArray
  have rv' := vals_each eo
  have hlen : ((zs.mergeSort (PySem.W.dataLe false (·.2))).map (·.1)).length ≤ sizeLine := by
    rw [List.length_map, (List.mergeSort_perm _ _).length_eq]
    exact hz
  exact ⟨.ref _, upd H (s.heap.objs.size + 1) (.lst _), I.laid (t' := s.toks) (fun _ _ => PyProof.Rows.sortedAll_old) (Nat.le_succ _) ⟨hlen, out, ep, rv', he'⟩, rfl, q _ (I.hok.fresh (Nat.le_succ _))⟩

theorem zip_fst {α β : Type} : ∀ {as : List α} {bs : List β}, as.length = bs.length → (as.zip bs).map (·.1) = as
  | [], _, _ => rfl
  | _ :: _, [], h => by simp at h
  | a :: as, b :: bs, h => by
    show a :: (as.zip bs).map (·.1) = a :: as
    rw [zip_fst (by simpa using h)]
theorem zip_snd {α β : Type} : ∀ {as : List α} {bs : List β}, as.length = bs.length → (as.zip bs).map (·.2) = bs
  | [], [], _ => rfl
  | [], _ :: _, h => by simp at h
  | _ :: _, [], h => by simp at h
  | a :: as, b :: bs, h => by
    show b :: (as.zip bs).map (·.2) = b :: bs
    rw [zip_snd (by simpa using h)]
theorem drs_mem {P : Program} {w : World} {G : Hp} {α : Type} {enc : α → D} : ∀ {vs : List V} {xs : List α}, DRs P w G vs (xs.map enc) → ∀ z ∈ vs.zip xs, DR P w G z.1 (enc z.2)
  | [], xs, _, z, hz => by simp at hz
  | _ :: _, [], h, z, hz => by simp at hz
  | v :: vs, x :: xs, h, z, hz => by
    have h' : DRs P w G (v :: vs) (enc x :: xs.map enc) := h
    cases h' with
    | cons h1 h2 =>
      rcases List.mem_cons.mp (show z ∈ (v, x) :: vs.zip xs from hz) with e | hz
      · subst e; exact h1
      · exact drs_mem h2 z hz
theorem drs_of_all {P : Program} {w : World} {G : Hp} {α : Type} {enc : α → D} : ∀ {zs : List (V × α)}, (∀ z ∈ zs, DR P w G z.1 (enc z.2)) → DRs P w G (zs.map (·.1)) ((zs.map (·.2)).map enc)
  | [], _ => .nil
  | z :: zs, h => .cons (h z List.mem_cons_self) (drs_of_all fun y hy => h y (List.mem_cons_of_mem _ hy))

section
variable {T : List Addr} {X : Cx} {γ : List SV} {e : Expr} {p pos : Pos}
theorem ee_sorted {α : Type} {xs : List α} (enc : α → D) (le : α → α → Bool) (hle : LinLe le) (h : EE T X e γ (.lst (xs.map enc))) (hm : X.mg "sorted" = none) (hu : X.A.units + 64 < cLine) (hf : ∀ x, flatD (enc x) = true) (hal : ∀ x y, PySem.W.alike (pd (enc x)) (pd (enc y)) = true)
    (hso : PySem.W.Sortable (xs.map fun x => pd (enc x))) (hde : ∀ x, (pd (enc x)).depth ≤ 60) (hld : ∀ x y, PySem.W.dataLe false (fun a => pd (enc a)) x y = le x y)
    (hg : Gl X "sorted" := by rfl) (he : starEach [e] X.env = (false, eval e X.env) :: starEach [] X.env := by rfl) (hpl : (backTo pos (starEach [] X.env)).any (·.1) = false := by rfl) :
    EE T X (.Call (.Name "sorted" p) [e] [] pos) γ (.lst ((isort le xs).map enc)) :=
  ee_callB (cr_sortD hu) hm PyProof.Rows.boot_sorted (ea_cons h ea_nil he) (fun vs G H Q wf r k => by
    obtain ⟨v, rfl, rr⟩ := drs1 r
    obtain ⟨l, vs, rfl, g1, q1⟩ := dr_lst rr
    have hl : vs.length = xs.length := by rw [q1.length, List.length_map]
    have hmem := drs_mem q1
    have e1 : ((vs.zip xs).map fun z => (z.1, pd (enc z.2))).map (·.1) = vs := by rw [List.map_map]; exact zip_fst hl
    have e2 : ((vs.zip xs).map fun z => (z.1, pd (enc z.2))).map (·.2) = xs.map fun x => pd (enc x) := by
      rw [List.map_map]
      have e3 : ((vs.zip xs).map (·.2)).map (fun x => pd (enc x)) = xs.map fun x => pd (enc x) := by rw [zip_snd hl]
      rw [List.map_map] at e3
      exact e3
    refine ⟨l, (vs.zip xs).map fun z => (z.1, pd (enc z.2)), rfl, by rw [e1]; exact SqL.of (wf.sub _ _ g1), fun z hz => ?_, ?_, by rw [e2]; exact hso, fun z hz => ?_, fun q hq => ?_⟩
    · obtain ⟨y, hy, rfl⟩ := List.mem_map.mp hz
      exact dr_dp wf.sub _ _ (hf y.2) (hmem y hy)
    · rw [e2]
      intro d hd d' hd'
      obtain ⟨x, _, rfl⟩ := List.mem_map.mp hd
      obtain ⟨y, _, rfl⟩ := List.mem_map.mp hd'
      exact hal x y
    · obtain ⟨y, hy, rfl⟩ := List.mem_map.mp hz
      exact hde y.2
    · have em : (((vs.zip xs).map fun z => (z.1, pd (enc z.2))).mergeSort (PySem.W.dataLe false (·.2))).map (·.1) = ((vs.zip xs).mergeSort (fun a b => le a.2 b.2)).map (·.1) := by
        have q0 := PySem.W.sort_maps (r := fun a b : V × α => le a.2 b.2) (s := PySem.W.dataLe false (fun z : V × PyData => z.2)) (fun z : V × α => (z.1, pd (enc z.2))) (l := vs.zip xs) (fun a _ b _ => (hld a.2 b.2).symm)
        rw [← q0, List.map_map]
        rfl
      have es : ((vs.zip xs).mergeSort (fun a b => le a.2 b.2)).map (·.2) = isort le xs := by
        have q0 := PySem.W.sort_maps (r := fun a b : V × α => le a.2 b.2) (s := le) (fun z : V × α => z.2) (l := vs.zip xs) (fun a _ b _ => rfl)
        rw [q0, zip_snd hl, isort_merge hle]
      rw [em]
      refine k _ _ _ (Ext.newG wf hq) (dr_newL wf hq ?_)
      rw [← es]
      exact drs_of_all fun z hz => hmem z ((List.mergeSort_perm _ _).mem_iff.mp hz)) hg (by decide) (by decide) he hpl
end

/-! ### the orders -/
def leB (a b : Int × Int) : Bool := decide (a.1 < b.1 ∨ (a.1 = b.1 ∧ a.2 ≤ b.2))
theorem leB_lin : LinLe leB := by
  refine ⟨fun x y z h1 h2 => ?_, fun x y => ?_, fun x y h1 h2 => ?_⟩
  · simp only [leB, decide_eq_true_eq] at *; omega
  · simp only [leB, Bool.or_eq_true, decide_eq_true_eq]; omega
  · simp only [leB, decide_eq_true_eq] at h1 h2
    exact Prod.ext (by omega) (by omega)
/-- lists, the first items that differ decide -/
def leLs {α : Type} [DecidableEq α] (le : α → α → Bool) : List α → List α → Bool
  | [], _ => true
  | _ :: _, [] => false
  | x :: xs, y :: ys => if x = y then leLs le xs ys else le x y
theorem leLs_lin {α : Type} [DecidableEq α] {le : α → α → Bool} (h : LinLe le) : LinLe (leLs le) := by
  have ref : ∀ x, le x x = true := fun x => by simpa using h.total x x
  refine ⟨?_, ?_, ?_⟩
  · intro x
    induction x with
    | nil => intro y z _ _; rfl
    | cons a x ih =>
      intro y z h1 h2
      cases y with
      | nil => cases h1
      | cons b y =>
        cases z with
        | nil => cases h2
        | cons c z =>
          unfold leLs at h1 h2 ⊢
          by_cases e1 : a = b
          · subst e1
            rw [if_pos rfl] at h1
            by_cases e2 : a = c
            · subst e2
              rw [if_pos rfl] at h2 ⊢
              exact ih _ _ h1 h2
            · rw [if_neg e2] at h2 ⊢
              exact h2
          · rw [if_neg e1] at h1
            by_cases e2 : b = c
            · subst e2
              rw [if_neg e1]
              exact h1
            · rw [if_neg e2] at h2
              have h3 := h.trans _ _ _ h1 h2
              by_cases e3 : a = c
              · subst e3
                exact absurd (h.anti _ _ h1 h2) e1
              · rw [if_neg e3]
                exact h3
  · intro x
    induction x with
    | nil => intro y; simp [leLs]
    | cons a x ih =>
      intro y
      cases y with
      | nil => simp [leLs]
      | cons b y =>
        unfold leLs
        by_cases e : a = b
        · subst e
          simp only [if_true]
          exact ih y
        · rw [if_neg e, if_neg (fun z => e z.symm)]
          exact h.total a b
  · intro x
    induction x with
    | nil =>
      intro y h1 h2
      cases y with
      | nil => rfl
      | cons b y => cases h2
    | cons a x ih =>
      intro y h1 h2
      cases y with
      | nil => cases h1
      | cons b y =>
        unfold leLs at h1 h2
        by_cases e : a = b
        · subst e
          rw [if_pos rfl] at h1 h2
          rw [ih y h1 h2]
        · rw [if_neg e] at h1
          rw [if_neg (fun z => e z.symm)] at h2
          exact absurd (h.anti _ _ h1 h2) e
def leI (a b : Int) : Bool := decide (a ≤ b)
theorem leI_lin : LinLe leI := by
  refine ⟨fun x y z h1 h2 => ?_, fun x y => ?_, fun x y h1 h2 => ?_⟩
  · simp only [leI, decide_eq_true_eq] at *; omega
  · simp only [leI, Bool.or_eq_true, decide_eq_true_eq]; omega
  · simp only [leI, decide_eq_true_eq] at h1 h2; omega

/-- not less -/
def nlt (x y : PyData) : Bool := !PySem.W.dataLt y x
theorem rowLt_eq {α : Type} [DecidableEq α] {le : α → α → Bool} (h : LinLe le) (en : α → PyData) (hal : ∀ x y, PySem.W.alike (en x) (en y) = true) (heq : ∀ x y, PyData.eqv (en x) (en y) = decide (x = y)) (hle : ∀ x y, (!PySem.W.dataLt (en y) (en x)) = le x y) :
    ∀ xs ys : List α, (!PySem.W.rowLt (ys.map en) (xs.map en)) = leLs le xs ys
  | [], [] => by
    have e : PySem.W.rowLt [] [] = false := PyProof.Rows.lex_irrefl _
    show (!PySem.W.rowLt [] []) = true
    rw [e]; rfl
  | [], y :: ys => by
    have e : PySem.W.rowLt (en y :: ys.map en) [] = false := by
      unfold PySem.W.rowLt
      rw [PySem.W.toks_all_cons]
      simp only [PySem.W.keyToksAll]
      rw [PyProof.Rows.lex_diff (O := PyProof.Rows.itemOrd) (by simp)]
      rfl
    show (!PySem.W.rowLt (en y :: ys.map en) []) = true
    rw [e]; rfl
  | x :: xs, [] => by
    have e : PySem.W.rowLt [] (en x :: xs.map en) = true := by
      unfold PySem.W.rowLt
      rw [PySem.W.toks_all_cons]
      simp only [PySem.W.keyToksAll]
      rw [PyProof.Rows.lex_diff (O := PyProof.Rows.itemOrd) (by simp)]
      rfl
    show (!PySem.W.rowLt [] (en x :: xs.map en)) = false
    rw [e]; rfl
  | x :: xs, y :: ys => by
    have e : PySem.W.rowLt (en y :: ys.map en) (en x :: xs.map en) = if y = x then PySem.W.rowLt (ys.map en) (xs.map en) else PySem.W.dataLt (en y) (en x) := by
      unfold PySem.W.rowLt
      rw [PySem.W.dataLt_cons (hal y x), heq]
      simp only [decide_eq_true_eq]
    show (!PySem.W.rowLt (en y :: ys.map en) (en x :: xs.map en)) = leLs le (x :: xs) (y :: ys)
    rw [e]
    unfold leLs
    by_cases q : x = y
    · subst q
      rw [if_pos rfl, if_pos rfl]
      exact rowLt_eq h en hal heq hle xs ys
    · rw [if_neg (fun z => q z.symm), if_neg q]
      exact hle x y
end HG

set_option Elab.async false
set_option linter.all false
set_option maxRecDepth 100000
set_option maxHeartbeats 4000000
/-! The orders of this program: blocks, layouts, triples. -/
namespace HG
open PySem L2
def lexP {α β : Type} [DecidableEq α] (l1 : α → α → Bool) (l2 : β → β → Bool) (a b : α × β) : Bool := if a.1 = b.1 then l2 a.2 b.2 else l1 a.1 b.1
theorem lexP_lin {α β : Type} [DecidableEq α] {l1 : α → α → Bool} {l2 : β → β → Bool} (h1 : LinLe l1) (h2 : LinLe l2) : LinLe (lexP l1 l2) := by
  refine ⟨fun x y z a b => ?_, fun x y => ?_, fun x y a b => ?_⟩
  · unfold lexP at a b ⊢
    by_cases e1 : x.1 = y.1
    · rw [if_pos e1] at a
      by_cases e2 : y.1 = z.1
      · rw [if_pos e2] at b
        rw [if_pos (e1.trans e2)]
        exact h2.trans _ _ _ a b
      · rw [if_neg e2] at b
        rw [if_neg (fun q => e2 (e1.symm.trans q)), e1]
        exact b
    · rw [if_neg e1] at a
      by_cases e2 : y.1 = z.1
      · rw [if_neg (fun q => e1 (q.trans e2.symm)), ← e2]
        exact a
      · rw [if_neg e2] at b
        by_cases e3 : x.1 = z.1
        · rw [← e3] at b
          exact absurd (h1.anti _ _ a b) e1
        · rw [if_neg e3]
          exact h1.trans _ _ _ a b
  · unfold lexP
    by_cases e : x.1 = y.1
    · rw [if_pos e, if_pos e.symm]
      exact h2.total _ _
    · rw [if_neg e, if_neg (fun q => e q.symm)]
      exact h1.total _ _
  · unfold lexP at a b
    by_cases e : x.1 = y.1
    · rw [if_pos e] at a
      rw [if_pos e.symm] at b
      exact Prod.ext e (h2.anti _ _ a b)
    · rw [if_neg e] at a
      rw [if_neg (fun q => e q.symm)] at b
      exact absurd (h1.anti _ _ a b) e
abbrev T3 := Int × List Int × Int
def leT : T3 → T3 → Bool := lexP leI (lexP (leLs leI) leI)
theorem leT_lin : LinLe leT := lexP_lin leI_lin (lexP_lin (leLs_lin leI_lin) leI_lin)
theorem eqv_ints : ∀ xs ys : List Int, PyData.eqv (.list (xs.map .int)) (.list (ys.map .int)) = decide (xs = ys)
  | [], [] => by simp [PyData.eqv, PyData.eqvAll]
  | [], y :: ys => by simp [PyData.eqv, PyData.eqvAll]
  | x :: xs, [] => by simp [PyData.eqv, PyData.eqvAll]
  | x :: xs, y :: ys => by
    have ih := eqv_ints xs ys
    simp only [PyData.eqv] at ih
    simp [PyData.eqv, PyData.eqvAll, ih]
    by_cases h : x = y <;> simp [h]
theorem nlt_int (x y : Int) : (!PySem.W.dataLt (.int y) (.int x)) = leI x y := by
  rw [PySem.W.dataLt_int, PySem.W.not_lt_int]; rfl
theorem nlt_ints (xs ys : List Int) : (!PySem.W.dataLt (.list (ys.map .int)) (.list (xs.map .int))) = leLs leI xs ys := by
  rw [PySem.W.dataLt_list]
  exact rowLt_eq leI_lin PyData.int (fun _ _ => by simp [PySem.W.alike]) (fun x y => by simp [PyData.eqv]; by_cases h : x = y <;> simp [h]) (fun x y => nlt_int x y) xs ys
def en3 (a : T3) : PyData := .tuple [.int a.1, .list (a.2.1.map .int), .int a.2.2]
theorem en3_alike (x y : T3) : PySem.W.alike (en3 x) (en3 y) = true := by
  simp [en3, PySem.W.alike, PySem.W.alikeAll, PySem.W.alike_ints]
theorem nlt_3 (x y : T3) : (!PySem.W.dataLt (en3 y) (en3 x)) = leT x y := by
  unfold en3
  rw [PySem.W.dataLt_tuple, PySem.W.dataLt_cons (by simp [PySem.W.alike]), PySem.W.dataLt_cons (by simp [PySem.W.alike, PySem.W.alike_ints]), PySem.W.dataLt_cons (by simp [PySem.W.alike]), eqv_ints]
  have e : PyProof.Rows.lexLt PyProof.Rows.itemOrd (PySem.W.keyToksAll []) (PySem.W.keyToksAll []) = false := PyProof.Rows.lex_irrefl _
  rw [e]
  have ei : ∀ i j : Int, PyData.eqv (.int i) (.int j) = decide (i = j) := fun i j => by simp [PyData.eqv]; by_cases h : i = j <;> simp [h]
  rw [ei, ei]
  simp only [decide_eq_true_eq]
  unfold leT lexP
  by_cases h1 : x.1 = y.1
  · rw [if_pos h1.symm, if_pos h1]
    by_cases h2 : x.2.1 = y.2.1
    · rw [if_pos h2.symm, if_pos h2]
      by_cases h3 : y.2.2 = x.2.2
      · rw [if_pos h3, h3]
        simp [leI]
      · rw [if_neg h3]
        exact nlt_int _ _
    · rw [if_neg (fun q => h2 q.symm), if_neg h2]
      exact nlt_ints _ _
  · rw [if_neg (fun q => h1 q.symm), if_neg h1]
    exact nlt_int _ _

/-! ### blocks, layouts -/
abbrev Lay := List (Int × Int)
abbrev encB (b : Int × Int) : D := .tup [.int b.1, .int b.2]
abbrev encL (l : Lay) : D := .lst (l.map encB)
theorem nlt_b (x y : Int × Int) : (!PySem.W.dataLt (pd (encB y)) (pd (encB x))) = leB x y := by
  have e := congrFun (congrFun (PySem.W.dataLe_ii (β := Int × Int) (fun p => p.1) (fun p => p.2)) x) y
  exact e
theorem eqv_b (x y : Int × Int) : PyData.eqv (pd (encB x)) (pd (encB y)) = decide (x = y) := by
  obtain ⟨a, b⟩ := x
  obtain ⟨c, d⟩ := y
  simp [pd, pds, PyData.eqv, PyData.eqvAll]
  by_cases h : a = c <;> by_cases h2 : b = d <;> simp [h, h2]
theorem alike_b (x y : Int × Int) : PySem.W.alike (pd (encB x)) (pd (encB y)) = true := by simp [pd, pds, PySem.W.alike, PySem.W.alikeAll]
theorem pd_encL (l : Lay) : pd (encL l) = .list (l.map fun b => pd (encB b)) := by
  show PyData.list (pds (l.map encB)) = _
  rw [pds_map, List.map_map]; rfl
theorem alikeAll_map {α : Type} (f : α → PyData) (h : ∀ x y, PySem.W.alike (f x) (f y) = true) : ∀ xs ys : List α, PySem.W.alikeAll (xs.map f) (ys.map f) = true
  | [], _ => by simp [PySem.W.alikeAll]
  | _ :: _, [] => by simp [PySem.W.alikeAll]
  | x :: xs, y :: ys => by simp [PySem.W.alikeAll, h, alikeAll_map f h xs ys]
def leL : Lay → Lay → Bool := leLs leB
theorem leL_lin : LinLe leL := leLs_lin leB_lin
theorem nlt_l (x y : Lay) : (!PySem.W.dataLt (pd (encL y)) (pd (encL x))) = leL x y := by
  rw [pd_encL, pd_encL, PySem.W.dataLt_list]
  exact rowLt_eq leB_lin (fun b => pd (encB b)) alike_b eqv_b nlt_b x y
theorem sort_oth (xs : List PyData) : PyData.list xs ≠ .none ∧ ∀ ys, PyData.list xs ≠ .tuple ys := ⟨fun z => (by cases z), fun ys z => (by cases z)⟩
theorem depthAll_map {α : Type} (f : α → PyData) (n : Nat) (h : ∀ x, (f x).depth ≤ n) : ∀ xs : List α, PyData.depthAll (xs.map f) ≤ n
  | [] => by simp [PyData.depthAll]
  | x :: xs => by
    have := h x
    have := depthAll_map f n h xs
    simp only [List.map_cons, PyData.depthAll]
    omega
theorem depth_b (x : Int × Int) : (pd (encB x)).depth ≤ 1 := by simp [pd, pds, PyData.depth, PyData.depthAll]
theorem depth_l (x : Lay) : (pd (encL x)).depth ≤ 2 := by
  rw [pd_encL]
  have := depthAll_map (fun b => pd (encB b)) 1 depth_b x
  simp only [PyData.depth]
  omega
theorem flatDs_map {α : Type} (f : α → D) (h : ∀ x, flatD (f x) = true) : ∀ xs : List α, flatDs (xs.map f) = true
  | [] => rfl
  | x :: xs => by simp [flatDs, h, flatDs_map f h xs]
theorem flat_b (x : Int × Int) : flatD (encB x) = true := rfl
theorem flat_l (x : Lay) : flatD (encL x) = true := flatDs_map _ flat_b x
theorem flat_is (x : List Int) : flatD (.lst (x.map .int)) = true := flatDs_map _ (fun _ => rfl) x
def enc3 (a : T3) : D := .tup [.int a.1, .lst (a.2.1.map .int), .int a.2.2]
theorem pds_ints (xs : List Int) : pds (xs.map .int) = xs.map .int := by
  rw [pds_map, List.map_map]; rfl
theorem pd_enc3 (a : T3) : pd (enc3 a) = en3 a := by
  show PyData.tuple [.int a.1, .list (pds (a.2.1.map .int)), .int a.2.2] = _
  rw [pds_ints]; rfl
theorem flat_3 (a : T3) : flatD (enc3 a) = true := by
  have := flat_is a.2.1
  simp only [flatD] at this
  simp [enc3, flatD, flatDs, this]
theorem depth_3 (a : T3) : (pd (enc3 a)).depth ≤ 2 := by
  rw [pd_enc3]
  simp [en3, PyData.depth, PyData.depthAll, PySem.W.depth_ints]

section
variable {T : List Addr} {X : Cx} {γ : List SV} {e : Expr} {p pos : Pos}
theorem ee_sortB {xs : Lay} (h : EE T X e γ (encL xs)) (hm : X.mg "sorted" = none) (hu : X.A.units + 64 < cLine)
    (hg : Gl X "sorted" := by rfl) (he : starEach [e] X.env = (false, eval e X.env) :: starEach [] X.env := by rfl) (hpl : (backTo pos (starEach [] X.env)).any (·.1) = false := by rfl) :
    EE T X (.Call (.Name "sorted" p) [e] [] pos) γ (encL (isort leB xs)) :=
  ee_sorted encB leB leB_lin h hm hu flat_b alike_b (PySem.W.Sortable.tuples fun b => ⟨_, _, rfl⟩) (fun x => Nat.le_trans (depth_b x) (by decide)) nlt_b hg he hpl
theorem ee_sortL {xs : List Lay} (h : EE T X e γ (.lst (xs.map encL))) (hm : X.mg "sorted" = none) (hu : X.A.units + 64 < cLine)
    (hg : Gl X "sorted" := by rfl) (he : starEach [e] X.env = (false, eval e X.env) :: starEach [] X.env := by rfl) (hpl : (backTo pos (starEach [] X.env)).any (·.1) = false := by rfl) :
    EE T X (.Call (.Name "sorted" p) [e] [] pos) γ (.lst ((isort leL xs).map encL)) :=
  ee_sorted encL leL leL_lin h hm hu flat_l (fun x y => by rw [pd_encL, pd_encL]; simp [PySem.W.alike, alikeAll_map _ alike_b x y]) (.inr fun d hd => by
    obtain ⟨b, _, rfl⟩ := List.mem_map.mp hd
    rw [pd_encL]
    exact sort_oth _) (fun x => Nat.le_trans (depth_l x) (by decide)) nlt_l hg he hpl
theorem ee_sort3 {xs : List T3} (h : EE T X e γ (.lst (xs.map enc3))) (hm : X.mg "sorted" = none) (hu : X.A.units + 64 < cLine)
    (hg : Gl X "sorted" := by rfl) (he : starEach [e] X.env = (false, eval e X.env) :: starEach [] X.env := by rfl) (hpl : (backTo pos (starEach [] X.env)).any (·.1) = false := by rfl) :
    EE T X (.Call (.Name "sorted" p) [e] [] pos) γ (.lst ((isort leT xs).map enc3)) :=
  ee_sorted enc3 leT leT_lin h hm hu flat_3 (fun x y => by rw [pd_enc3, pd_enc3]; exact en3_alike x y) (PySem.W.Sortable.tuples fun b => ⟨_, _, pd_enc3 b⟩) (fun x => Nat.le_trans (depth_3 x) (by decide)) (fun x y => by
    show (!PySem.W.dataLt (pd (enc3 y)) (pd (enc3 x))) = _
    rw [pd_enc3, pd_enc3]; exact nlt_3 x y) hg he hpl
end
end HG

set_option Elab.async false
set_option linter.all false
set_option maxRecDepth 100000
set_option maxHeartbeats 4000000
/-! Dicts whose keys are nested tuples of ints, by data. -/
namespace HG
open PySem L2

mutual
theorem kr_nested {P : Program} {w : World} {G H : Hp} {h : Heap} (ok : HOk P w H h) (g : Sub G H) : ∀ (k : NestedKey) (v : V) (u : Value), KR G v k → RelV v u → NestedIs h k u
  | .num i, _, _, h1, r => by
    cases h1
    obtain ⟨t, rfl⟩ := r
    exact .int i t
  | .none, _, _, h1, _ => by cases h1
  | .text _, _, _, h1, _ => by cases h1
  | .tup ks, _, _, h1, r => by
    cases h1 with
    | tup ha hs =>
      cases r
      obtain ⟨_, its, rv, o, ho, hc, n, hd⟩ := ok _ _ (g _ _ ha)
      exact .tup ho hc hd (krs_nested ok g ks _ _ hs rv)
theorem krs_nested {P : Program} {w : World} {G H : Hp} {h : Heap} (ok : HOk P w H h) (g : Sub G H) : ∀ (ks : List NestedKey) (vs : List V) (us : List Value), KRs G vs ks → Vals vs us → NestedAll h ks us
  | [], _, _, h1, r => by cases h1; cases r; exact .nil
  | k :: ks, _, _, h1, r => by
    cases h1 with
    | cons a b =>
      cases r with
      | cons r1 r2 => exact .cons (kr_nested ok g k _ _ a r1) (krs_nested ok g ks _ _ b r2)
end
theorem dic_at {P : Program} {w : World} {G H : Hp} {h : Heap} {d : Addr} {o : Obj} {xs : List (NestedKey × Addr × Value)} (ok : HOk P w H h) (g : Sub G H) (hd : H d = some (objHO d o)) (x : DicOk P w G d o xs) : h.DictOfH (nestedKind P w) d xs := by
  obtain ⟨es, ep, h1, h2⟩ := x.dat
  exact ⟨o, es, ep, obj_at ok hd, x.ex, h1, h2, fun y hy => ⟨kr_nested ok g _ _ _ (x.keys y hy).1 rfl, (x.keys y hy).2⟩, x.nd⟩

theorem atKey_some {xs : List (NestedKey × Addr × Value)} {k : NestedKey} : (atKey xs k).isSome = decide (k ∈ xs.map (·.1)) := by
  induction xs with
  | nil => rfl
  | cons x xs ih =>
    by_cases h : x.1 = k
    · simp [atKey, h]
    · have h' : ¬ k = x.1 := fun e => h e.symm
      have e : atKey (x :: xs) k = atKey xs k := by simp [atKey, h]
      rw [e, ih]
      simp [h']
/-- what the dict says at a key -/
def dlook (ks : List NestedKey) (ds : List D) (k : NestedKey) : Option D := ((ks.zip ds).find? fun p => decide (p.1 = k)).map (·.2)
theorem dic_find {P : Program} {w : World} {G : Hp} {k : NestedKey} : ∀ {xs : List (NestedKey × Addr × Value)} {vs : List V} {ds : List D}, Vals vs (xs.map (·.2.2)) → DRs P w G vs ds →
    (atKey xs k = none ∧ dlook (xs.map (·.1)) ds k = none) ∨ ∃ p v d, atKey xs k = some p ∧ dlook (xs.map (·.1)) ds k = some d ∧ RelV v p.2 ∧ DR P w G v d
  | [], _, _, _, _ => .inl ⟨rfl, rfl⟩
  | x :: xs, _, ds, r, q => by
    have r' : Vals _ (x.2.2 :: xs.map (·.2.2)) := r
    cases r' with
    | cons r1 r2 =>
      cases q with
      | @cons v vs d ds q1 q2 =>
        by_cases h : x.1 = k
        · refine .inr ⟨x.2, _, _, by simp [atKey, h], by simp [dlook, h], r1, q1⟩
        · have e1 : atKey (x :: xs) k = atKey xs k := by simp [atKey, h]
          have e2 : dlook ((x :: xs).map (·.1)) (d :: ds) k = dlook (xs.map (·.1)) ds k := by simp [dlook, h]
          rw [e1, e2]
          exact dic_find r2 q2
/-- the data x is a tuple that is the key k -/
def KD (x : D) (k : NestedKey) : Prop := (∀ (P : Program) (w : World) (G : Hp) (v : V), DR P w G v x → ∃ a, v = .ref a ∧ KR G v k) ∧ k.depth ≤ 8

section
variable {X : Cx}
def rInN (neg : Bool) (P : Program) (w : World) : R2 := fun y u H Q => ∃ (G : Hp) (b d : Addr) (o : Obj) (xs : List (NestedKey × Addr × Value)) (k : NestedKey), y = .ref b ∧ u = .ref d ∧ Sub G H ∧ H d = some (objHO d o) ∧ DicOk P w G d o xs ∧ KR G (.ref b) k ∧ k.depth ≤ 8 ∧
  Q (.bl (if neg then !decide (k ∈ xs.map (·.1)) else decide (k ∈ xs.map (·.1)))) H
theorem room8 {A : Around} (hu : A.units + 64 < cLine) {P : Program} {w : World} : (nestedKind P w).room A.in1 := by
  show A.units + 1 + 8 < cLine
  omega
theorem op_inN (hu : X.A.units + 64 < cLine) : OpR X (compareOp .In) (rInN false X.prog X.w) := by
  intro pins s σ H x y v u Q I rx ry h
  obtain ⟨G, b, d, o, xs, k, rfl, rfl, g, hd, ok, hk, hdep, q⟩ := h
  cases rx
  cases ry
  refine wpAny_in_heap (room8 hu) ⟨kr_nested I.hok g _ _ _ hk rfl, hdep⟩ ok.sys (dic_at I.hok g hd ok) ⟨.bl _, H, I.tok _, ?_, q⟩
  rw [atKey_some]
  rfl
theorem op_notInN (hu : X.A.units + 64 < cLine) : OpR X (compareOp .NotIn) (rInN true X.prog X.w) := by
  intro pins s σ H x y v u Q I rx ry h
  obtain ⟨G, b, d, o, xs, k, rfl, rfl, g, hd, ok, hk, hdep, q⟩ := h
  cases rx
  cases ry
  show wpAny _ _ (do return Value.bool (!(← contains (.ref d) (.ref b)))) _ _ s
  refine wpAny_bind (wpAny_contains_heap (room8 hu) ⟨kr_nested I.hok g _ _ _ hk rfl, hdep⟩ ok.sys (dic_at I.hok g hd ok) (wpAny_pure ⟨.bl _, H, I.tok _, ?_, q⟩))
  rw [atKey_some]
  rfl
variable {T : List Addr}
theorem c_inN {x : D} {ks : List NestedKey} {ds : List D} {k : NestedKey} (hu : X.A.units + 64 < cLine) (hk : KD x k) : CmpD T X .In x (.dic ks ds) (decide (k ∈ ks)) := ⟨_, op_inN hu, fun v u G H Q wf r1 r2 kk => by
  obtain ⟨a, rfl, h1⟩ := hk.1 _ _ _ _ r1
  obtain ⟨d, o, xs, vs, rfl, g1, ok, rfl, _, _⟩ := dr_dic r2
  exact ⟨G, a, d, o, xs, k, rfl, rfl, wf.sub, wf.sub _ _ g1, ok, h1, hk.2, kk _ _ (Ext.refl wf)⟩⟩
theorem c_notInN {x : D} {ks : List NestedKey} {ds : List D} {k : NestedKey} (hu : X.A.units + 64 < cLine) (hk : KD x k) : CmpD T X .NotIn x (.dic ks ds) (!decide (k ∈ ks)) := ⟨_, op_notInN hu, fun v u G H Q wf r1 r2 kk => by
  obtain ⟨a, rfl, h1⟩ := hk.1 _ _ _ _ r1
  obtain ⟨d, o, xs, vs, rfl, g1, ok, rfl, _, _⟩ := dr_dic r2
  exact ⟨G, a, d, o, xs, k, rfl, rfl, wf.sub, wf.sub _ _ g1, ok, h1, hk.2, kk _ _ (Ext.refl wf)⟩⟩

/-! ### d[k] -/
def rIxN (P : Program) (w : World) : R2 := fun u y H Q => ∃ (G : Hp) (b d : Addr) (o : Obj) (xs : List (NestedKey × Addr × Value)) (k : NestedKey) (p : Addr × Value) (v : V), y = .ref b ∧ u = .ref d ∧ Sub G H ∧ H d = some (objHO d o) ∧ DicOk P w G d o xs ∧ KR G (.ref b) k ∧ k.depth ≤ 8 ∧
  atKey xs k = some p ∧ RelV v p.2 ∧ Q v H
theorem ix_dicN (hu : X.A.units + 64 < cLine) : IxR X (rIxN X.prog X.w) := by
  intro value slice pins s σ H x y v u Q I rx ry h hs
  obtain ⟨G, b, d, o, xs, k, p, z, rfl, rfl, g, hd, ok, hk, hdep, hp, rz, q⟩ := h
  cases rx
  cases ry
  have dd := dic_at I.hok g hd ok
  exact PyProof.Rows.tail_any dd.typeIs slot_dict_getitem.lookup (wpAny_getItem_heap (room8 hu) ⟨kr_nested I.hok g _ _ _ hk rfl, hdep⟩ dd hp ⟨z, H, I.tok _, rz, q⟩) hs
theorem ee_ixN {a b : Expr} {γ : List SV} {pos : Pos} {ks : List NestedKey} {ds : List D} {x d : D} {k : NestedKey} (hu : X.A.units + 64 < cLine) (ha : EE T X a γ (.dic ks ds)) (hb : EE T X b γ x) (hk : KD x k) (hl : dlook ks ds k = some d) (hs : PlainIx b := by exact fun _ _ => rfl) : EE T X (.Subscript a b pos) γ d := fun σ G H Q wf env kk =>
  we_of (pe_ix (ix_dicN hu) pe_w pe_w hs) (ha σ G H _ wf env fun v G1 H1 x1 r1 => hb σ G1 H1 _ x1.wf (env.up x1.g) fun u G2 H2 x2 r2 => by
    obtain ⟨dd, o, xs, vs, rfl, g1, ok, rfl, hv, hds⟩ := dr_dic r1
    obtain ⟨c, rfl, h1⟩ := hk.1 _ _ _ _ r2
    rcases dic_find (k := k) hv hds with ⟨_, e⟩ | ⟨p, v, d', e1, e2, rv, rd⟩
    · rw [hl] at e; cases e
    · rw [hl] at e2
      cases e2
      exact ⟨G2, c, dd, o, xs, k, p, v, rfl, rfl, x2.wf.sub, x2.wf.sub _ _ (x2.g _ _ g1), ok.mono x2.g, h1, hk.2, e1, rv, kk v G2 H2 (x1.tr x2) (rd.up x2.g)⟩)

/-! ### d.get(k), d.get(k, x) -/
theorem dr_getD {P : Program} {w : World} {G : Hp} {ks : List NestedKey} {xs : List (NestedKey × Addr × Value)} {vs : List V} {ds : List D} {k : NestedKey} {dv : Value} {d0 : D} {v0 : V} (hv : Vals vs (xs.map (·.2.2))) (hds : DRs P w G vs ds) (r0 : RelV v0 dv) (q0 : DR P w G v0 d0) :
    ∃ v, RelV v (((atKey xs k).map (·.2)).getD dv) ∧ DR P w G v ((dlook (xs.map (·.1)) ds k).getD d0) := by
  rcases dic_find (k := k) hv hds with ⟨e1, e2⟩ | ⟨p, v, d', e1, e2, rv, rd⟩
  · rw [e1, e2]; exact ⟨v0, r0, q0⟩
  · rw [e1, e2]; exact ⟨v, rv, rd⟩
theorem ee_get1 {o e : Expr} {γ : List SV} {apos cpos : Pos} {ks : List NestedKey} {ds : List D} {x : D} {k : NestedKey} (hu : X.A.units + 64 < cLine) (ho : EE T X o γ (.dic ks ds)) (he : EE T X e γ x) (hk : KD x k)
    (m1 : attributeBase o "get" X.env (eval o X.env) = eval o X.env := by rfl)
    (m2 : ((backTo cpos (starEach [e] X.env)).all (fun x => !x.1) && (backToKw cpos (keywordEach [] X.env)).all (fun x => x.1.isSome) && decide (([e] : List Expr).length + ([] : List Keyword).length + (if ([] : List Keyword).isEmpty then 0 else 1) < 30)) = true := by rfl)
    (m3 : (apos.endLine == cpos.line) = true := by rfl) (m4 : backTo cpos (starEach [e] X.env) = [(false, eval e X.env)] := by rfl) :
    EE T X (.Call (.Attribute o "get" apos) [e] [] cpos) γ ((dlook ks ds k).getD .non) := fun σ G H Q wf env kk pins s I => by
  refine wpAny_Call_method m1 m2 m3 PySem.F.plainAttrs_dict PySem.F.slot_dict_get PySem.F.type_dict_get (thn (ho σ G H (fun v H1 => ∃ G1, Ext T [] G H G1 H1 ∧ DR X.prog X.w G1 v (.dic ks ds)) wf env (fun v G1 H1 x1 r1 => ⟨G1, x1, r1⟩) pins s I) fun u s1 ⟨v, H1, I1, rv, G1, x1, r1⟩ => ?_)
  obtain ⟨dd, ob, xs, vs, rfl, g1, ok, rfl, hv, hds⟩ := dr_dic r1
  obtain rfl : u = Value.ref dd := rv
  have at1 := dic_at I1.hok x1.wf.sub (x1.wf.sub _ _ g1) ok
  refine ⟨at1.typeIs, fun b q => ?_, ?_⟩
  · cases q
    obtain ⟨ob, _, _, h1, h2, _⟩ := at1
    exact ⟨ob, h1, h2.2.1⟩
  rw [m4]
  refine Calls.callWith_builtin rfl (Calls.evalArgs_plain (Calls.spliced_cons (thn (he σ G1 H1 (fun v H2 => ∃ G2, Ext T [] G1 H1 G2 H2 ∧ DR X.prog X.w G2 v x) x1.wf (env.up x1.g) (fun v G2 H2 x2 r2 => ⟨G2, x2, r2⟩) pins s1 I1) fun iv s2 ⟨y, H2, I2, ry, G2, x2, r2⟩ => Calls.spliced_nil ?_)))
  obtain ⟨c, rfl, h1⟩ := hk.1 _ _ _ _ r2
  obtain rfl : iv = Value.ref c := ry
  have at2 := dic_at I2.hok x2.wf.sub (x2.wf.sub _ _ (x2.g _ _ g1)) (ok.mono x2.g)
  obtain ⟨z, rz, dz⟩ := dr_getD (ks := []) (k := k) (dv := Value.none) (v0 := .non) (d0 := .non) hv (hds.up x2.g) rfl .non
  exact call_meetsIn PySem.F.slot_dict_get at2.typeIs PySem.F.entry_dict_get (PySem.F.args_dict_get_2 _ _) (meetsH_dict_get (nestedKind X.prog X.w) dd c ok.sys) ⟨room8 hu, k, xs, ⟨kr_nested I2.hok x2.wf.sub _ _ _ h1 rfl, hk.2⟩, at2, ⟨z, H2, I2.tok _, rz, kk z G2 H2 (x1.tr x2) dz⟩⟩
theorem ee_get2 {o e f : Expr} {γ : List SV} {apos cpos : Pos} {ks : List NestedKey} {ds : List D} {x d0 : D} {k : NestedKey} (hu : X.A.units + 64 < cLine) (ho : EE T X o γ (.dic ks ds)) (he : EE T X e γ x) (hf : EE T X f γ d0) (hk : KD x k)
    (m1 : attributeBase o "get" X.env (eval o X.env) = eval o X.env := by rfl)
    (m2 : ((backTo cpos (starEach [e, f] X.env)).all (fun x => !x.1) && (backToKw cpos (keywordEach [] X.env)).all (fun x => x.1.isSome) && decide (([e, f] : List Expr).length + ([] : List Keyword).length + (if ([] : List Keyword).isEmpty then 0 else 1) < 30)) = true := by rfl)
    (m3 : (apos.endLine == cpos.line) = true := by rfl) (m4 : backTo cpos (starEach [e, f] X.env) = [(false, eval e X.env), (false, eval f X.env)] := by rfl) :
    EE T X (.Call (.Attribute o "get" apos) [e, f] [] cpos) γ ((dlook ks ds k).getD d0) := fun σ G H Q wf env kk pins s I => by
  refine wpAny_Call_method m1 m2 m3 PySem.F.plainAttrs_dict PySem.F.slot_dict_get PySem.F.type_dict_get (thn (ho σ G H (fun v H1 => ∃ G1, Ext T [] G H G1 H1 ∧ DR X.prog X.w G1 v (.dic ks ds)) wf env (fun v G1 H1 x1 r1 => ⟨G1, x1, r1⟩) pins s I) fun u s1 ⟨v, H1, I1, rv, G1, x1, r1⟩ => ?_)
  obtain ⟨dd, ob, xs, vs, rfl, g1, ok, rfl, hv, hds⟩ := dr_dic r1
  obtain rfl : u = Value.ref dd := rv
  have at1 := dic_at I1.hok x1.wf.sub (x1.wf.sub _ _ g1) ok
  refine ⟨at1.typeIs, fun b q => ?_, ?_⟩
  · cases q
    obtain ⟨ob, _, _, h1, h2, _⟩ := at1
    exact ⟨ob, h1, h2.2.1⟩
  rw [m4]
  refine Calls.callWith_builtin rfl (Calls.evalArgs_plain (Calls.spliced_cons (thn (he σ G1 H1 (fun v H2 => ∃ G2, Ext T [] G1 H1 G2 H2 ∧ DR X.prog X.w G2 v x) x1.wf (env.up x1.g) (fun v G2 H2 x2 r2 => ⟨G2, x2, r2⟩) pins s1 I1) fun iv s2 ⟨y, H2, I2, ry, G2, x2, r2⟩ => Calls.spliced_cons ?_)))
  refine thn (hf σ G2 H2 (fun v H3 => ∃ G3, Ext T [] G2 H2 G3 H3 ∧ DR X.prog X.w G3 v d0) x2.wf ((env.up x1.g).up x2.g) (fun v G3 H3 x3 r3 => ⟨G3, x3, r3⟩) pins s2 I2) fun fv s3 ⟨y3, H3, I3, ry3, G3, x3, r3⟩ => Calls.spliced_nil ?_
  obtain ⟨c, rfl, h1⟩ := hk.1 _ _ _ _ r2
  obtain rfl : iv = Value.ref c := ry
  have g13 : Sub G1 G3 := fun b o z => x3.g _ _ (x2.g _ _ z)
  have at2 := dic_at I3.hok x3.wf.sub (x3.wf.sub _ _ (g13 _ _ g1)) (ok.mono g13)
  obtain ⟨z, rz, dz⟩ := dr_getD (ks := []) (k := k) hv (hds.up g13) ry3 r3
  exact call_meetsIn PySem.F.slot_dict_get at2.typeIs PySem.F.entry_dict_get (PySem.F.args_dict_get_3 _ _ _) (meetsH_dict_get_default (nestedKind X.prog X.w) dd c ok.sys fv) ⟨room8 hu, k, xs, ⟨kr_nested I3.hok x3.wf.sub _ _ _ (KR.mono x3.g _ _ h1) rfl, hk.2⟩, at2, ⟨z, H3, I3.tok _, rz, kk z G3 H3 ((x1.tr x2).tr x3) dz⟩⟩
end

/-! ### dicts that change -/
def MD (P : Program) (w : World) (G H : Hp) (l : Addr) (ks : List NestedKey) (ds : List D) : Prop :=
  G l = none ∧ ∃ o xs vs, H l = some (objHO l o) ∧ DicOk P w G l o xs ∧ ks = xs.map (·.1) ∧ Vals vs (xs.map (·.2.2)) ∧ DRs P w G vs ds
theorem MD.nd {P : Program} {w : World} {G H : Hp} {l : Addr} {ks : List NestedKey} {ds : List D} (h : MD P w G H l ks ds) : ks.Nodup := by
  obtain ⟨_, o, xs, vs, _, ok, rfl, _⟩ := h
  exact ok.nd
theorem MD.ext {P : Program} {w : World} {T M : List Addr} {G H G' H' : Hp} {l : Addr} {ks : List NestedKey} {ds : List D} (wf : WF T G H) (h : MD P w G H l ks ds) (x : Ext T M G H G' H') (hm : l ∉ M) : MD P w G' H' l ks ds := by
  obtain ⟨g, o, xs, vs, e, ok, ek, rv, r⟩ := h
  refine ⟨?_, o, xs, vs, x.keep _ _ e (wf.notT e (fun ps z => by cases z)) hm, ok.mono x.g, ek, rv, r.up x.g⟩
  cases q : G' l with
  | none => rfl
  | some u =>
    rcases x.new _ _ q with z | z
    · rw [g] at z; cases z
    · rw [e] at z; cases z
theorem MD.ex {P : Program} {w : World} {T : List Addr} {G H G' H' : Hp} {l : Addr} {ks : List NestedKey} {ds : List D} (wf : WF T G H) (h : MD P w G H l ks ds) (x : Ext T [] G H G' H') : MD P w G' H' l ks ds := h.ext wf x (by simp)
theorem MD.dr {P : Program} {w : World} {G H : Hp} {l : Addr} {ks : List NestedKey} {ds : List D} (h : MD P w G H l ks ds) : ∃ o, H l = some (objHO l o) ∧ DR P w (upd G l (objHO l o)) (.ref l) (.dic ks ds) := by
  obtain ⟨g, o, xs, vs, e, ok, rfl, rv, r⟩ := h
  have s := sub_upd (o := objHO l o) g
  exact ⟨o, e, .dic upd_same (ok.mono s) rv (r.up s)⟩
theorem dic_new {P : Program} {w : World} {G : Hp} {p : Addr} (hp : (p == sysModules) = false) : DicOk P w G p { cls := .type "dict", data := .dict #[] } [] := ⟨hp, Nat.zero_le _, List.nodup_nil, fun _ h => absurd h (by simp), ⟨rfl, rfl, rfl⟩, _, _, rfl, rfl⟩
/-- {} -/
def tDNewN : TE := fun _ H Q => ∀ p, H p = none → (p == sysModules) = false → Q (.ref p) (upd H p (objHO p { cls := .type "dict", data := .dict #[] }))
theorem pe_dnewN {X : Cx} {pos : Pos} : PE X (.Dict [] [] pos) tDNewN := ⟨fun pins s σ H Q I h =>
  wpAny_Dict_empty ⟨.ref s.heap.objs.size, _, I.laid (a := s.heap.objs.size) (o := objHO s.heap.objs.size { cls := .type "dict", data := .dict #[] }) (t' := s.toks) (fun _ _ q => Heap.get?_push_of_some _ q) (Nat.le_refl _)
    ⟨Heap.get?_push_size _ rfl, ⟨_, Heap.get?_push_size _ rfl⟩, fun h1 h2 e k => k _ e⟩, rfl, h _ (I.hok.fresh (Nat.le_refl _)) (beq_eq_false_iff_ne.mpr (Ne.symm (Nat.ne_of_lt I.big)))⟩⟩
/-- o[k] = v, k new -/
def rSetN (P : Program) (w : World) : TSet := fun o i v H Q => ∃ (G : Hp) (b d : Addr) (ob : Obj) (xs : List (NestedKey × Addr × Value)) (k : NestedKey), i = .ref b ∧ o = .ref d ∧ Sub G H ∧ G d = none ∧ H d = some (objHO d ob) ∧ DicOk P w G d ob xs ∧ KR G (.ref b) k ∧ k.depth ≤ 8 ∧
  k ∉ xs.map (·.1) ∧ xs.length < sizeLine ∧ ∀ ob' val, RelV v val → DicOk P w G d ob' (xs ++ [(k, b, val)]) → Q (upd H d (objHO d ob'))
theorem set_nd {X : Cx} (hu : X.A.units + 64 < cLine) : PSet X (rSetN X.prog X.w) := by
  intro pins s σ H o i v ov iv u Q I ro ri rv h
  obtain ⟨G, b, d, ob, xs, k, rfl, rfl, g, gd, hd, ok, hk, hdep, hn, hz, q⟩ := h
  cases ro
  cases ri
  have dd := dic_at I.hok g hd ok
  have en : atKey xs k = none := by
    have e := atKey_some (xs := xs) (k := k)
    rw [decide_eq_false hn] at e
    cases q0 : atKey xs k with
    | none => rfl
    | some p => rw [q0] at e; cases e
  refine wpAny_setItem_heap (hsz := Nat.le_of_lt hz) (room8 hu) ⟨kr_nested I.hok g _ _ _ hk rfl, hdep⟩ dd fun h' hm hs => ?_
  rw [storedH_new en] at hm
  obtain ⟨ob', es, ep, e1, e2, e3, e4, _, e6⟩ := hm
  have okN : DicOk X.prog X.w G d ob' (xs ++ [(k, b, u)]) := by
    refine ⟨ok.sys, by rw [List.length_append]; exact hz, e6, fun x hx => ?_, e2, es, ep, e3, e4⟩
    rcases List.mem_append.mp hx with hx | hx
    · exact ok.keys x hx
    · rw [List.mem_singleton.mp hx]; exact ⟨hk, hdep⟩
  refine ⟨_, I.write (x := d) (e := d) (o := objHO d ob') (t' := s.toks + _) (by rw [hd]; trivial) (.inl rfl) (fun b' u' hb e => (hs.2 b' hb).trans e) ⟨_, e1⟩ ⟨e1, ⟨_, e1⟩, fun h1 h2 e k => k _ e⟩, q ob' u rv okN⟩
section
variable {N : En} {X : Cx} {γ : List SV} {G H : Hp} {E : EndD} {e o i : Expr} {pos pos' : Pos}
/-- x = {} -/
theorem s_newD {x : Str} {pl : Pos} (n : Nat) (hN : X.N.Nodup) (k : ∀ l H', H l = none → N.H0 l = none → Ext N.T [] G H G H' → MD X.prog X.w G H' l [] [] → E.nx (γ.set n (.val (.ref l))) G H') (hi : X.N[n]? = some x := by rfl) (hx : Loc X.env.scope x := by first | exact Or.inl rfl | exact Or.inr rfl)
    (hs : swapsWith (.Dict [] [] pl) (some (.Name x pos')) pos.line X.env = pure false := by rfl) (hf : X.fn x = true ∨ X.env.scope.names.lookup x = some .local := by first | exact .inl rfl | exact .inr rfl | assumption) : S1 N X (.Assign [.Name x pos'] (.Dict [] [] pl) pos) γ G H E := fun σ x0 env =>
  ws_of (ps_set hN hi hx pe_dnewN hs hf) (fun l hl hsy => by
    have x2 := Ext.newH (o := objHO l { cls := .type "dict", data := .dict #[] }) x0.wf hl
    have hl00 : N.H0 l = none := by
      cases q : N.H0 l with
      | none => rfl
      | some u => exact absurd hl (x0.there l (by rw [q]; exact fun z => by cases z))
    exact ⟨_, G, fun _ _ z => z, x0.tr x2, env.setV, k l _ hl hl00 x2 ⟨x0.wf.gn hl, _, [], [], upd_same, dic_new hsy, rfl, .nil, .nil⟩⟩)
/-- d[k] = e, the key new -/
theorem s_dput {l : Addr} {ks : List NestedKey} {ds : List D} {x d : D} {k : NestedKey} (hu : X.A.units + 64 < cLine) (ho : ∀ G' H', Ext N.T [] G H G' H' → EV X o γ G' H' (.ref l)) (hi : EE N.T X i γ x) (he : VJ N.T X e γ G H d) (hk : KD x k) (hm : MD X.prog X.w G H l ks ds) (hn : k ∉ ks) (hz : ks.length < sizeLine) (h0 : l ∈ N.M ∨ N.H0 l = none)
    (kk : ∀ G' H', Ext N.T [l] G H G' H' → MD X.prog X.w G' H' l (ks ++ [k]) (ds ++ [d]) → E.nx γ G' H')
    (hs : swapsWithSole [.Subscript o i pos'] e pos.line X.env = pure false := by rfl) (hw : swappedStores [.Subscript o i pos'] e X.env = pure none := by rfl) (h1 : (assignEach [.Subscript o i pos'] X.env).map (·.2) = [assign (.Subscript o i pos') X.env] := by rfl)
    (ha : ∀ v, assign (.Subscript o i pos') X.env v = (do
      let ov ← holding [v] (eval o X.env)
      let iv ← holding [v, ov] (eval i X.env)
      standAt pos'
      holding [v, ov, iv] (setItem ov iv v)
      release [v, ov, iv] []) := by intro _; rfl) : S1 N X (.Assign [.Subscript o i pos'] e pos) γ G H E := fun σ x0 env => by
  refine ws_of (ps_asg pe_w (pg_sub pe_w pe_w (set_nd hu) ha) hs hw h1) (he σ _ x0.wf env fun v G1 H1 x1 r1 => ?_)
  refine ho G1 H1 x1 σ _ (env.up x1.g) ?_
  refine hi σ G1 H1 _ x1.wf (env.up x1.g) fun u G2 H2 x2 r2 => ?_
  have x12 := x1.tr x2
  obtain ⟨gl, ob, xs, vs, hl, ok, rfl, rv, rd⟩ := hm.ex x0.wf x12
  obtain ⟨b, rfl, hkr⟩ := hk.1 _ _ _ _ r2
  refine ⟨G2, b, l, ob, xs, k, rfl, rfl, x2.wf.sub, gl, hl, ok, hkr, hk.2, hn, by rw [List.length_map] at hz; exact hz, fun ob' val rval okN => ?_⟩
  have nT := x2.wf.notT hl (fun ps z => by cases z)
  have x3 := (x12.mono (M' := [l]) (by simp)).trans (Ext.mut (o := objHO l ob') x2.wf gl nT) (fun m hm => .inl hm)
  refine ⟨γ, G2, x3.g, x0.trans x3 (fun m hm => by rw [List.mem_singleton.mp hm]; exact h0), (env.up x1.g).up x2.g, kk G2 _ x3 ⟨gl, ob', _, vs ++ [v], upd_same, okN, by rw [List.map_append]; rfl, ?_, rd.append (.one (r1.up x2.g))⟩⟩
  rw [List.map_append]
  exact rv.append (.cons rval .nil)
/-- the dict at slot i stands still from here on -/
theorem sb_frzD {rest : List Stmt} {l : Addr} {ks : List NestedKey} {ds : List D} (n : Nat) (hγ : γ[n]? = some (.val (.ref l))) (hm : MD X.prog X.w G H l ks ds) (h0 : N.H0 l = none) (h : ∀ ob, H l = some (objHO l ob) → SB N X rest (γ.set n (.dat (.dic ks ds))) (upd G l (objHO l ob)) H E) : SB N X rest γ G H E := fun σ x env => by
  obtain ⟨ob, hl, r⟩ := hm.dr
  have g := sub_upd (o := objHO l ob) hm.1
  exact wb_up g (h ob hl σ (x.frz hl hm.1 h0 (fun ps z => by cases z)) (env_frz env hγ hm.1 r))
end

/-! ### dict(d) -/
def rDictN (P : Program) (w : World) : List V → Hp → VK → Prop := fun vs H Q => ∃ (G : Hp) (d : Addr) (o : Obj) (xs : List (NestedKey × Addr × Value)), vs = [.ref d] ∧ Sub G H ∧ H d = some (objHO d o) ∧ DicOk P w G d o xs ∧ (xs.map fun x => x.1.hash w).Nodup ∧
  ∀ p o', H p = none → DicOk P w G p o' xs → Q (.ref p) (upd H p (objHO p o'))
theorem cr_dictN {X : Cx} (hu : X.A.units + 64 < cLine) : CallR X (.type "dict") (rDictN X.prog X.w) := by
  intro pins s σ H vs us Q I r h
  obtain ⟨G, d, o, xs, rfl, g, hd, ok, hh, q⟩ := h
  obtain rfl := Vals.ref1 r
  have dd := dic_at I.hok g hd ok
  refine callType_codes (Q₁ := fun obj s₁ => obj = .ref s.heap.objs.size ∧ s₁ = { s with heap := s.heap.push { cls := .type "dict", data := .dict #[] } }) F.kt_called_dict (F.kt_typeCall_dict_1 _) F.entry_dict_init (kt_code_dict_new _ ⟨rfl, rfl⟩) ?_
  rintro obj s₁ ⟨rfl, rfl⟩
  have hnew : (s.heap.push { cls := .type "dict", data := .dict #[] }).DictOfH (nestedKind X.prog X.w) s.heap.objs.size [] := Heap.DictOfH.new s.heap
  have kp : ∀ b ob, s.heap.get? b = some ob → (s.heap.push { cls := .type "dict", data := .dict #[] }).get? b = some ob := fun b ob e => Heap.get?_push_of_some _ e
  have dd' : (s.heap.push { cls := .type "dict", data := .dict #[] }).DictOfH (nestedKind X.prog X.w) d xs := by
    obtain ⟨o1, es, ep, h1, h2, h3, h4, h5, h6⟩ := dd
    exact ⟨o1, es, ep, kp _ _ h1, h2, h3, h4, fun y hy => nestedKind_stays.stays (fun b o _ _ e _ => kp b o e) (h5 y hy), h6⟩
  have hdo : s.heap.objs.size ≠ d := by
    obtain ⟨_, _, _, hg, _⟩ := dd
    exact fun e => absurd (Heap.lt_size hg) (by rw [e]; exact Nat.lt_irrefl _)
  refine ⟨hnew.typeIs, F.args_dict_init_2 _ _, ?_⟩
  unfold Builtin.«dict.__init__»
  refine wpAny_bind ?_
  unfold Builtin.Dict.selfAndRest
  refine wpAny_bind (wpAny_notOrdered_dict hnew.typeIs ?_)
  show wpAny _ _ (pure (s.heap.objs.size, [Value.ref d])) _ _ _
  refine wpAny_pure ?_
  show wpAny _ _ (Builtin.Dict.updateFrom "dict.__init__" s.heap.objs.size (.ref d) [] .none) _ _ _
  unfold Builtin.Dict.updateFrom
  refine wpAny_bind (wpAny_typeOf dd'.typeIs ?_)
  rw [if_neg (by decide)]
  refine wpAny_bind ?_
  unfold Builtin.Dict.merge
  refine wpAny_bind ?_
  unfold Builtin.Dict.readDirectly
  refine wpAny_bind (wpAny_isInstance dd'.typeIs isSubtype_dict_dict ?_)
  simp only [Bool.not_true, Bool.false_eq_true, if_false]
  refine wpAny_bind (wpAny_specialOf dd'.typeIs F.slot_dict_iter.lookup (wpAny_pure ?_))
  simp only [beq_self_eq_true, if_true]
  refine wpAny_bind (wpAny_pure ?_)
  refine wpAny_mergeDict_heap (hsz := by simpa using ok.len) (by show X.A.in1.in1.units + 8 < cLine; show X.A.units + 1 + 1 + 8 < cLine; omega) hdo ok.sys hnew dd' (.inr ⟨keyed_apart nestedKind_stays dd', hh⟩) fun h' hd' _ hs' => ?_
  show wpAny _ _ (Builtin.Dict.addKeywords s.heap.objs.size [] >>= _) _ _ _
  have e0 : storedAllH ([] : List (NestedKey × Addr × Value)) xs = xs := by
    have key : ∀ (ys zs : List (NestedKey × Addr × Value)), ((zs ++ ys).map (·.1)).Nodup → storedAllH zs ys = zs ++ ys := by
      intro ys
      induction ys with
      | nil => intro zs _; simp [storedAllH]
      | cons y ys ih =>
        intro zs hn
        have hny : atKey zs y.1 = none := by
          have e := atKey_some (xs := zs) (k := y.1)
          have : y.1 ∉ zs.map (·.1) := fun hm => by
            rw [List.map_append, List.nodup_append] at hn
            exact hn.2.2 _ hm y.1 (by simp) rfl
          rw [decide_eq_false this] at e
          cases q0 : atKey zs y.1 with
          | none => rfl
          | some p => rw [q0] at e; cases e
        show storedAllH (storedH zs y.1 y.2.1 y.2.2) ys = _
        rw [storedH_new hny, ih _ (by simpa using hn)]
        simp
    simpa using key xs [] (by simpa using ok.nd)
  rw [e0] at hd'
  obtain ⟨o', es, ep, e1, e2, e3, e4, _, e6⟩ := hd'
  have okN : DicOk X.prog X.w G s.heap.objs.size o' xs := ⟨beq_eq_false_iff_ne.mpr (Ne.symm (Nat.ne_of_lt I.big)), ok.len, e6, ok.keys, e2, es, ep, e3, e4⟩
  exact wpAny_bind (wpAny_pure (wpAny_pure ⟨rfl, ⟨.ref s.heap.objs.size, _, I.laid (a := s.heap.objs.size) (o := objHO s.heap.objs.size o') (t' := s.toks) (fun b ob e => (hs'.2 b (Nat.ne_of_lt (Heap.lt_size e))).trans (kp b ob e)) (Nat.le_refl _) ⟨e1, ⟨_, e1⟩, fun h1 h2 e k => k _ e⟩, rfl, q _ o' (I.hok.fresh (Nat.le_refl _)) okN⟩⟩))
theorem ee_dict {T : List Addr} {X : Cx} {γ : List SV} {e : Expr} {p pos : Pos} {ks : List NestedKey} {ds : List D} (h : EE T X e γ (.dic ks ds)) (hm : X.mg "dict" = none) (hu : X.A.units + 64 < cLine) (hh : (ks.map fun k => k.hash X.w).Nodup) (hg : Gl X "dict" := by rfl) (he : starEach [e] X.env = (false, eval e X.env) :: starEach [] X.env := by rfl) (hpl : (backTo pos (starEach [] X.env)).any (·.1) = false := by rfl) :
    EE T X (.Call (.Name "dict" p) [e] [] pos) γ (.dic ks ds) :=
  ee_callT (cr_dictN hu) hm PyProof.Rows.boot_dict (ea_cons h ea_nil he) (fun vs G H Q wf r k => by
    obtain ⟨v, rfl, rr⟩ := drs1 r
    obtain ⟨l, o, xs, us, rfl, g1, ok, rfl, rv, rd⟩ := dr_dic rr
    refine ⟨G, l, o, xs, rfl, wf.sub, wf.sub _ _ g1, ok, by rw [List.map_map] at hh; exact hh, fun t o' ht okN => ?_⟩
    have s := (Ext.newG (o := objHO t o') wf ht).g
    exact k _ _ _ (Ext.newG wf ht) (.dic upd_same (okN.mono s) rv (rd.up s))) hg (by decide) (by decide) he hpl
end HG

set_option Elab.async false
set_option linter.all false
set_option maxRecDepth 100000
set_option maxHeartbeats 4000000
/-! Loops that append, pop, objects being made. -/
namespace HG
open PySem L2
section
variable {N : En} {X : Cx} {γ : List SV} {G H : Hp} {E E' : EndD} {st : Stmt} {rest : List Stmt} {e : Expr} {es : List Expr} {pos : Pos} {d : D}
theorem sb_mono {b : List Stmt} (h : SB N X b γ G H E) (nx : ∀ γ' G' H', Sub G G' → Ext N.T N.M N.G0 N.H0 G' H' → E.nx γ' G' H' → E'.nx γ' G' H') (rt : ∀ v G' H', Sub G G' → E.rt v G' H' → E'.rt v G' H') (bk : ∀ γ' G' H', E.bk γ' G' H' → E'.bk γ' G' H') (ct : ∀ γ' G' H', E.ct γ' G' H' → E'.ct γ' G' H') : SB N X b γ G H E' := fun σ x env =>
  wb_mono (h σ x env) (fun _ _ ⟨γ', G', g, x', v, q⟩ => ⟨γ', G', g, x', v, nx _ _ _ g x' q⟩) (fun _ _ ⟨G', g, x', q⟩ => ⟨G', g, x', rt _ _ _ g q⟩) (fun _ _ ⟨γ', G', g, x', v, q⟩ => ⟨γ', G', g, x', v, bk _ _ _ q⟩) (fun _ _ ⟨γ', G', g, x', v, q⟩ => ⟨γ', G', g, x', v, ct _ _ _ q⟩)
theorem sb_if {c : Expr} {as bs : List Stmt} {b : Bool} (Z : List SV → Hp → Hp → Prop) (hc : TJ N.T X c γ G H b) (h1 : b = true → ∀ G' H', Ext N.T [] G H G' H' → SB N X as γ G' H' { E with nx := Z }) (h2 : b = false → ∀ G' H', Ext N.T [] G H G' H' → SB N X bs γ G' H' { E with nx := Z })
    (k : ∀ γ' G' H', Sub G G' → Ext N.T N.M N.G0 N.H0 G' H' → Z γ' G' H' → SB N X rest γ' G' H' E) : SB N X (.If c as bs pos :: rest) γ G H E :=
  sb_cons (s_if hc (fun e G' H' x => sb_mono (h1 e G' H' x) (fun γ2 G2 H2 g2 x2 z => k γ2 G2 H2 (fun b o q => g2 _ _ (x.g _ _ q)) x2 z) (fun _ _ _ _ q => q) (fun _ _ _ q => q) (fun _ _ _ q => q))
    (fun e G' H' x => sb_mono (h2 e G' H' x) (fun γ2 G2 H2 g2 x2 z => k γ2 G2 H2 (fun b o q => g2 _ _ (x.g _ _ q)) x2 z) (fun _ _ _ _ q => q) (fun _ _ _ q => q) (fun _ _ _ q => q)))
theorem flatMap_take_le {α : Type} {xs : List α} {f : α → List D} {i : Nat} {x : α} (h : xs[i]? = some x) : ((xs.take i).flatMap f).length + (f x).length ≤ (xs.flatMap f).length := by
  have e : xs.take (i + 1) = xs.take i ++ [x] := by rw [List.take_add_one, h]; rfl
  have e2 : xs.flatMap f = (xs.take (i + 1)).flatMap f ++ (xs.drop (i + 1)).flatMap f := by rw [← List.flatMap_append, List.take_append_drop]
  rw [e2, e, List.flatMap_append, List.length_append, List.length_append]
  simp
/-- a loop that appends f x to the list at l; J: what else is kept -/
theorem s_forApp {α : Type} {xs : List α} {tg iter : Expr} {body : List Stmt} {l : Addr} {ds0 : List D} (enc : α → D) (js : List Nat) (B : α → List SV) (f : α → List D) (J : Hp → Hp → Prop) (n : Nat) (hc : X.calm = true) (hi : Src N.T X tg iter γ (xs.map enc))
    (hJ : ∀ G H G' H', WF N.T G H → Ext N.T [] G H G' H' → J G H → J G' H') (j0 : J G H) (hm : ML X.prog X.w G H l ds0) (hn : ds0.length + (xs.flatMap f).length ≤ n) (wf : WF N.T G H) (hg : ∀ x ∈ xs, GT N.T X tg js (enc x) γ (B x))
    (hb : ∀ x ∈ xs, ∀ acc G' H', Sub G G' → Ext N.T N.M N.G0 N.H0 G' H' → J G' H' → ML X.prog X.w G' H' l acc → acc.length + (f x).length ≤ n → SB N X body (B x) G' H' { nx := fun γ'' G'' H'' => γ'' = γ ∧ J G'' H'' ∧ ML X.prog X.w G'' H'' l (acc ++ f x), rt := E.rt })
    (k : ∀ G' H', Sub G G' → Ext N.T N.M N.G0 N.H0 G' H' → J G' H' → ML X.prog X.w G' H' l (ds0 ++ xs.flatMap f) → E.nx γ G' H') (hp : PassesOwn (model X.prog X.w) X.A X.env X.xe := by exact PassesOwn.never) (hf : ∀ x, foldedSetIterable iter X.env x = pure x := by intro _; rfl) :
    S1 N X (.For tg iter body [] pos) γ G H E := by
  have hlen : (xs.map enc).length = xs.length := List.length_map ..
  refine s_for hc hi (fun i γ' G' H' => γ' = γ ∧ J G' H' ∧ ML X.prog X.w G' H' l (ds0 ++ (xs.take i).flatMap f)) (fun G' H' x => ⟨rfl, hJ _ _ _ _ wf x j0, by simpa using hm.ex wf x⟩) ?_ ?_ hp hf
  · rintro i d γ' G' H' hd g' x' ⟨rfl, j, m⟩ G2 H2 x2
    rw [List.getElem?_map] at hd
    cases hx : xs[i]? with
    | none => rw [hx] at hd; cases hd
    | some x =>
      rw [hx] at hd
      cases hd
      have hmem := List.mem_of_getElem? hx
      refine ⟨js, B x, hg x hmem, ?_⟩
      have hle := flatMap_take_le (f := f) hx
      refine sb_mono (hb x hmem _ G2 H2 (fun b o z => x2.g _ _ (g' _ _ z)) (x'.tr x2) (hJ _ _ _ _ x'.wf x2 j) (m.ex x'.wf x2) (by rw [List.length_append]; omega)) (fun γ'' G'' H'' _ _ q => ?_) (fun _ _ _ _ q => q) (fun _ _ _ q => q.elim) (fun _ _ _ q => q.elim)
      obtain ⟨e1, q2, q3⟩ := q
      refine ⟨e1, q2, ?_⟩
      have e : xs.take (i + 1) = xs.take i ++ [x] := by rw [List.take_add_one, hx]; rfl
      rw [e, List.flatMap_append, ← List.append_assoc]
      simpa using q3
  · rintro γ' G' H' g' x' ⟨rfl, j, m⟩
    rw [hlen, List.take_length] at m
    exact k G' H' g' x' j m
/-- x = l.pop() -/
theorem s_setPop {x : Str} {o : Expr} {pos' apos cpos : Pos} {l : Addr} {ds : List D} (i : Nat) (hN : X.N.Nodup) (ho : EV X o γ G H (.ref l)) (hm : ML X.prog X.w G H l (ds ++ [d])) (h0 : l ∈ N.M ∨ N.H0 l = none) (k : ∀ G' H', Ext N.T [l] G H G' H' → ML X.prog X.w G' H' l ds → E.nx (γ.set i (.dat d)) G' H') (hi : X.N[i]? = some x := by rfl) (hx : Loc X.env.scope x := by first | exact Or.inl rfl | exact Or.inr rfl)
    (hbase : attributeBase o "pop" X.env (eval o X.env) = eval o X.env := by rfl) (hline : (apos.endLine == cpos.line) = true := by rfl)
    (hs : swapsWith (.Call (.Attribute o "pop" apos) [] [] cpos) (some (.Name x pos')) pos.line X.env = pure false := by rfl) (hf : X.fn x = true ∨ X.env.scope.names.lookup x = some .local := by first | exact .inl rfl | exact .inr rfl | assumption) :
    S1 N X (.Assign [.Name x pos'] (.Call (.Attribute o "pop" apos) [] [] cpos) pos) γ G H E := fun σ x0 env => by
  obtain ⟨gl, vs, hl, r⟩ := id hm
  obtain ⟨v, hv, rv⟩ := r.get (i := ds.length) (d := d) (by simp)
  have hlen := r.length
  rw [List.length_append, List.length_singleton] at hlen
  refine ws_of (ps_set hN hi hx (pe_bm0 PySem.F.plainAttrs_list PySem.F.slot_list_pop PySem.F.type_list_pop mt_pop pe_w hbase hline) hs hf) (ho σ _ env ⟨.inl ⟨rfl, _, SqL.of hl⟩, l, vs, v, rfl, rfl, hl, by rw [hlen]; exact hv, ?_⟩)
  have nT := x0.wf.notT hl (fun ps z => by cases z)
  have x2 := Ext.mut (o := .lst vs.dropLast) x0.wf gl nT
  have rd : DRs X.prog X.w G vs.dropLast ds := by
    have q := r.take ds.length
    rw [List.take_left' rfl] at q
    rw [List.dropLast_eq_take, hlen]
    exact q
  exact ⟨_, G, fun _ _ z => z, x0.trans x2 (fun m hm => by rw [List.mem_singleton.mp hm]; exact h0), env.setD rv, k G _ x2 ⟨gl, _, upd_same, rd⟩⟩

/-! ### objects being made -/
inductive SVs (P : Program) (w : World) (G : Hp) : List (Str × V) → List (Str × SV) → Prop
  | nil : SVs P w G [] []
  | dat {f : Str} {v : V} {d : D} {fs : List (Str × V)} {ss : List (Str × SV)} : DR P w G v d → SVs P w G fs ss → SVs P w G ((f, v) :: fs) ((f, .dat d) :: ss)
  | val {f : Str} {v : V} {fs : List (Str × V)} {ss : List (Str × SV)} : SVs P w G fs ss → SVs P w G ((f, v) :: fs) ((f, .val v) :: ss)
theorem SVs.up {P : Program} {w : World} {G G' : Hp} (g : Sub G G') : ∀ {fs : List (Str × V)} {ss : List (Str × SV)}, SVs P w G fs ss → SVs P w G' fs ss
  | _, _, .nil => .nil
  | _, _, .dat h r => .dat (h.up g) (SVs.up g r)
  | _, _, .val r => .val (SVs.up g r)
theorem SVs.snoc {P : Program} {w : World} {G : Hp} {a : List (Str × V)} {b : List (Str × SV)} (q : SVs P w G a b) : ∀ {fs : List (Str × V)} {ss : List (Str × SV)}, SVs P w G fs ss → SVs P w G (fs ++ a) (ss ++ b)
  | _, _, .nil => q
  | _, _, .dat h r => .dat h (SVs.snoc q r)
  | _, _, .val r => .val (SVs.snoc q r)
theorem SVs.names {P : Program} {w : World} {G : Hp} : ∀ {fs : List (Str × V)} {ss : List (Str × SV)}, SVs P w G fs ss → fs.map (·.1) = ss.map (·.1)
  | _, _, .nil => rfl
  | _, _, .dat h r => by rw [List.map_cons, List.map_cons, SVs.names r]
  | _, _, .val r => by rw [List.map_cons, List.map_cons, SVs.names r]
theorem SVs.lookV {P : Program} {w : World} {G : Hp} {f : Str} {v : V} : ∀ {fs : List (Str × V)} {ss : List (Str × SV)}, SVs P w G fs ss → ss.lookup f = some (.val v) → fs.lookup f = some v
  | _, _, .nil, e => by cases e
  | _, _, .dat (f := g) h r, e => by
    rw [List.lookup_cons] at e ⊢
    cases q : f == g with
    | true => rw [q] at e; cases e
    | false => rw [q] at e; exact SVs.lookV r e
  | _, _, .val (f := g) r, e => by
    rw [List.lookup_cons] at e ⊢
    cases q : f == g with
    | true => rw [q] at e; cases e; rfl
    | false => rw [q] at e; exact SVs.lookV r e
def MO (P : Program) (w : World) (G H : Hp) (a C : Addr) (ss : List (Str × SV)) : Prop := G a = none ∧ ∃ dx fs, H a = some (.ins C dx fs) ∧ SVs P w G fs ss
theorem MO.ext {P : Program} {w : World} {T M : List Addr} {G H G' H' : Hp} {a C : Addr} {ss : List (Str × SV)} (wf : WF T G H) (h : MO P w G H a C ss) (x : Ext T M G H G' H') (hm : a ∉ M) : MO P w G' H' a C ss := by
  obtain ⟨g, dx, fs, e, r⟩ := h
  refine ⟨?_, dx, fs, x.keep _ _ e (wf.notT e (fun ps z => by cases z)) hm, r.up x.g⟩
  cases q : G' a with
  | none => rfl
  | some u =>
    rcases x.new _ _ q with z | z
    · rw [g] at z; cases z
    · rw [e] at z; cases z
theorem putF_new {f : Str} {v : V} : ∀ {fs : List (Str × V)}, f ∉ fs.map (·.1) → putF f v fs = fs ++ [(f, v)]
  | [], _ => rfl
  | (g, u) :: fs, h => by
    have hg : g ≠ f := fun e => h (by rw [e]; simp)
    have hr : f ∉ fs.map (·.1) := fun z => h (by simp only [List.map_cons]; exact List.mem_cons_of_mem _ z)
    unfold putF
    rw [putF_new hr]
    simp [hg]
/-- self.f = e, a new attribute -/
theorem s_fld {o : Expr} {f : Str} {pos' : Pos} {a C : Addr} {ss : List (Str × SV)} (ho : ∀ G' H', EV X o γ G' H' (.ref a)) (he : VJ N.T X e γ G H d) (hm : MO X.prog X.w G H a C ss) (hc : Cls X.K C) (hn : NoAttr X.K C f) (hf : f ∉ ss.map (·.1)) (hz : ss.length < 1000) (h0 : a ∈ N.M ∨ N.H0 a = none)
    (k : ∀ G' H', Ext N.T [a] G H G' H' → MO X.prog X.w G' H' a C (ss ++ [(f, .dat d)]) → E.nx γ G' H') (hs : swapsWith e (some (.Attribute o f pos')) pos.line X.env = pure false := by rfl) : S1 N X (.Assign [.Attribute o f pos'] e pos) γ G H E := fun σ x0 env =>
  ws_of (ps_fld pe_w pe_w hs) (he σ _ x0.wf env fun v G1 H1 x1 r1 => ho G1 H1 σ _ (env.up x1.g) (by
    obtain ⟨g, dx, fs, e, r⟩ := hm.ext x0.wf x1 (by simp)
    have hnm := r.names
    have hl : fs.length < 1000 := by
      have := congrArg List.length hnm
      simp only [List.length_map] at this
      omega
    have nT := x1.wf.notT e (fun ps z => by cases z)
    have x2 := (x1.mono (M' := [a]) (by simp)).trans (Ext.mut (o := .ins C dx (putF f v fs)) x1.wf g nT) (fun m hm => .inl hm)
    refine ⟨a, C, dx, fs, rfl, e, hc, hn, hl, γ, G1, x2.g, x0.trans x2 (fun m hm => by rw [List.mem_singleton.mp hm]; exact h0), env.up x1.g, k G1 _ x2 ⟨g, dx, _, upd_same, ?_⟩⟩
    rw [putF_new (by rw [hnm]; exact hf)]
    exact SVs.snoc (.dat r1 .nil) r))
/-- self.f = [], a list that will change -/
theorem s_fldL {o : Expr} {f : Str} {pos' pl : Pos} {a C : Addr} {ss : List (Str × SV)} (ho : ∀ G' H', EV X o γ G' H' (.ref a)) (hm : MO X.prog X.w G H a C ss) (hc : Cls X.K C) (hn : NoAttr X.K C f) (hf : f ∉ ss.map (·.1)) (hz : ss.length < 1000) (h0 : a ∈ N.M ∨ N.H0 a = none)
    (k : ∀ l G' H', Ext N.T [a] G H G' H' → H l = none → N.H0 l = none → l ≠ a → ML X.prog X.w G' H' l [] → MO X.prog X.w G' H' a C (ss ++ [(f, .val (.ref l))]) → E.nx γ G' H') (hs : swapsWith (.List [] pl) (some (.Attribute o f pos')) pos.line X.env = pure false := by rfl) : S1 N X (.Assign [.Attribute o f pos'] (.List [] pl) pos) γ G H E := fun σ x0 env =>
  ws_of (ps_fld pe_w (pe_lst pa_nil) hs) ⟨Nat.zero_le _, fun l hl => ho G _ σ _ env (by
    have x1 : Ext N.T [] G H G (upd H l (.lst [])) := Ext.newH x0.wf hl
    obtain ⟨g, dx, fs, e, r⟩ := hm.ext x0.wf x1 (by simp)
    have hnm := r.names
    have hlen : fs.length < 1000 := by
      have := congrArg List.length hnm
      simp only [List.length_map] at this
      omega
    have ne : l ≠ a := fun z => by
      obtain ⟨_, _, _, e2, _⟩ := hm
      rw [← z, hl] at e2; cases e2
    have hl0 : N.H0 l = none := by
      cases q : N.H0 l with
      | none => rfl
      | some u => exact absurd hl (x0.there l (by rw [q]; exact fun z => by cases z))
    have nT := x1.wf.notT e (fun ps z => by cases z)
    have x2 := (x1.mono (M' := [a]) (by simp)).trans (Ext.mut (o := .ins C dx (putF f (.ref l) fs)) x1.wf g nT) (fun m hm => .inl hm)
    refine ⟨a, C, dx, fs, rfl, e, hc, hn, hlen, γ, G, x2.g, x0.trans x2 (fun m hm => by rw [List.mem_singleton.mp hm]; exact h0), env, k l G _ x2 hl hl0 ne ⟨x0.wf.gn hl, [], by rw [upd_ne ne, upd_same], .nil⟩ ⟨g, dx, _, upd_same, ?_⟩⟩
    rw [putF_new (by rw [hnm]; exact hf)]
    exact SVs.snoc (.val .nil) r)⟩
/-- self.f = {}, a dict that will change -/
theorem s_fldD {o : Expr} {f : Str} {pos' pl : Pos} {a C : Addr} {ss : List (Str × SV)} (ho : ∀ G' H', EV X o γ G' H' (.ref a)) (hm : MO X.prog X.w G H a C ss) (hc : Cls X.K C) (hn : NoAttr X.K C f) (hf : f ∉ ss.map (·.1)) (hz : ss.length < 1000) (h0 : a ∈ N.M ∨ N.H0 a = none)
    (k : ∀ l G' H', Ext N.T [a] G H G' H' → H l = none → N.H0 l = none → l ≠ a → MD X.prog X.w G' H' l [] [] → MO X.prog X.w G' H' a C (ss ++ [(f, .val (.ref l))]) → E.nx γ G' H') (hs : swapsWith (.Dict [] [] pl) (some (.Attribute o f pos')) pos.line X.env = pure false := by rfl) : S1 N X (.Assign [.Attribute o f pos'] (.Dict [] [] pl) pos) γ G H E := fun σ x0 env =>
  ws_of (ps_fld pe_w pe_dnewN hs) fun l hl hsys => ho G _ σ _ env (by
    have x1 : Ext N.T [] G H G (upd H l (objHO l { cls := .type "dict", data := .dict #[] })) := Ext.newH x0.wf hl
    obtain ⟨g, dx, fs, e, r⟩ := hm.ext x0.wf x1 (by simp)
    have hnm := r.names
    have hlen : fs.length < 1000 := by
      have := congrArg List.length hnm
      simp only [List.length_map] at this
      omega
    have ne : l ≠ a := fun z => by
      obtain ⟨_, _, _, e2, _⟩ := hm
      rw [← z, hl] at e2; cases e2
    have hl0 : N.H0 l = none := by
      cases q : N.H0 l with
      | none => rfl
      | some u => exact absurd hl (x0.there l (by rw [q]; exact fun z => by cases z))
    have nT := x1.wf.notT e (fun ps z => by cases z)
    have x2 := (x1.mono (M' := [a]) (by simp)).trans (Ext.mut (o := .ins C dx (putF f (.ref l) fs)) x1.wf g nT) (fun m hm => .inl hm)
    refine ⟨a, C, dx, fs, rfl, e, hc, hn, hlen, γ, G, x2.g, x0.trans x2 (fun m hm => by rw [List.mem_singleton.mp hm]; exact h0), env, k l G _ x2 hl hl0 ne ⟨x0.wf.gn hl, _, [], [], by rw [upd_ne ne, upd_same], dic_new hsys, rfl, .nil, .nil⟩ ⟨g, dx, _, upd_same, ?_⟩⟩
    rw [putF_new (by rw [hnm]; exact hf)]
    exact SVs.snoc (.val .nil) r)
end
end HG

set_option Elab.async false
set_option linter.all false
set_option maxRecDepth 100000
set_option maxHeartbeats 4000000
/-! any, all of a generator expression over a list of ints (one name), of pairs (two names, with captured names). -/
namespace HG
open PySem L2

/-- what must be seen of the generator expression's scope -/
def genC (sc scope : Scope) (xs : List Str) : Bool :=
  (match scope.kind with | .function => true | _ => false) && (!scope.isCoroutine) && (scope.names.all fun y => match y.2 with | .cell => false | .free => (match sc.names.lookup y.1 with | some .cell => true | _ => false) | _ => true) &&
    (match scope.names.lookup (".0" : Str) with | some .local => true | _ => false) && (xs.all fun x => match scope.names.lookup x with | some .local => true | _ => false)
structure GS (sc scope : Scope) (xs : List Str) : Prop where
  kind : scope.kind = .function
  co : scope.isCoroutine = false
  cell : ∀ y ∈ scope.names, y.2 ≠ .cell
  free : ∀ y ∈ scope.names, y.2 = .free → sc.names.lookup y.1 = some .cell
  dot : scope.names.lookup (".0" : Str) = some NameKind.local
  loc : ∀ x ∈ xs, scope.names.lookup x = some .local
theorem gs_by {sc scope : Scope} {xs : List Str} (h : genC sc scope xs = true) : GS sc scope xs := by
  unfold genC at h
  simp only [Bool.and_eq_true, List.all_eq_true] at h
  obtain ⟨⟨⟨⟨h1, h2⟩, h3⟩, h4⟩, h5⟩ := h
  refine ⟨?_, by simpa using h2, fun y hy e => ?_, fun y hy e => ?_, ?_, fun x hx => ?_⟩
  · split at h1 <;> first | assumption | cases h1
  · have q := h3 y hy
    rw [e] at q
    cases q
  · have q := h3 y hy
    rw [e] at q
    simp only at q
    split at q
    · assumption
    · cases q
  · split at h4
    · assumption
    · cases h4
  · have q := h5 x hx
    split at q
    · assumption
    · cases q

section
variable {X : Cx} {pins : List (Addr × Obj)} {σ : L2.St} {H : Hp} {s : Shared}
def ReadyB (X : Cx) (pins : List (Addr × Obj)) (σ : L2.St) (H1 : Hp) (P : Addr) (n : Nat) (tr : Nat → Bool) (g : Addr) (s5 : Shared) : Prop :=
  ∃ (fp wr : List Addr) (G : Array GenState → Array GenState → Prop) (F : Nat → Value → Prop) (St : Nat → Shared → Prop),
    WalksS X.prog X.w X.A.in1 g fp wr G n F St ∧ St 0 s5 ∧ TruthOf X.prog X.w X.A.in1 F tr ∧ ∀ s', Moved wr G s5 s' → ∃ H2, GxR.Tabbed P H1 H2 ∧ Inv X pins σ H2 s'

/-- one name, the items any values -/
theorem gen_nameB {c P : Addr} {elt iter : Expr} {x : Str} {px gpos : Pos} {scope : Scope} {Pz : List V → Prop} {tr : List V → Nat → Bool} {te : TE} {k : Nat} {Q' : Value → Shared → Prop} {R : List V → Hp → Prop}
    (hr : Room k X.A) (TB : GxR.TabB X.base X.mg c P) (hcode : X.env.code = .ref c) (S : GS X.env.scope scope [x]) (hi : PE X iter te)
    (hel : ∀ (cenv : Env) (A' : Around) (E' : Value → Shared → Prop) (xs : List V) (j : Nat) (v : V) (u : Value) (s₂ : Shared) (m₂ : Str → Option Value), cenv.scope = scope → Pz xs → xs[j]? = some v → RelV v u → s₂.heap.Ns cenv.locals m₂ → m₂ x = some u →
      wpAny (model X.prog X.w) A' (eval elt cenv) (fun y s₃ => y = .bool (tr xs j) ∧ Keeps s₂ s₃) E' s₂)
    (hs : ∀ v, genFold iter X.env v = pure v) (I : Inv X pins σ H s) (h : te σ H fun v H1 => ∃ (yl : Addr) (xs : List V), v = .ref yl ∧ SqL X.K H1 yl xs ∧ Pz xs ∧ GxR.TabG H1 P ∧ R xs H1)
    (hQ : ∀ xs H1 g s5, Pz xs → R xs H1 → ReadyB X pins σ H1 P xs.length (tr xs) g s5 → Q' (.ref g) s5) :
    wpAny (model X.prog X.w) X.A (eval (.GeneratorExp elt [⟨.Name x px, iter, [], 0⟩] scope gpos) X.env) Q' X.xe s := by
  refine wpAny_GeneratorExp_walksQ hr.hd S.co (closure_ok fun y hy e => I.ok.has _ (.inl (S.free y hy e))) S.cell S.dot (S.loc x (by simp)) S.kind (by have := hr.dp; omega) ?_ hs
  refine thn (hi.run pins s σ H _ I h) fun xv s1 ⟨v, H1, I1, r1, q1⟩ => ?_
  obtain ⟨yl, xs, rfl, hyl, hPz, ⟨ps, hP, ht⟩, q1⟩ := q1
  obtain rfl : xv = Value.ref yl := r1
  obtain ⟨its, rv, hl, hz⟩ := I1.list hyl
  have hIL := hl.isList
  have hlen : its.length = xs.length := rv.length.symm
  have hat : ∀ (i : Nat) (u : Value), its.toArray[i]? = some u → ∃ v, xs[i]? = some v ∧ RelV v u := fun i u hu => by
    have hv2 : its[i]? = some u := by simpa using hu
    have hi2 : i < its.length := (List.getElem?_eq_some_iff.mp hv2).1
    obtain ⟨a, ha⟩ : ∃ a, xs[i]? = some a := ⟨xs[i]'(by omega), List.getElem?_eq_getElem _⟩
    obtain ⟨u2, hu2, ru⟩ := rv.get ha
    rw [hv2] at hu2
    cases hu2
    exact ⟨a, ha, ru⟩
  refine wpAny_pyIter_list hIL ?_
  generalize ho : ({ cls := .type "list_iterator", data := .fields #[.ref yl, .int 0 0] } : Obj) = o
  have hitr : (s1.heap.push o).IsListIter s1.heap.objs.size yl 0 := by
    subst ho
    exact ⟨_, Heap.get?_push_size _ rfl, rfl, rfl⟩
  have hylt : yl < s1.heap.objs.size := by
    obtain ⟨_, e, _⟩ := _root_.id hIL
    exact Heap.lt_size e
  have hPs : s1.heap.get? P = some { cls := .none, data := .fields ps } := I1.hok P _ hP
  have hPlt : P < s1.heap.objs.size := Heap.lt_size hPs
  have hP2 : (s1.heap.push o).get? P = some { cls := .none, data := .fields ps } := Heap.get?_push_of_some _ hPs
  have cd : PySem.W.CodeHd (s1.heap.push o) c P := TB.code.keeps fun b u e => Heap.get?_push_of_some _ (I1.bk b u e)
  have lim2 : (s1.heap.push o).NoLimit := I1.nolimit.push o
  have cont : ∀ (code : Value) (h3 : Heap) (tk : Nat) (ps' : Array Value), Heap.ExtBut P (s1.heap.push o) h3 → (s1.heap.push o).objs.size ≤ h3.objs.size → h3.get? P = some { cls := .none, data := .fields ps' } → (∃ more, ps' = ps ++ more) → TriplesOk ps'.toList →
      wpAny (model X.prog X.w) X.A (builtinsFor X.env.globals X.env.builtins) (fun bi s₄ =>
        ∃ Ia fp wr n₀ Pf St₀ pz F, Value.ref s1.heap.objs.size = .ref Ia ∧ (∀ A' : Around, A'.handled = none → Walks X.prog X.w A' Ia fp wr n₀ Pf St₀) ∧ St₀ 0 s₄.heap ∧ (∀ b ∈ fp, b < s₄.heap.objs.size) ∧ s₄.heap.NoLimit ∧ cStatics ∉ wr ∧
          (∀ href : Heap, (∀ b o, s₄.heap.get? b = some o → href.get? b = some o) →
            QuietGen X.prog X.w (genEnv scope (cloFrom X.env.cells scope.names []) s₄.heap.objs.size code bi X.env) x [] elt (List.range s₄.heap.objs.size) wr Pf pz F href) ∧
          (∀ a h₅ tk gs, gs.bare = true → s₄.heap.objs.size < a → h₅.objs.size = a + 1 → (∀ b o, s₄.heap.get? b = some o → h₅.get? b = some o) →
            WalksS X.prog X.w X.A.in4 a (a :: s₄.heap.objs.size :: List.range s₄.heap.objs.size) (s₄.heap.objs.size :: wr) (GenOnlyQ s₄.gens.size) (passing pz n₀ 0).length
              (fun j y => ∃ i, (passing pz n₀ 0)[j]? = some i ∧ F i y) (GenAt X.prog X.w X.A.in4 a s₄.gens.size s₄.heap.objs.size (List.range s₄.heap.objs.size) wr pz n₀ F) →
            GenAt X.prog X.w X.A.in4 a s₄.gens.size s₄.heap.objs.size (List.range s₄.heap.objs.size) wr pz n₀ F 0 { s₄ with gens := s₄.gens.push gs, toks := tk, heap := h₅ } →
            Q' (.ref a) { s₄ with gens := s₄.gens.push gs, toks := tk, heap := h₅ })) X.xe { s1 with heap := h3, toks := tk } := by
    intro code h3 tk ps' hx hsz hP3 hmore ht3
    obtain ⟨bm, ob, e1, e2, e3, e4, e5, e6, e7, e8⟩ := TB.bm
    have hcP : cStatics ≠ P := fun e => by
      obtain ⟨_, hns, _⟩ := I1.nolimit
      obtain ⟨o', es, ep, ho, hd, _⟩ := hns
      rw [e, hPs] at ho
      cases ho
      cases hd
    have hcl : cStatics < s1.heap.objs.size := let ⟨_, hns, _⟩ := I1.nolimit; hns.lt
    have sz2 : (s1.heap.push o).objs.size = s1.heap.objs.size + 1 := Heap.size_push ..
    have keep3 : ∀ b u, b ≠ P → s1.heap.get? b = some u → h3.get? b = some u := fun b u hb e => hx b u hb (Heap.get?_push_of_some _ e)
    refine wpAny_builtinsFor (m := X.mg) (by rw [I1.ok.glob]; exact ((I1.mod.glob.keeps I1.bk).push o).extBut hx TB.gP) e1 e2 (keep3 _ _ e4 (I1.bk _ _ e5)) e6 e7 e8 ?_
    have hylP : yl ≠ P := fun z => by
      obtain ⟨_, e, hc1, _, hd1⟩ := _root_.id hIL
      rw [z, hPs] at e
      cases e
      cases hd1
    have hIL3 : h3.IsList yl its.toArray := by
      obtain ⟨ob, e, r⟩ := _root_.id hIL
      exact ⟨ob, keep3 _ _ hylP e, r⟩
    have hItr3 : h3.IsListIter s1.heap.objs.size yl 0 := hitr.at fun u e => hx _ u (Nat.ne_of_gt hPlt) e
    refine ⟨s1.heap.objs.size, [s1.heap.objs.size, yl], [s1.heap.objs.size], its.toArray.size, (fun i v => its.toArray[i]? = some v), (fun i h => h.IsListIter s1.heap.objs.size yl i ∧ h.IsList yl its.toArray), (fun _ => true),
      (fun i y => y = .bool (tr xs i)), rfl, (fun A' hA => Walks.list hA _ _ (Nat.ne_of_lt hylt) _), ⟨hItr3, hIL3⟩, ?_, lim2.extBut hx hcP, ?_, ?_, ?_⟩
    · intro b hb
      rcases List.mem_cons.mp hb with z | z
      · rw [z]
        show s1.heap.objs.size < h3.objs.size
        omega
      · rcases List.mem_cons.mp z with z | z
        · rw [z]
          have e9 : s1.heap.objs.size ≤ h3.objs.size := by omega
          exact Nat.lt_of_lt_of_le hylt e9
        · cases z
    · intro z
      rcases List.mem_cons.mp z with z | z
      · exact Nat.ne_of_lt hcl z
      · cases z
    · intro href hhref
      refine ⟨fun A' E' i v s₂ m₂ hA hPv hn hm hk => ?_, fun A' E' i v s₂ m₂ hA hPv hp hn hm hk => ?_⟩
      · simp only [List.forIn_nil]
        exact wpAny_pure ⟨rfl, GxR.keeps_refl _⟩
      · obtain ⟨a, ha, ru⟩ := hat i v hPv
        exact hel _ A' E' xs i a v s₂ m₂ rfl hPz ha ru hn hm
    · intro g h5 tk5 gs hgb hag hsz5 hk5 W5 hgat
      simp only [GxR.passing_true, List.length_range] at W5
      have hn5 : its.toArray.size = xs.length := by rw [List.size_toArray, hlen]
      rw [hn5] at W5 hgat
      refine hQ xs H1 g _ hPz q1 ⟨_, _, _, _, _, W5.in4_1, hgat, ?_, fun s' hm => ?_⟩
      · intro j y sj Qj Ej hy hQj
        obtain ⟨i, hij, rfl⟩ := hy
        obtain ⟨hj, ej⟩ := List.getElem?_eq_some_iff.mp hij
        rw [List.getElem_range] at ej
        subst ej
        exact wpAny_truthy_bool hQj
      · obtain ⟨more, em⟩ := hmore
        have nwr : ∀ b u, s1.heap.get? b = some u → b ∉ h3.objs.size :: [s1.heap.objs.size] := fun b u e hb => by
          have hl := Heap.lt_size e
          rcases List.mem_cons.mp hb with z | z
          · rw [z] at hl
            have h9 : (h3.objs.size : Nat) < s1.heap.objs.size := hl
            omega
          · rcases List.mem_cons.mp z with z | z
            · rw [z] at hl
              exact Nat.lt_irrefl _ hl
            · cases z
        have J := GxR.inv_tab (more := more) (h' := s'.heap) (g' := s'.gens) (d' := s'.drawn) (t' := s'.toks) I1 hP (fun b u hb e => hm.heap b u (nwr b u e) (hk5 b u (keep3 b u hb e)))
          (by rw [← em]; exact hm.heap P _ (nwr P _ hPs) (hk5 P _ hP3)) (PyProof.Rows.AllBare.movedS (I1.bare.push hgb) hm)
        rw [GxR.sh_eta s1 s' hm.os] at J
        refine ⟨upd H1 P (.tbl (ps ++ more)), ⟨⟨ps ++ more, upd_same, by rw [← em]; exact ht3⟩, fun b hb => upd_ne hb⟩, J⟩
  refine ⟨lim2, ?_⟩
  cases hf : codeAmong gpos ps.toList with
  | none =>
    refine wpAny_genexprCodeX hcode (cd.code hP2 ht) (cd.tab hP2) hf fun c' h' tk hx hge hlt hco' _ htab' _ => ?_
    obtain ⟨o1, vs, f1, tf, fl, tg, inF, tx, tt, op, _, _, _, _, _, _, _, _, _, htr, _⟩ := hco'
    exact cont _ h' tk _ hx (Nat.le_trans hge (Nat.le_of_lt hlt)) htab'.2 ⟨_, rfl⟩ htr
  | some cv =>
    refine wpAny_genexprCode_hit hcode (cd.code hP2 ht) hf ?_
    exact cont cv (s1.heap.push o) s1.toks ps (Heap.ExtBut.refl _ _) (Nat.le_refl _) hP2 ⟨#[], by simp⟩ ht

/-- two names, the items pairs; caps: captured names and what they hold -/
def Caps (cenv : Env) (h : Heap) (caps : List (Str × V)) : Prop := ∀ p ∈ caps, cenv.kindOf p.1 = some .free ∧ ∃ c u, cenv.cells.lookup p.1 = some c ∧ h.IsCell c (some u) ∧ RelV p.2 u
theorem gen_pairB {c P : Addr} {elt iter : Expr} {xa xb : Str} {pa pb pt gpos : Pos} {kt : Nat} {scope : Scope} {caps : List (Str × V)} {tr : List (V × V) → Nat → Bool} {Pz : List (V × V) → Prop} {te : TE} {k : Nat} {Q' : Value → Shared → Prop} {R : List (V × V) → Hp → Prop}
    (hr : Room k X.A) (TB : GxR.TabB X.base X.mg c P) (hcode : X.env.code = .ref c) (S : GS X.env.scope scope [xa, xb]) (hab : xa ≠ xb) (hi : PE X iter te)
    (hcap : ∀ p ∈ caps, scope.names.lookup p.1 = some .free ∧ ∃ i : Nat, X.N[i]? = some p.1 ∧ σ[i]? = some (some p.2))
    (hel : ∀ (cenv : Env) (A' : Around) (E' : Value → Shared → Prop) (xs : List (V × V)) (j : Nat) (va vb : V) (ua ub : Value) (s₂ : Shared) (m₂ : Str → Option Value), cenv.scope = scope → Pz xs → Caps cenv s₂.heap caps → xs[j]? = some (va, vb) → RelV va ua → RelV vb ub → s₂.heap.Ns cenv.locals m₂ → m₂ xa = some ua → m₂ xb = some ub →
      wpAny (model X.prog X.w) A' (eval elt cenv) (fun y s₃ => y = .bool (tr xs j) ∧ Keeps s₂ s₃) E' s₂)
    (hs : ∀ v, genFold iter X.env v = pure v) (I : Inv X pins σ H s) (h : te σ H fun v H1 => ∃ (yl : Addr) (ts : List Addr) (xs : List (V × V)), v = .ref yl ∧ SqL X.K H1 yl (ts.map V.ref) ∧ Paired (fun t (p : V × V) => H1 t = some (.tup [p.1, p.2])) ts xs ∧ Pz xs ∧ GxR.TabG H1 P ∧ R xs H1)
    (hQ : ∀ xs H1 g s5, Pz xs → R xs H1 → ReadyB X pins σ H1 P xs.length (tr xs) g s5 → Q' (.ref g) s5) :
    wpAny (model X.prog X.w) X.A (eval (.GeneratorExp elt [⟨.Tuple [.Name xa pa, .Name xb pb] kt pt, iter, [], 0⟩] scope gpos) X.env) Q' X.xe s := by
  refine wpAny_GeneratorExp_walksQT hr.hd S.co (closure_ok fun y hy e => I.ok.has _ (.inl (S.free y hy e))) S.cell S.dot (S.loc xa (by simp)) (S.loc xb (by simp)) hab S.kind (by have := hr.dp; omega) ?_ hs
  refine thn (hi.run pins s σ H _ I h) fun xv s1 ⟨v, H1, I1, r1, q1⟩ => ?_
  obtain ⟨yl, ts, xs, rfl, hyl, hts, hPz, ⟨ps, hP, ht⟩, q1⟩ := q1
  obtain rfl : xv = Value.ref yl := r1
  obtain ⟨its, rv, hl, hz⟩ := I1.list hyl
  have hIL := hl.isList
  have hlt0 : ts.length = xs.length := Paired.length hts
  have hits : its = ts.map Value.ref := refs_at rv
  have hlen : its.length = xs.length := by rw [hits, List.length_map, hlt0]
  -- the pairs as they stand
  have hpair : ∀ (i : Nat) (p : V × V), xs[i]? = some p → ∃ t ua ub, ts[i]? = some t ∧ RelV p.1 ua ∧ RelV p.2 ub ∧ s1.heap.IsTuple t #[ua, ub] := fun i p hp => by
    obtain ⟨t, ht', e⟩ : ∃ t, ts[i]? = some t ∧ H1 t = some (.tup [p.1, p.2]) := by
      have key : ∀ {ts : List Addr} {xs : List (V × V)} {i : Nat}, Paired (fun t (p : V × V) => H1 t = some (.tup [p.1, p.2])) ts xs → xs[i]? = some p → ∃ t, ts[i]? = some t ∧ H1 t = some (.tup [p.1, p.2]) := by
        intro ts xs i hp
        induction hp generalizing i with
        | nil => intro e; simp at e
        | cons r t ih =>
          intro e
          cases i with
          | zero => simp only [List.getElem?_cons_zero, Option.some.injEq] at e; subst e; exact ⟨_, rfl, r⟩
          | succ i =>
            obtain ⟨t, q1, q2⟩ := ih (i := i) (by simpa using e)
            exact ⟨t, by simpa using q1, q2⟩
      exact key hts hp
    obtain ⟨_, us, r2, o, ho, hc, n, hd⟩ := I1.hok t _ e
    obtain ⟨ua, ub, rfl, ra, rb⟩ := vals2 r2
    exact ⟨t, ua, ub, ht', ra, rb, o, ho, hc, n, hd⟩
  have hvals : ∃ vals : Nat → Array Value, ∀ i p, xs[i]? = some p → ∃ ua ub, vals i = #[ua, ub] ∧ RelV p.1 ua ∧ RelV p.2 ub ∧ s1.heap.IsTuple (ts.getD i 0) #[ua, ub] := by
    have : ∀ i, ∃ a : Array Value, ∀ p, xs[i]? = some p → ∃ ua ub, a = #[ua, ub] ∧ RelV p.1 ua ∧ RelV p.2 ub ∧ s1.heap.IsTuple (ts.getD i 0) #[ua, ub] := fun i => by
      cases e : xs[i]? with
      | none => exact ⟨#[], fun p q => by cases q⟩
      | some p =>
        obtain ⟨t, ua, ub, ht', ra, rb, hT⟩ := hpair i p e
        refine ⟨#[ua, ub], fun p' q => ?_⟩
        cases q
        exact ⟨ua, ub, rfl, ra, rb, by rw [List.getD_eq_getElem?_getD, ht']; exact hT⟩
    exact ⟨fun i => (this i).choose, fun i => (this i).choose_spec⟩
  obtain ⟨vals, hvals⟩ := hvals
  refine wpAny_pyIter_list hIL ?_
  generalize ho : ({ cls := .type "list_iterator", data := .fields #[.ref yl, .int 0 0] } : Obj) = o
  have hitr : (s1.heap.push o).IsListIter s1.heap.objs.size yl 0 := by
    subst ho
    exact ⟨_, Heap.get?_push_size _ rfl, rfl, rfl⟩
  have hylt : yl < s1.heap.objs.size := by
    obtain ⟨_, e, _⟩ := _root_.id hIL
    exact Heap.lt_size e
  have hPs : s1.heap.get? P = some { cls := .none, data := .fields ps } := I1.hok P _ hP
  have hPlt : P < s1.heap.objs.size := Heap.lt_size hPs
  have hP2 : (s1.heap.push o).get? P = some { cls := .none, data := .fields ps } := Heap.get?_push_of_some _ hPs
  have cd : PySem.W.CodeHd (s1.heap.push o) c P := TB.code.keeps fun b u e => Heap.get?_push_of_some _ (I1.bk b u e)
  have lim2 : (s1.heap.push o).NoLimit := I1.nolimit.push o
  -- the captured names
  have hcaps : ∀ p ∈ caps, ∃ c u, (cloFrom X.env.cells scope.names []).lookup p.1 = some c ∧ s1.heap.IsCell c (some u) ∧ RelV p.2 u := fun p hp => by
    obtain ⟨hf, i, hN, hσ⟩ := hcap p hp
    have hmem : (p.1, NameKind.free) ∈ scope.names := PySem.mem_of_lookup hf
    have hcell := S.free _ hmem rfl
    obtain ⟨m, hn, hl'⟩ := I1.loc
    obtain ⟨u, r, l⟩ := hl' i p.1 p.2 hN hσ (.inr (.inl hcell))
    rcases l with ⟨kk, _⟩ | ⟨_, c', e, z⟩
    · have kk : X.env.scope.names.lookup p.1 = some .local := kk
      rw [hcell] at kk
      cases kk
    · obtain ⟨c2, e2⟩ := mem_lookup (cloFrom_has (cells := X.env.cells) (acc := []) hmem)
      have e3 : c2 = c' := by
        rcases cloFrom_mem (PySem.mem_of_lookup e2) with q | ⟨_, q⟩
        · cases q
        · rw [q, e] <;> rfl
      exact ⟨c', u, by rw [e2, e3], z, r⟩
  have cont : ∀ (code : Value) (h3 : Heap) (tk : Nat) (ps' : Array Value), Heap.ExtBut P (s1.heap.push o) h3 → (s1.heap.push o).objs.size ≤ h3.objs.size → h3.get? P = some { cls := .none, data := .fields ps' } → (∃ more, ps' = ps ++ more) → TriplesOk ps'.toList →
      wpAny (model X.prog X.w) X.A (builtinsFor X.env.globals X.env.builtins) (fun bi s₄ =>
        ∃ Ia fp wr n₀ Pt St₀ Mid pz F, Value.ref s1.heap.objs.size = .ref Ia ∧ (∀ A' : Around, A'.handled = none → WalksU X.prog X.w A' Ia fp wr n₀ Pt St₀ Mid) ∧ (∀ i vals, Pt i vals → ∃ va vb, vals = #[va, vb]) ∧ St₀ 0 s₄.heap ∧ (∀ b ∈ fp, b < s₄.heap.objs.size) ∧ s₄.heap.NoLimit ∧ cStatics ∉ wr ∧
          (∀ href : Heap, (∀ b o, s₄.heap.get? b = some o → href.get? b = some o) →
            QuietGenT X.prog X.w (genEnv scope (cloFrom X.env.cells scope.names []) s₄.heap.objs.size code bi X.env) xa xb [] elt (List.range s₄.heap.objs.size) wr Pt pz F href) ∧
          (∀ a h₅ tk gs, gs.bare = true → s₄.heap.objs.size < a → h₅.objs.size = a + 1 → (∀ b o, s₄.heap.get? b = some o → h₅.get? b = some o) →
            WalksS X.prog X.w X.A.in4 a (a :: s₄.heap.objs.size :: List.range s₄.heap.objs.size) (s₄.heap.objs.size :: wr) (GenOnlyQ s₄.gens.size) (passing pz n₀ 0).length
              (fun j y => ∃ i, (passing pz n₀ 0)[j]? = some i ∧ F i y) (GenAt X.prog X.w X.A.in4 a s₄.gens.size s₄.heap.objs.size (List.range s₄.heap.objs.size) wr pz n₀ F) →
            GenAt X.prog X.w X.A.in4 a s₄.gens.size s₄.heap.objs.size (List.range s₄.heap.objs.size) wr pz n₀ F 0 { s₄ with gens := s₄.gens.push gs, toks := tk, heap := h₅ } →
            Q' (.ref a) { s₄ with gens := s₄.gens.push gs, toks := tk, heap := h₅ })) X.xe { s1 with heap := h3, toks := tk } := by
    intro code h3 tk ps' hx hsz hP3 hmore ht3
    obtain ⟨bm, ob, e1, e2, e3, e4, e5, e6, e7, e8⟩ := TB.bm
    have hcP : cStatics ≠ P := fun e => by
      obtain ⟨_, hns, _⟩ := I1.nolimit
      obtain ⟨o', es, ep, ho, hd, _⟩ := hns
      rw [e, hPs] at ho
      cases ho
      cases hd
    have hcl : cStatics < s1.heap.objs.size := let ⟨_, hns, _⟩ := I1.nolimit; hns.lt
    have sz2 : (s1.heap.push o).objs.size = s1.heap.objs.size + 1 := Heap.size_push ..
    have keep3 : ∀ b u, b ≠ P → s1.heap.get? b = some u → h3.get? b = some u := fun b u hb e => hx b u hb (Heap.get?_push_of_some _ e)
    refine wpAny_builtinsFor (m := X.mg) (by rw [I1.ok.glob]; exact ((I1.mod.glob.keeps I1.bk).push o).extBut hx TB.gP) e1 e2 (keep3 _ _ e4 (I1.bk _ _ e5)) e6 e7 e8 ?_
    have hylP : yl ≠ P := fun z => by
      obtain ⟨_, e, hc1, _, hd1⟩ := _root_.id hIL
      rw [z, hPs] at e
      cases e
      cases hd1
    have hIL3 : h3.IsList yl its.toArray := by
      obtain ⟨ob, e, r⟩ := _root_.id hIL
      exact ⟨ob, keep3 _ _ hylP e, r⟩
    have hItr3 : h3.IsListIter s1.heap.objs.size yl 0 := hitr.at fun u e => hx _ u (Nat.ne_of_gt hPlt) e
    have hn5 : its.toArray.size = xs.length := by rw [List.size_toArray, hlen]
    have hTup : ∀ kx, kx < xs.length → s1.heap.IsTuple (ts.getD kx 0) (vals kx) ∧ ts.getD kx 0 < s1.heap.objs.size ∧ ts.getD kx 0 ≠ P := fun kx hk => by
      obtain ⟨ua, ub, e, _, _, hT⟩ := hvals kx xs[kx] (List.getElem?_eq_getElem hk)
      rw [e]
      obtain ⟨ot, eo, hc1, n1, hd1⟩ := _root_.id hT
      refine ⟨hT, Heap.lt_size eo, fun z => ?_⟩
      rw [z, hPs] at eo
      cases eo
      cases hd1
    have hT3 : ∀ kx, kx < its.toArray.size → h3.IsTuple (ts.getD kx 0) (vals kx) := fun kx hk => by
      obtain ⟨⟨ot, eo, r⟩, hlt, hne⟩ := hTup kx (by omega)
      exact ⟨ot, keep3 _ _ hne eo, r⟩
    have hit0 : ∀ j, j < its.toArray.size → its.toArray[j]? = some (.ref (ts.getD j 0)) := fun j hj => by
      rw [hits, List.getElem?_toArray, List.getElem?_map, List.getD_eq_getElem?_getD, List.getElem?_eq_getElem (by omega)]
      rfl
    refine ⟨s1.heap.objs.size, s1.heap.objs.size :: yl :: (List.range its.toArray.size).map (fun j => ts.getD j 0), [s1.heap.objs.size], its.toArray.size, (fun j v => j < its.toArray.size ∧ v = vals j), _, _, (fun _ => true),
      (fun i y => y = .bool (tr xs i)), rfl, (fun A' hA => (WalksU.listOfTuples hA s1.heap.objs.size yl (Nat.ne_of_lt hylt) its.toArray (fun j => ts.getD j 0) vals hit0 (fun j hj => Nat.ne_of_lt (hTup j (by omega)).2.1)).bound), ?_, ⟨hItr3, hIL3, hT3⟩, ?_, lim2.extBut hx hcP, ?_, ?_, ?_⟩
    · rintro i v ⟨hi, rfl⟩
      obtain ⟨ua, ub, e, _⟩ := hvals i xs[i] (List.getElem?_eq_getElem (by omega))
      exact ⟨ua, ub, e⟩
    · intro b hb
      have e9 : s1.heap.objs.size < h3.objs.size := by omega
      rcases List.mem_cons.mp hb with z | z
      · rw [z]; exact e9
      · rcases List.mem_cons.mp z with z | z
        · rw [z]; exact Nat.lt_trans hylt e9
        · obtain ⟨j, hj, rfl⟩ := List.mem_map.mp z
          exact Nat.lt_trans (hTup j (by have := List.mem_range.mp hj; omega)).2.1 e9
    · intro z
      rcases List.mem_cons.mp z with z | z
      · exact Nat.ne_of_lt hcl z
      · cases z
    · intro href hhref
      refine ⟨fun A' E' i va vb s₂ m₂ hA hPv hn hm hm2 hk => ?_, fun A' E' i va vb s₂ m₂ hA hPv hp hn hm hm2 hk => ?_⟩
      · simp only [List.forIn_nil]
        exact wpAny_pure ⟨rfl, GxR.keeps_refl _⟩
      · obtain ⟨hi, hv⟩ := hPv
        have hi' : i < xs.length := by omega
        obtain ⟨ua, ub, e, ra, rb, _⟩ := hvals i xs[i] (List.getElem?_eq_getElem hi')
        rw [e] at hv
        have e1' : va = ua ∧ vb = ub := by simpa using hv
        obtain ⟨rfl, rfl⟩ := e1'
        refine hel _ A' E' xs i xs[i].1 xs[i].2 va vb s₂ m₂ rfl hPz (fun p hp => ?_) (List.getElem?_eq_getElem hi') ra rb hn hm hm2
        obtain ⟨c', u, e4, z, r⟩ := hcaps p hp
        obtain ⟨hf, _⟩ := hcap p hp
        obtain ⟨oc, hoc, hdc⟩ := z
        have hclt : c' < s1.heap.objs.size := Heap.lt_size hoc
        have hcP' : c' ≠ P := fun q => by rw [q, hPs] at hoc; cases hoc; cases hdc
        refine ⟨hf, c', u, e4, ⟨oc, hk c' (List.mem_range.mpr (by show c' < h3.objs.size; exact Nat.lt_of_lt_of_le hclt (by omega))) (fun q => by rw [List.mem_singleton.mp q] at hclt; exact Nat.lt_irrefl _ hclt) oc (hhref _ _ (keep3 _ _ hcP' hoc)), hdc⟩, r⟩
    · intro g h5 tk5 gs hgb hag hsz5 hk5 W5 hgat
      simp only [GxR.passing_true, List.length_range] at W5
      rw [hn5] at W5 hgat
      refine hQ xs H1 g _ hPz q1 ⟨_, _, _, _, _, W5.in4_1, hgat, ?_, fun s' hm => ?_⟩
      · intro j y sj Qj Ej hy hQj
        obtain ⟨i, hij, rfl⟩ := hy
        obtain ⟨hj, ej⟩ := List.getElem?_eq_some_iff.mp hij
        rw [List.getElem_range] at ej
        subst ej
        exact wpAny_truthy_bool hQj
      · obtain ⟨more, em⟩ := hmore
        have nwr : ∀ b u, s1.heap.get? b = some u → b ∉ h3.objs.size :: [s1.heap.objs.size] := fun b u e hb => by
          have hl := Heap.lt_size e
          rcases List.mem_cons.mp hb with z | z
          · rw [z] at hl
            have h9 : (h3.objs.size : Nat) < s1.heap.objs.size := hl
            omega
          · rcases List.mem_cons.mp z with z | z
            · rw [z] at hl
              exact Nat.lt_irrefl _ hl
            · cases z
        have J := GxR.inv_tab (more := more) (h' := s'.heap) (g' := s'.gens) (d' := s'.drawn) (t' := s'.toks) I1 hP (fun b u hb e => hm.heap b u (nwr b u e) (hk5 b u (keep3 b u hb e)))
          (by rw [← em]; exact hm.heap P _ (nwr P _ hPs) (hk5 P _ hP3)) (PyProof.Rows.AllBare.movedS (I1.bare.push hgb) hm)
        rw [GxR.sh_eta s1 s' hm.os] at J
        refine ⟨upd H1 P (.tbl (ps ++ more)), ⟨⟨ps ++ more, upd_same, by rw [← em]; exact ht3⟩, fun b hb => upd_ne hb⟩, J⟩
  refine ⟨lim2, ?_⟩
  cases hf : codeAmong gpos ps.toList with
  | none =>
    refine wpAny_genexprCodeX hcode (cd.code hP2 ht) (cd.tab hP2) hf fun c' h' tk hx hge hlt hco' _ htab' _ => ?_
    obtain ⟨o1, vs, f1, tf, fl, tg, inF, tx, tt, op, _, _, _, _, _, _, _, _, _, htr, _⟩ := hco'
    exact cont _ h' tk _ hx (Nat.le_trans hge (Nat.le_of_lt hlt)) htab'.2 ⟨_, rfl⟩ htr
  | some cv =>
    refine wpAny_genexprCode_hit hcode (cd.code hP2 ht) hf ?_
    exact cont cv (s1.heap.push o) s1.toks ps (Heap.ExtBut.refl _ _) (Nat.le_refl _) hP2 ⟨#[], by simp⟩ ht
end
end HG

set_option Elab.async false
set_option linter.all false
set_option maxRecDepth 100000
set_option maxHeartbeats 4000000
/-! any(..) and all(..) of the two generator expressions, by data. -/
namespace HG
open PySem L2

section
variable {T : List Addr} {X : Cx} {γ : List SV}
theorem ext_tab {G H H2 : Hp} {P : Addr} (wf : WF T G H) (hP : P ∈ T) (t : GxR.Tabbed P H H2) : Ext T [] G H G H2 := by
  obtain ⟨ht, hk⟩ := t
  refine ⟨fun _ _ e => e, fun b o e nt _ => ?_, fun b o e => .inl e, fun b e => ?_, ⟨fun b o e => ?_, fun p hp => ?_, wf.tn⟩⟩
  · rw [hk b (fun z => nt (by rw [z]; exact hP))]; exact e
  · by_cases q : b = P
    · obtain ⟨ps, e2, _⟩ := ht
      rw [q, e2]; exact fun z => by cases z
    · rw [hk b q]; exact e
  · have q : b ≠ P := fun z => by
      rw [z, wf.tn P hP] at e
      cases e
    rw [hk b q]; exact wf.sub _ _ e
  · by_cases q : p = P
    · rw [q]; exact ht
    · obtain ⟨ps, e2, r⟩ := wf.tab p hp
      exact ⟨ps, by rw [hk p q]; exact e2, r⟩

theorem range_any (f : Nat → Bool) {α : Type} (l : List α) (g : α → Bool) (h : ∀ i x, l[i]? = some x → f i = g x) : (List.range l.length).any f = l.any g := by
  rw [Bool.eq_iff_iff, List.any_eq_true, List.any_eq_true]
  constructor
  · rintro ⟨i, hi, e⟩
    have hi' := List.mem_range.mp hi
    exact ⟨l[i], List.getElem_mem hi', by rw [← h i _ (List.getElem?_eq_getElem hi')]; exact e⟩
  · rintro ⟨x, hx, e⟩
    obtain ⟨i, hi, rfl⟩ := List.getElem_of_mem hx
    exact ⟨i, List.mem_range.mpr hi, by rw [h i _ (List.getElem?_eq_getElem hi)]; exact e⟩
theorem range_all (f : Nat → Bool) {α : Type} (l : List α) (g : α → Bool) (h : ∀ i x, l[i]? = some x → f i = g x) : (List.range l.length).all f = l.all g := by
  rw [Bool.eq_iff_iff, List.all_eq_true, List.all_eq_true]
  constructor
  · intro e x hx
    obtain ⟨i, hi, rfl⟩ := List.getElem_of_mem hx
    rw [← h i _ (List.getElem?_eq_getElem hi)]
    exact e i (List.mem_range.mpr hi)
  · intro e i hi
    have hi' := List.mem_range.mp hi
    rw [h i _ (List.getElem?_eq_getElem hi')]
    exact e _ (List.getElem_mem hi')

/-- any(x < 0 for x in e) -/
theorem ee_anyNeg {c P : Addr} {iter : Expr} {x : Str} {px p1 p2 p3 p pos gpos : Pos} {j : Nat} {scope : Scope} {k : Nat} {ns : List Int}
    (hr : Room k X.A) (hm : X.mg "any" = none) (TB : GxR.TabB X.base X.mg c P) (hP : P ∈ T) (hcode : X.env.code = .ref c) (S : GS X.env.scope scope [x]) (hi : EE T X iter γ (.lst (ns.map .int))) (hs : ∀ v, genFold iter X.env v = pure v := by intro _; rfl) (hg : Gl X "any" := by rfl)
    (hd : (x == ("__debug__" : Str)) = false := by decide)
    (he : starEach [.GeneratorExp (.Compare (.Name x p1) [.Lt] [.Constant (.int 0) j p2] p3) [⟨.Name x px, iter, [], 0⟩] scope gpos] X.env = (false, eval (.GeneratorExp (.Compare (.Name x p1) [.Lt] [.Constant (.int 0) j p2] p3) [⟨.Name x px, iter, [], 0⟩] scope gpos) X.env) :: starEach [] X.env := by rfl) :
    EE T X (.Call (.Name "any" p) [.GeneratorExp (.Compare (.Name x p1) [.Lt] [.Constant (.int 0) j p2] p3) [⟨.Name x px, iter, [], 0⟩] scope gpos] [] pos) γ (.bl (ns.any fun n => decide (n < 0))) := fun σ G H Q wf env kk pins s I => by
  refine wpAny_Call_Name_kw (ld_blt I hg hm PyProof.Rows.boot_any ?_)
  refine PyProof.Rows.callWith_builtin1 ?_ he (by rfl)
  rw [he]
  show wpAny _ _ (spliced ((false, eval (.GeneratorExp (.Compare (.Name x p1) [.Lt] [.Constant (.int 0) j p2] p3) [⟨.Name x px, iter, [], 0⟩] scope gpos) X.env) :: backTo pos (starEach [] X.env))) _ _ s
  refine Calls.spliced_cons (gen_nameB (σ := σ) (H := H) (pins := pins) (Pz := fun xs => xs = ns.map V.int) (tr := fun xs i => match xs[i]? with | some (.int n) => decide (n < 0) | _ => false) (R := fun xs H1 => ∃ G1, Ext T [] G H G1 H1) hr TB hcode S pe_w ?_ hs I
    (hi σ G H _ wf env fun v G1 H1 x1 r1 => ?_) ?_)
  · intro cenv A' E' xs i v u s2 m2 hsc hz hx r hn hm2
    subst hz
    rw [List.getElem?_map] at hx
    cases hn1 : ns[i]? with
    | none => rw [hn1] at hx; cases hx
    | some n =>
      rw [hn1] at hx
      cases hx
      obtain ⟨t, rfl⟩ := r
      refine wpAny_Compare1 ?_
      refine wpAny_Name (wpAny_loadName_local (by rw [hsc]; exact S.kind) (show cenv.scope.names.lookup x = some .local by rw [hsc]; exact S.loc x (by simp)) hn hm2 ?_) hd
      refine wpAny_Constant_int ?_
      refine PySem.P.lt_int ⟨?_, GxR.keeps_tok _ _⟩
      simp only [List.getElem?_map, hn1, Option.map_some]
  · obtain ⟨l, vs, rfl, g1, q1⟩ := dr_lst r1
    have e := drs_ints q1
    subst e
    exact ⟨l, _, rfl, SqL.of (x1.wf.sub _ _ g1), rfl, x1.wf.tab P hP, G1, x1⟩
  · rintro xs H1 g s5 hz ⟨G1, x1⟩ hG
    subst hz
    obtain ⟨fp, wr, G', F, St, W, hst, htr, hI⟩ := hG
    refine Calls.spliced_nil ?_
    refine PySem.call_any_walkS (W.self 0 _ _ _ hst ⟨g, fp, wr, G', _, F, St, _, rfl, W, hst, htr, fun s' hmv => ?_⟩)
    obtain ⟨H2, hT, J⟩ := hI s' hmv
    refine ⟨.bl _, H2, J, rfl, ?_⟩
    have e : (List.range (ns.map V.int).length).any (fun i => match (ns.map V.int)[i]? with | some (.int n) => decide (n < 0) | _ => false) = ns.any fun n => decide (n < 0) := by
      rw [List.length_map]
      exact range_any _ ns _ fun i n hn => by simp only [List.getElem?_map, hn, Option.map_some]
    rw [e]
    exact kk _ G1 H2 (x1.tr (ext_tab x1.wf hP hT)) (.bl _)

theorem free_in {cenv : Env} {x : Str} {i : Int} {caps : List (Str × V)} {prog : Program} {w : World} {A' : Around} {E' : Value → Shared → Prop} {s : Shared} {p : Pos} {Q : Value → Shared → Prop} (hk : cenv.scope.kind = .function) (hc : Caps cenv s.heap caps) (hm : (x, V.int i) ∈ caps) (q : ∀ t, Q (.int i t) s)
    (hd : (x == ("__debug__" : Str)) = false := by decide) (hcd : (x == ("__classdict__" : Str)) = false := by decide) : wpAny (model prog w) A' (eval (.Name x p) cenv) Q E' s := by
  obtain ⟨hf, c, u, e, z, r⟩ := hc _ hm
  obtain ⟨t, rfl⟩ := r
  exact wpAny_Name (wpAny_loadName_free hk hf e z (q t) hcd) hd
theorem loc_in {cenv : Env} {x : Str} {i : Int} {u : Value} {m : Str → Option Value} {prog : Program} {w : World} {A' : Around} {E' : Value → Shared → Prop} {s : Shared} {p : Pos} {Q : Value → Shared → Prop} (hk : cenv.scope.kind = .function) (hl : cenv.scope.names.lookup x = some .local) (hn : s.heap.Ns cenv.locals m) (hm : m x = some u) (r : RelV (.int i) u) (q : ∀ t, Q (.int i t) s)
    (hd : (x == ("__debug__" : Str)) = false := by decide) : wpAny (model prog w) A' (eval (.Name x p) cenv) Q E' s := by
  obtain ⟨t, rfl⟩ := r
  exact wpAny_Name (wpAny_loadName_local hk hl hn hm (q t)) hd
theorem drs2 {P : Program} {w : World} {G : Hp} {vs : List V} {a b : D} (h : DRs P w G vs [a, b]) : ∃ v u, vs = [v, u] ∧ DR P w G v a ∧ DR P w G u b := by
  cases h with
  | cons h1 h2 => cases h2 with
    | cons h2 h3 => cases h3; exact ⟨_, _, rfl, h1, h2⟩
theorem pairs_of {P : Program} {w : World} {G H : Hp} (g : Sub G H) : ∀ {vs : List V} {l : List (Int × Int)}, DRs P w G vs (l.map fun b => .tup [.int b.1, .int b.2]) → ∃ ts : List Addr, vs = ts.map V.ref ∧ Paired (fun t (p : V × V) => H t = some (.tup [p.1, p.2])) ts (l.map fun b => (V.int b.1, V.int b.2))
  | _, [], h => by cases h; exact ⟨[], rfl, .nil⟩
  | _, b :: l, h => by
    cases h with
    | cons h1 h2 =>
      obtain ⟨ts, e, q⟩ := pairs_of g h2
      obtain ⟨t, xs, rfl, g1, q1⟩ := dr_tup h1
      obtain ⟨v, u, rfl, r1, r2⟩ := drs2 q1
      rw [dr_int r1, dr_int r2] at g1
      exact ⟨t :: ts, by rw [e]; rfl, .cons (g _ _ g1) q⟩
/-- all(s + n <= a or a + b <= s for a, b in e) -/
theorem ee_allApart {c P : Addr} {iter : Expr} {xa xb xs xn : Str} {pa pb pt p p1 p2 p3 p4 p5 p6 p7 p8 p9 p10 p11 pos gpos : Pos} {kt : Nat} {scope : Scope} {k : Nat} {l : List (Int × Int)} {s0 n0 : Int} (is in_ : Nat)
    (hr : Room k X.A) (hm : X.mg "all" = none) (TB : GxR.TabB X.base X.mg c P) (hP : P ∈ T) (hcode : X.env.code = .ref c) (S : GS X.env.scope scope [xa, xb]) (hab : xa ≠ xb) (hfs : scope.names.lookup xs = some .free) (hfn : scope.names.lookup xn = some .free)
    (hγs : γ[is]? = some (.dat (.int s0)) := by rfl) (hγn : γ[in_]? = some (.dat (.int n0)) := by rfl) (hNs : X.N[is]? = some xs := by rfl) (hNn : X.N[in_]? = some xn := by rfl)
    (hi : EE T X iter γ (.lst (l.map fun b => .tup [.int b.1, .int b.2]))) (hs : ∀ v, genFold iter X.env v = pure v := by intro _; rfl) (hg : Gl X "all" := by rfl)
    (hda : (xa == ("__debug__" : Str)) = false := by decide) (hdb : (xb == ("__debug__" : Str)) = false := by decide) (hds : (xs == ("__debug__" : Str)) = false := by decide) (hdn : (xn == ("__debug__" : Str)) = false := by decide) (hcs : (xs == ("__classdict__" : Str)) = false := by decide) (hcn : (xn == ("__classdict__" : Str)) = false := by decide)
    (he : starEach [.GeneratorExp (.BoolOp .Or [.Compare (.BinOp (.Name xs p1) .Add (.Name xn p2) p3) [.LtE] [.Name xa p4] p5, .Compare (.BinOp (.Name xa p6) .Add (.Name xb p7) p8) [.LtE] [.Name xs p9] p10] p11) [⟨.Tuple [.Name xa pa, .Name xb pb] kt pt, iter, [], 0⟩] scope gpos] X.env = (false, eval (.GeneratorExp (.BoolOp .Or [.Compare (.BinOp (.Name xs p1) .Add (.Name xn p2) p3) [.LtE] [.Name xa p4] p5, .Compare (.BinOp (.Name xa p6) .Add (.Name xb p7) p8) [.LtE] [.Name xs p9] p10] p11) [⟨.Tuple [.Name xa pa, .Name xb pb] kt pt, iter, [], 0⟩] scope gpos) X.env) :: starEach [] X.env := by rfl) :
    EE T X (.Call (.Name "all" p) [.GeneratorExp (.BoolOp .Or [.Compare (.BinOp (.Name xs p1) .Add (.Name xn p2) p3) [.LtE] [.Name xa p4] p5, .Compare (.BinOp (.Name xa p6) .Add (.Name xb p7) p8) [.LtE] [.Name xs p9] p10] p11) [⟨.Tuple [.Name xa pa, .Name xb pb] kt pt, iter, [], 0⟩] scope gpos] [] pos) γ (.bl (l.all fun b => decide (s0 + n0 ≤ b.1) || decide (b.1 + b.2 ≤ s0))) := fun σ G H Q wf env kk pins s I => by
  obtain ⟨vs0, es0, rs0⟩ := env.dat is _ hγs
  obtain ⟨vn0, en0, rn0⟩ := env.dat in_ _ hγn
  rw [dr_int rs0] at es0
  rw [dr_int rn0] at en0
  refine wpAny_Call_Name_kw (ld_blt I hg hm (show bootBuiltins "all" = some (.builtin "all") by decide +kernel) ?_)
  refine PyProof.Rows.callWith_builtin1 ?_ he (by rfl)
  rw [he]
  refine Calls.spliced_cons (gen_pairB (σ := σ) (H := H) (pins := pins) (caps := [(xs, .int s0), (xn, .int n0)]) (Pz := fun ys => ys = l.map fun b => (V.int b.1, V.int b.2)) (tr := fun ys i => match ys[i]? with | some (.int a, .int b) => decide (s0 + n0 ≤ a) || decide (a + b ≤ s0) | _ => false) (R := fun ys H1 => ∃ G1, Ext T [] G H G1 H1) hr TB hcode S hab pe_w ?_ ?_ hs I
    (hi σ G H _ wf env fun v G1 H1 x1 r1 => ?_) ?_)
  · intro y hy
    rcases List.mem_cons.mp hy with e | hy
    · subst e; exact ⟨hfs, is, hNs, es0⟩
    · rcases List.mem_cons.mp hy with e | hy
      · subst e; exact ⟨hfn, in_, hNn, en0⟩
      · cases hy
  · intro cenv A' E' ys i va vb ua ub s2 m2 hsc hz hcap hx ra rb hn hma hmb
    subst hz
    rw [List.getElem?_map] at hx
    cases hn1 : l[i]? with
    | none => rw [hn1] at hx; cases hx
    | some b =>
      rw [hn1] at hx
      cases hx
      have hk : cenv.scope.kind = .function := by rw [hsc]; exact S.kind
      have la : cenv.scope.names.lookup xa = some .local := by rw [hsc]; exact S.loc xa (by simp)
      have lb : cenv.scope.names.lookup xb = some .local := by rw [hsc]; exact S.loc xb (by simp)
      have etr : (match (l.map fun b => (V.int b.1, V.int b.2))[i]? with | some (.int a, .int b) => decide (s0 + n0 ≤ a) || decide (a + b ≤ s0) | _ => false) = (decide (s0 + n0 ≤ b.1) || decide (b.1 + b.2 ≤ s0)) := by
        simp only [List.getElem?_map, hn1, Option.map_some]
      refine wpAny_Or2 (wpAny_Compare1 (wpAny_BinOp (free_in hk hcap (i := s0) (by simp) (fun t1 => free_in hk hcap (i := n0) (by simp) (fun t2 => PySem.P.add_int ?_) hdn hcn) hds hcs)))
      refine loc_in hk la hn hma ra (fun t3 => PySem.P.le_int (wpAny_truthy_bool ?_)) hda
      cases h1 : decide (s0 + n0 ≤ b.1) with
      | true =>
        refine ⟨?_, GxR.keeps_tok _ _⟩
        show Value.bool true = Value.bool _
        rw [etr, h1]; rfl
      | false =>
        show wpAny _ _ _ _ _ _
        refine wpAny_Compare1 (wpAny_BinOp (loc_in hk la hn hma ra (fun t4 => loc_in hk lb hn hmb rb (fun t5 => PySem.P.add_int ?_) hdb) hda))
        refine free_in hk (fun y hy => hcap y hy) (i := s0) (by simp) (fun t6 => PySem.P.le_int ⟨?_, GxR.keeps_tok _ _⟩) hds hcs
        show Value.bool _ = Value.bool _
        rw [etr, h1]; rfl
  · obtain ⟨a, vs, rfl, g1, q1⟩ := dr_lst r1
    obtain ⟨ts, rfl, pr⟩ := pairs_of x1.wf.sub q1
    exact ⟨a, ts, _, rfl, SqL.of (x1.wf.sub _ _ g1), pr, rfl, x1.wf.tab P hP, G1, x1⟩
  · rintro ys H1 g s5 hz ⟨G1, x1⟩ hG
    subst hz
    obtain ⟨fp, wr, G', F, St, W, hst, htr, hI⟩ := hG
    refine Calls.spliced_nil ?_
    refine PySem.call_all_walkS (W.self 0 _ _ _ hst ⟨g, fp, wr, G', _, F, St, _, rfl, W, hst, htr, fun s' hmv => ?_⟩)
    obtain ⟨H2, hT, J⟩ := hI s' hmv
    refine ⟨.bl _, H2, J, rfl, ?_⟩
    have e : (List.range (l.map fun b => (V.int b.1, V.int b.2)).length).all (fun i => match (l.map fun b => (V.int b.1, V.int b.2))[i]? with | some (.int a, .int b) => decide (s0 + n0 ≤ a) || decide (a + b ≤ s0) | _ => false) = l.all fun b => decide (s0 + n0 ≤ b.1) || decide (b.1 + b.2 ≤ s0) := by
      rw [List.length_map]
      exact range_all _ l _ fun i b hb => by simp only [List.getElem?_map, hb, Option.map_some]
    rw [e]
    exact kk _ G1 H2 (x1.tr (ext_tab x1.wf hP hT)) (.bl _)
end
end HG

set_option Elab.async false
set_option linter.all false
set_option maxRecDepth 100000
set_option maxHeartbeats 4000000
/-! The program in plain Lean: no model in sight. -/
namespace HG
open PySem L2
structure Ctr where
  size : Int
  limit : Int
  lens : List Int
  budget : Int
def sml (l : Lay) : Bool := decide (l.length ≤ 3) && l.all fun b => decide (0 ≤ b.1) && decide (b.1 ≤ 3) && decide (1 ≤ b.2) && decide (b.2 ≤ 3)
def mIsLayGo (size : Int) : Lay → Int → Bool
  | [], e => decide (e ≤ size)
  | b :: r, e => if decide (b.1 < e) || decide (b.2 < 1) then false else mIsLayGo size r (b.1 + b.2)
def mIsLay (size : Int) (l : Lay) : Bool := mIsLayGo size l 0
def mLive (l : Lay) : Int := (l.map (·.2)).sum
def mFits (size : Int) (l : Lay) (s n : Int) : Bool := if decide (s < 0) || decide (size < s + n) then false else l.all fun b => decide (s + n ≤ b.1) || decide (b.1 + b.2 ≤ s)
def mWith (l : Lay) (s n : Int) : Lay := isort leB (l ++ [(s, n)])
def mWithout (l : Lay) (i : Nat) : Lay := l.take i ++ l.drop (i + 1)
def mPlaced (l : Lay) (st : List Int) : Lay := List.zipWith (fun s b => (s, b.2)) st l
def mReloc (l : Lay) (st : List Int) : Lay := isort leB (mPlaced l st)
def mIsReloc (size : Int) (l : Lay) (st : List Int) : Bool := if !decide ((st.length : Int) = (l.length : Int)) || st.any (fun n => decide (n < 0)) then false else mIsLay size (mReloc l st)
def mCost (l : Lay) (st : List Int) : Int := (((List.zipWith (fun s b => (s, b)) st l).filter fun p => !decide (p.1 = p.2.1)).map fun p => p.2.2).sum
def mReqable (c : Ctr) (l : Lay) : List Int := c.lens.filter fun n => decide (mLive l + n ≤ c.limit)
abbrev Row := List Int × Int
def mStep1 (b : Int × Int) (rl : Row) (p : Int) : List Row := if p = b.1 then [(rl.1 ++ [p], rl.2)] else if b.2 ≤ rl.2 then [(rl.1 ++ [p], rl.2 - b.2)] else []
def mStep (size : Int) (rows : List Row) (b : Int × Int) : List Row := rows.flatMap fun rl => (rngI 0 (size + 1 - b.2)).flatMap fun p => mStep1 b rl p
def mRows (size budget : Int) (l : Lay) : List Row := l.foldl (mStep size) [([], budget)]
def mStarts (size budget : Int) (l : Lay) : List (List Int) := (mRows size budget l).map (·.1)
def mRelocs (c : Ctr) (l : Lay) : List (List Int) := (mStarts c.size c.budget l).filter (mIsReloc c.size l)
/-- starts, start, price -/
abbrev Rep := List Int × Int × Int
def keyR (r : Rep) : T3 := (r.2.2, r.1, r.2.1)
def leR (a b : Rep) : Bool := leT (keyR a) (keyR b)
def mFound (c : Ctr) (l : Lay) (n : Int) (st : List Int) : List Rep := (rngI 0 (c.size + 1 - n)).flatMap fun s => if mFits c.size (mReloc l st) s n then [(st, s, mCost l st)] else []
def mReplies (c : Ctr) (l : Lay) (n : Int) : List Rep := isort leR ((mRelocs c l).flatMap (mFound c l n))
def mAfter (l : Lay) (n : Int) (r : Rep) : Lay := mWith (mReloc l r.1) r.2.1 n
inductive Mv where
  | rel (i : Nat)
  | req (n : Int)
  deriving DecidableEq
def mMoves (c : Ctr) (l : Lay) : List Mv := (List.range l.length).map Mv.rel ++ (mReqable c l).map Mv.req
abbrev Opt := List Lay × List (List Lay)
def mOpt (c : Ctr) (l : Lay) : Opt := ((List.range l.length).map (mWithout l), (mReqable c l).map fun n => (mReplies c l n).map (mAfter l n))
def mForced (o : Opt) (won : List Lay) : Bool := o.1.any (fun l => decide (l ∈ won)) || o.2.any fun ls => ls.all fun l => decide (l ∈ won)
def mEnd (l : Lay) : Int := match l.getLast? with
  | none => 0
  | some b => b.1 + b.2
def mExt1 (c : Ctr) (l : Lay) (s n : Int) : List Lay := if decide (s + n ≤ c.size) && decide (mLive l + n ≤ c.limit) then [l ++ [(s, n)]] else []
def mExt (c : Ctr) (l : Lay) : List Lay := (rngI (mEnd l) c.size).flatMap fun s => c.lens.flatMap fun n => mExt1 c l s n
def mPosGo (c : Ctr) : Nat → List Lay → List Lay → Option (List Lay)
  | 0, _, _ => none
  | k + 1, g, f => match g.getLast? with
    | none => some f
    | some l => if decide (f.length < 500) && decide (g.length + (mExt c l).length < 500) && sml l then mPosGo c k (g.dropLast ++ mExt c l) (f ++ [l]) else none
def mPos (c : Ctr) : Option (List Lay) := (mPosGo c 60 [[]] []).map (isort leL)
abbrev Rk := List (Lay × Int)
def mWon (r : Rk) : List Lay := r.map (·.1)
def mFresh (os : List (Lay × Opt)) (r : Rk) : List Lay := (os.filter fun p => !decide (p.1 ∈ mWon r) && mForced p.2 (mWon r)).map (·.1)
def mRanksGo (os : List (Lay × Opt)) : Nat → Int → Rk → Option Rk
  | 0, _, _ => none
  | k + 1, num, r => if decide (r.length < 500) then
      (if (mFresh os r).isEmpty then some r else mRanksGo os k (num + 1) (r ++ (mFresh os r).map fun l => (l, num + 1)))
    else none
def mOpts (c : Ctr) (ps : List Lay) : List (Lay × Opt) := ps.map fun l => (l, mOpt c l)
def mGame (c : Ctr) : Option Rk := match mPos c with
  | none => none
  | some ps => mRanksGo (mOpts c ps) 40 0 []
def mRank (r : Rk) (l : Lay) : Option Int := (r.find? fun p => decide (p.1 = l)).map (·.2)
def mHigher (one other : Option Int) : Bool := match other with
  | none => false
  | some o => match one with
    | none => true
    | some i => decide (o < i)
def mMgr1 (r : Rk) (l : Lay) (n : Int) (best : Option (Rep × Option Int)) (rp : Rep) : Option (Rep × Option Int) := match best with
  | none => some (rp, mRank r (mAfter l n rp))
  | some b => if mHigher (mRank r (mAfter l n rp)) b.2 then some (rp, mRank r (mAfter l n rp)) else some b
def mMgr (c : Ctr) (r : Rk) (l : Lay) (n : Int) : Option Rep := ((mReplies c l n).foldl (mMgr1 r l n) none).map (·.1)
def mBelow (r : Rk) (l : Lay) (k : Int) : Bool := match mRank r l with
  | none => false
  | some o => decide (o < k)
def mProg (c : Ctr) (r : Rk) (l : Lay) : Option Mv := match mRank r l with
  | none => none
  | some k => match (List.range l.length).find? fun i => mBelow r (mWithout l i) k with
    | some i => some (.rel i)
    | none => ((mReqable c l).find? fun n => (mReplies c l n).all fun rp => mBelow r (mAfter l n rp) k).map Mv.req

/-! ### the referee -/
def mSv (c : Ctr) (r : Rk) : List Int → Lay → List Lay → List Lay
  | [], _, acc => acc
  | m :: ms, l, acc => match (mMoves c l)[(m % ((mMoves c l).length : Int)).toNat]? with
    | none => acc
    | some (.rel i) => mSv c r ms (mWithout l i) (acc ++ [mWithout l i])
    | some (.req n) => match mMgr c r l n with
      | none => acc
      | some rp => mSv c r ms (mAfter l n rp) (acc ++ [mAfter l n rp])
abbrev Tb := List ((Lay × Int) × Int)
structure Tbl where
  ns : Tb
  els : Int
def mAsk (t : Tbl) (l : Lay) (n : Int) : Int := match t.ns.find? fun p => decide (p.1 = (l, n)) with
  | some p => p.2
  | none => t.els
def mTReply (c : Ctr) (t : Tbl) (l : Lay) (n : Int) : Option Rep := (mReplies c l n)[(mAsk t l n % ((mReplies c l n).length : Int)).toNat]?
/-- the outer option: the fuel -/
def mDf (c : Ctr) (r : Rk) (t : Tbl) : Nat → Lay → Int → Option (Option Int)
  | 0, _, _ => none
  | k + 1, l, cnt => if sml l then (match mProg c r l with
    | none => some none
    | some (.rel i) => mDf c r t k (mWithout l i) (cnt + 1)
    | some (.req n) => match mTReply c t l n with
      | none => some (some (cnt + 1))
      | some rp => mDf c r t k (mAfter l n rp) (cnt + 1)) else none

/-! ### the law's own -/
def mLPosGo (c : Ctr) : Nat → Nat → List Lay → Option (List Lay)
  | 0, _, _ => none
  | k + 1, i, f => match f[i]? with
    | none => some f
    | some l => if decide (f.length + (mExt c l).length < 500) && sml l then mLPosGo c k (i + 1) (f ++ mExt c l) else none
def mLPos (c : Ctr) : Option (List Lay) := (mLPosGo c 60 0 [[]]).map (isort leL)
def mLStep1 (c : Ctr) (b : Int × Int) (rl : Row) (s : Int) : List Row := if rl.2 + b.2 * (if s = b.1 then 0 else 1) ≤ c.budget then [(rl.1 ++ [s], rl.2 + b.2 * (if s = b.1 then 0 else 1))] else []
def mLStep (c : Ctr) (rows : List Row) (b : Int × Int) : List Row := rows.flatMap fun rl => (rngI 0 c.size).flatMap fun s => mLStep1 c b rl s
def mLRows (c : Ctr) (l : Lay) : List Row := l.foldl (mLStep c) [([], 0)]
def mApart (size : Int) (bl : Lay) : Bool := decide ((bl.flatMap fun b => rngI b.1 (b.1 + b.2)).Nodup) && ((bl.flatMap fun b => rngI b.1 (b.1 + b.2)).filter fun x => !(decide (0 ≤ x) && decide (x < size))).isEmpty
def mLFound (c : Ctr) (l : Lay) (n : Int) (rl : Row) : List T3 := (rngI 0 c.size).flatMap fun s => if mApart c.size (mPlaced l rl.1 ++ [(s, n)]) then [(rl.2, rl.1, s)] else []
def mLReplies (c : Ctr) (l : Lay) (n : Int) : List Rep := (isort leT ((mLRows c l).flatMap (mLFound c l n))).map fun t => (t.2.1, t.2.2, t.1)
def mLAfter (l : Lay) (n : Int) (r : Rep) : Lay := isort leB (mPlaced l r.1 ++ [(r.2.1, n)])
def mLOpt (c : Ctr) (l : Lay) : Opt := ((List.range l.length).map (mWithout l), (mReqable c l).map fun n => (mLReplies c l n).map (mLAfter l n))
def mLOpts (c : Ctr) (ps : List Lay) : List (Lay × Opt) := ps.map fun l => (l, mLOpt c l)
def mLRound (os : List (Lay × Opt)) (r : Rk) (num : Int) : Rk := r ++ (mFresh os r).map fun l => (l, num)
def mLRanks (os : List (Lay × Opt)) : Rk := (rngI 1 ((os.length : Int) + 2)).foldl (mLRound os) []
end HG

set_option Elab.async false
set_option linter.all false
set_option maxRecDepth 100000
set_option maxHeartbeats 4000000
/-! The plain law, decided contract by contract. -/
namespace HG
open PySem L2
/-- the law's last loop, c the count so far -/
def mFin (c : Ctr) (r : Rk) (R : Int) : Nat → Lay → Int → Option Bool
  | 0, _, _ => some false
  | k + 1, l, cnt => if sml l then (match mProg c r l with
    | none => none
    | some (.rel i) => if decide (i < l.length) then mFin c r R k (mWithout l i) (cnt + 1) else none
    | some (.req n) => match mMgr c r l n with
      | none => some (decide (cnt + 1 = R))
      | some rp => mFin c r R k (mLAfter l n rp) (cnt + 1)) else none
def closedU (c : Ctr) (r : Rk) (U : List Lay) : Bool := U.all fun l => sml l && (List.range l.length).all (fun i => decide (mWithout l i ∈ U)) && (mReqable c l).all fun n => match mMgr c r l n with
  | none => false
  | some rp => decide (mAfter l n rp ∈ U)
def downR (c : Ctr) (r : Rk) : Bool := r.all fun p => sml p.1 && decide (1 ≤ p.2) && match mProg c r p.1 with
  | none => false
  | some (.rel i) => decide (i < p.1.length) && mBelow r (mWithout p.1 i) p.2
  | some (.req n) => decide (n ∈ mReqable c p.1) && (mReplies c p.1 n).all fun rp => mBelow r (mAfter p.1 n rp) p.2
structure Facts (c : Ctr) (ps : List Lay) (r lr : Rk) : Prop where
  pos : mPos c = some ps
  lpos : mLPos c = some ps
  game : mGame c = some r
  lrk : mLRanks (mLOpts c ps) = lr
  nd : ps.Nodup
  few : ps.length ≤ 40
  short : ∀ l ∈ ps, sml l = true
  same : mRank lr [] = mRank r []
  un : mRank r [] = none → [] ∈ ps.filter (fun l => !decide (l ∈ mWon r)) ∧ closedU c r (ps.filter fun l => !decide (l ∈ mWon r)) = true
  dn : downR c r = true
  fin : ∀ k, mRank r [] = some k → mFin c r k k.toNat [] 0 = some true ∧ k ≤ 40
def chk (c : Ctr) : Bool := match mPos c with
  | none => false
  | some ps => match mGame c with
    | none => false
    | some r => decide (mLPos c = some ps) && decide (ps.Nodup) && decide (ps.length ≤ 40) && ps.all (fun l => sml l) && decide (mRank (mLRanks (mLOpts c ps)) [] = mRank r []) && downR c r &&
      match mRank r [] with
      | none => decide ([] ∈ ps.filter (fun l => !decide (l ∈ mWon r))) && closedU c r (ps.filter fun l => !decide (l ∈ mWon r))
      | some k => decide (mFin c r k k.toNat [] 0 = some true) && decide (k ≤ 40)
def lensOf : List (List Int) := [[1], [2], [1, 2], [1, 2], [1, 3], [2, 3], [1, 2, 3], [3]]
def allC : List Ctr := ([1, 2, 3] : List Int).flatMap fun s => ([0, 1, 2, 3] : List Int).flatMap fun m => lensOf.flatMap fun ls => ([0, 1, 2] : List Int).map fun b => ⟨s, m, ls, b⟩
theorem chk_all : allC.all chk = true := by decide +kernel
theorem facts_of {c : Ctr} (h : chk c = true) : ∃ ps r lr, Facts c ps r lr := by
  unfold chk at h
  cases e1 : mPos c with
  | none => rw [e1] at h; cases h
  | some ps =>
    rw [e1] at h
    dsimp only at h
    cases e2 : mGame c with
    | none => rw [e2] at h; cases h
    | some r =>
      rw [e2] at h
      simp only [Bool.and_eq_true, decide_eq_true_eq, List.all_eq_true] at h
      obtain ⟨⟨⟨⟨⟨⟨h1, h2⟩, h3⟩, h4⟩, h5⟩, h6⟩, h7⟩ := h
      refine ⟨ps, r, _, e1, h1, e2, rfl, h2, h3, h4, h5, fun e => ?_, h6, fun k e => ?_⟩
      · rw [e] at h7
        simp only [Bool.and_eq_true, decide_eq_true_eq] at h7
        exact h7
      · rw [e] at h7
        simp only [Bool.and_eq_true, decide_eq_true_eq] at h7
        exact h7
theorem facts_all {s m b : Int} {ls : List Int} (hs : 1 ≤ s ∧ s ≤ 3) (hm : 0 ≤ m ∧ m ≤ 3) (hl : ls ∈ lensOf) (hb : 0 ≤ b ∧ b ≤ 2) : ∃ ps r lr, Facts ⟨s, m, ls, b⟩ ps r lr := by
  refine facts_of (List.all_eq_true.mp chk_all _ ?_)
  unfold allC
  refine List.mem_flatMap.mpr ⟨s, ?_, List.mem_flatMap.mpr ⟨m, ?_, List.mem_flatMap.mpr ⟨ls, hl, List.mem_map.mpr ⟨b, ?_, rfl⟩⟩⟩⟩
  · have : s = 1 ∨ s = 2 ∨ s = 3 := by omega
    simpa using this
  · have : m = 0 ∨ m = 1 ∨ m = 2 ∨ m = 3 := by omega
    simpa using this
  · have : b = 0 ∨ b = 1 ∨ b = 2 := by omega
    simpa using this
end HG

set_option Elab.async false
set_option linter.all false
set_option maxRecDepth 100000
set_option maxHeartbeats 4000000
namespace HG
open PySem L2
def topS (i : Nat) : Stmt := PySem.Challenge.pw_heapgame_k92_whole_one_side_wins.main.body.getD i (.Pass ⟨0, 0, 0, 0⟩)
abbrev sLive : Stmt := topS 7
abbrev sWithout : Stmt := topS 10
abbrev sReqable : Stmt := topS 18

abbrev encC (C : Addr) (c : Ctr) : D := .obj C ["size", "limit", "lengths", "budget"] [.int c.size, .int c.limit, .lst (c.lens.map .int), .int c.budget]

/-- the built-ins are what they are -/
structure Bt (mg : Str → Option Value) : Prop where
  len : mg "len" = none
  sum : mg "sum" = none
  all : mg "all" = none
  any : mg "any" = none
  range : mg "range" = none
  sorted : mg "sorted" = none
  zip : mg "zip" = none
  tuple : mg "tuple" = none
  list : mg "list" = none
  int : mg "int" = none
  set : mg "set" = none
  dict : mg "dict" = none
structure CtrF (K : PySem.W.Frag) (C : Addr) : Prop where
  cl : Cls K C
  nSize : NoAttr K C "size"
  nLimit : NoAttr K C "limit"
  nLens : NoAttr K C "lengths"
  nBudget : NoAttr K C "budget"

theorem filter_yes {α : Type} (l : List α) : l.filter (fun _ => true) = l := by simp
theorem line1000 {n : Nat} (h : n ≤ 1000) : n ≤ sizeLine := Nat.le_trans h (by decide)

section
variable {P : Program} {w : World} {K : PySem.W.Frag} {mg : Str → Option Value} {base : Heap} {T : List Addr}
def rLive (ds : List D) (d : D) : Prop := ∃ l : Lay, l.length ≤ 1000 ∧ ds = [encL l] ∧ d = .int (mLive l)
theorem scLive : FnScope ["layout", "start", "length"] ["layout"] (defScope sLive) := ⟨rfl, rfl, rfl, by decide +kernel, rfl, by decide +kernel, by decide +kernel⟩
theorem ok_live {f : Addr} {fd : FuncData} (F : Fun K "live_cells" "live_cells" sLive f fd) (B : Bt mg) : FnOk P w K mg base CX0 1 f fd ["layout"] (spR P w T rLive) := by
  refine def_ok F scLive (fun ds d h => by obtain ⟨l, _, rfl, _⟩ := h; rfl) (fun cdv A outer s H E G ds d hr wf h => ?_)
  obtain ⟨l, hl, rfl, rfl⟩ := h
  refine sb_one (s_ret (EE.vj (ee_sum (ns := l.map Prod.snd) (ee_lc (xs := l) encB _ _ _ _ rfl scLive.nd (blkOk_by (N := ["layout", "start", "length"]) (sc := defScope sLive) (own := [("start", 1), ("length", 2)]) (by decide +kernel)) (src_lst (ee_var 0)) (by decide)
    (fun _ _ _ _ _ x _ => gt_pair rfl (gt_name 1 scLive.nd) (gt_name 2 scLive.nd)) (fun _ _ _ _ _ x _ => ets_nil) (fun _ _ _ _ _ x _ _ => ee_var 2) (line1000 hl) ?_) rfl B.sum)) fun v G' H' x r => r)
  rw [filter_yes, List.map_map]; rfl

def rWithout (ds : List D) (d : D) : Prop := ∃ (l : Lay) (i : Nat), l.length ≤ 1000 ∧ ds = [encL l, .int (i : Int)] ∧ d = encL (mWithout l i)
theorem scWithout : FnScope ["layout", "index"] ["layout", "index"] (defScope sWithout) := ⟨rfl, rfl, rfl, by decide +kernel, rfl, by decide +kernel, by decide +kernel⟩
theorem ok_without {f : Addr} {fd : FuncData} (F : Fun K "without" "without" sWithout f fd) : FnOk P w K mg base CX0 1 f fd ["layout", "index"] (spR P w T rWithout) := by
  refine def_ok F scWithout (fun ds d h => by obtain ⟨l, i, _, rfl, _⟩ := h; rfl) (fun cdv A outer s H E G ds d hr wf h => ?_)
  obtain ⟨l, i, hl, rfl, rfl⟩ := h
  refine sb_one (s_ret (EE.vj (ee_cat (ee_slHi i (ee_var 0) (ee_var 1) rfl) (ee_slLo (i + 1) (ee_var 0) (ee_add (ee_var 1) ee_int) (by omega)) ?_)) fun v G' H' x r => ?_)
  · simp only [List.length_take, List.length_drop, List.length_map]
    have := line1000 hl
    omega
  · rw [← List.map_take, ← List.map_drop, ← List.map_append] at r
    exact r

def rReqable (C : Addr) (ds : List D) (d : D) : Prop := ∃ (c : Ctr) (l : Lay), l.length ≤ 1000 ∧ c.lens.length ≤ 1000 ∧ ds = [encC C c, encL l] ∧ d = .lst ((mReqable c l).map .int)
theorem scReqable : FnScope ["contract", "layout", "live", "length"] ["contract", "layout"] (defScope sReqable) := ⟨rfl, rfl, rfl, by decide +kernel, rfl, by decide +kernel, by decide +kernel⟩
theorem ok_reqable {f C : Addr} {fd : FuncData} (F : Fun K "requestable" "requestable" sReqable f fd) (CF : CtrF K C) (L : Dk P w K mg base T 1 "live_cells" rLive) : FnOk P w K mg base CX0 2 f fd ["contract", "layout"] (spR P w T (rReqable C)) := by
  refine def_ok F scReqable (fun ds d h => by obtain ⟨c, l, _, _, rfl, _⟩ := h; rfl) (fun cdv A outer s H E G ds d hr wf h => ?_)
  obtain ⟨c, l, hl, hc, rfl, rfl⟩ := h
  refine sb_cons (s_set 2 scReqable.nd (EE.vj (ee_call L hr (ea_cons (ee_var 1) ea_nil) ⟨l, hl, rfl, rfl⟩)) fun G1 H1 x1 => ?_)
  refine sb_one (s_ret (EE.vj (ee_lc (xs := c.lens) D.int _ _ _ _ rfl scReqable.nd (blkOk_by (N := ["contract", "layout", "live", "length"]) (sc := defScope sReqable) (own := [("length", 3)]) (by decide +kernel)) (src_lst (ee_fld (ee_var 0) CF.cl CF.nLens rfl)) (by decide)
    (fun _ _ _ _ _ x _ => gt_name 3 scReqable.nd) (fun _ _ _ _ _ x _ => ets_one (et_c c_le (ee_add (ee_var 2) (ee_var 3)) (ee_fld (ee_var 0) CF.cl CF.nLimit rfl))) (fun _ _ _ _ _ x _ _ => ee_var 3) (line1000 hc) rfl)) fun v G' H' x r => r)
end
end HG

set_option Elab.async false
set_option linter.all false
set_option maxRecDepth 100000
set_option maxHeartbeats 4000000
/-! The walk: layouts, relocations. -/
namespace HG
open PySem L2
abbrev sIsLayout : Stmt := topS 6
abbrev sFits : Stmt := topS 8
abbrev sWith : Stmt := topS 9
abbrev sPlaced : Stmt := topS 12
abbrev sRelocated : Stmt := topS 13
abbrev sIsReloc : Stmt := topS 14
abbrev sCost : Stmt := topS 15

theorem l1 : 1 ≤ sizeLine := by decide
theorem l2 : 2 ≤ sizeLine := by decide
theorem l3 : 3 ≤ sizeLine := by decide
theorem line1001 {n : Nat} (h : n ≤ 2000) : n ≤ sizeLine := Nat.le_trans h (by decide)
/-- a def whose code object is at c -/
structure FunC (K : PySem.W.Frag) (x qual : Str) (st : Stmt) (f : Addr) (fd : FuncData) (c : Addr) : Prop where
  ex : ∃ (oc : Value) (od : Option Addr) (kV doc pm : Value) (an : Option Addr) (ct : Value) (osl : Array (Option Value)),
    fd = PySem.W.fnOf x qual (defArgs st) (defBody st) (defScope st) .none kV doc pm an (.ref c) ct ∧ K.lookup f = some ⟨oc, od, .func fd, osl⟩ ∧ PySem.W.codeIn K (.ref c) qual = true
theorem startEnv {P : Program} {w : World} {G : Hp} {N : List Str} {vs : List V} {ds : List D} (h3 : DRs P w G vs ds) : EnvR P w G (L2.start N vs) (ds.map .dat ++ List.replicate (N.length - ds.length) .und) := by
  have hl := h3.length
  refine ⟨by unfold L2.start; simp [hl], fun i y e => ?_, fun i v e => ?_⟩
  · by_cases hi : i < ds.length
    · rw [List.getElem?_append_left (by simpa using hi), List.getElem?_map, List.getElem?_eq_getElem hi] at e
      simp only [Option.map_some, Option.some.injEq] at e
      cases e
      obtain ⟨v, hv, rv⟩ := h3.get (List.getElem?_eq_getElem hi)
      exact ⟨v, by unfold L2.start; rw [List.getElem?_append_left (by simp; omega), List.getElem?_map, hv]; rfl, rv⟩
    · rw [List.getElem?_append_right (by simpa using hi), List.getElem?_replicate] at e
      split at e <;> cases e
  · by_cases hi : i < ds.length
    · rw [List.getElem?_append_left (by simpa using hi), List.getElem?_map, List.getElem?_eq_getElem hi] at e
      simp only [Option.map_some, Option.some.injEq] at e
      cases e
    · rw [List.getElem?_append_right (by simpa using hi), List.getElem?_replicate] at e
      split at e <;> cases e

section
variable {P : Program} {w : World} {K : PySem.W.Frag} {mg : Str → Option Value} {base : Heap} {T : List Addr}
theorem def_okC {x qual : Str} {st : Stmt} {f c : Addr} {fd : FuncData} {N ps : List Str} {k : Nat} {R : List D → D → Prop} (F : FunC K x qual st f fd c) (S : FnScope N ps (defScope st)) (len : ∀ ds d, R ds d → ds.length = ps.length)
    (body : ∀ (A : Around) (outer : List Env) (s : Shared) (H : Hp) (E : XK) (G : Hp) (ds : List D) (d : D), Room k (A.deeper (PyProof.Rows.envOfC qual (defScope st) s.heap.objs.size f (.ref c))) → WF T G H → R ds d →
      SB ⟨T, [], G, H⟩ (cxOf CX0 P w K mg base N qual (defScope st) f (.ref c) A outer s H E).nox (defBody st) (ds.map .dat ++ List.replicate (N.length - ds.length) .und) G H { nx := fun _ _ _ => d = .non, rt := fun v G' _ => DR P w G' v d }) :
    FnOk P w K mg base CX0 (k + 1) f fd ps (spR P w T R) := by
  obtain ⟨oc, od, kV, doc, pm, an, ct, osl, rfl, lk, hcd⟩ := F.ex
  refine fn_of lk hcd S (fun vs H Q E h => ?_) (fun A outer s H vs Q E hr h => ?_)
  · obtain ⟨ds, d, G, h1, h2, h3, _⟩ := h
    rw [h3.length]
    exact len ds d h1
  · obtain ⟨ds, d, G, h1, h2, h3, h4⟩ := h
    refine ⟨_, (PSs.nox pb_w), ?_⟩
    refine wb_mono (body A outer s H E G ds d hr h2 h1 (L2.start N vs) (Ext.refl h2) (startEnv h3)) (fun σ' H' q => ?_) (fun v H' q => ?_) (fun σ' H' q => ?_) (fun σ' H' q => ?_)
    · obtain ⟨γ', G', g', x', env', e⟩ := q
      subst e
      exact h4 _ G' H' x' .non
    · obtain ⟨G', g', x', q⟩ := q
      exact h4 _ G' H' x' q
    · obtain ⟨γ', G', g', x', env', e⟩ := q
      exact e.elim
    · obtain ⟨γ', G', g', x', env', e⟩ := q
      exact e.elim

def rIsLayout (ds : List D) (d : D) : Prop := ∃ (size : Int) (l : Lay), ds = [.int size, encL l] ∧ d = .bl (mIsLay size l)
theorem scIsLayout : FnScope ["size", "layout", "end", "start", "length"] ["size", "layout"] (defScope sIsLayout) := ⟨rfl, rfl, rfl, by decide +kernel, rfl, by decide +kernel, by decide +kernel⟩
theorem ok_isLayout {f : Addr} {fd : FuncData} (F : Fun K "is_layout" "is_layout" sIsLayout f fd) : FnOk P w K mg base CX0 1 f fd ["size", "layout"] (spR P w T rIsLayout) := by
  refine def_ok F scIsLayout (fun ds d h => by obtain ⟨s, l, rfl, _⟩ := h; rfl) (fun cdv A outer s H E G ds d hr wf h => ?_)
  obtain ⟨size, l, rfl, rfl⟩ := h
  refine sb_cons (s_set 2 scIsLayout.nd (EE.vj ee_int) fun G1 H1 x1 => ?_)
  refine sb_cons (s_for rfl (src_lst (ee_var 1)) (fun i γ' _ _ => ∃ e : Int, γ' = [.dat (.int size), .dat (encL l), .dat (.int e), .und, .und] ∧ mIsLayGo size (l.drop i) e = mIsLay size l) (fun G' H' x' => ⟨0, rfl, rfl⟩) ?_ ?_)
  · rintro i d γ' G' H' hd g' x' ⟨e, rfl, he⟩ G2 H2 x2
    rw [List.getElem?_map] at hd
    cases hb : l[i]? with
    | none => rw [hb] at hd; cases hd
    | some b =>
      rw [hb] at hd
      cases hd
      obtain ⟨hi, hbi⟩ := List.getElem?_eq_some_iff.mp hb
      have ed : l.drop i = b :: l.drop (i + 1) := by rw [List.drop_eq_getElem_cons hi, hbi]
      rw [ed] at he
      unfold mIsLayGo at he
      refine ⟨_, _, gt_pair rfl (gt_name 3 scIsLayout.nd) (gt_name 4 scIsLayout.nd), sb_cons (s_if (ET.tj (et_or (et_c c_lt (ee_var 3) (ee_var 2)) fun _ => et_c c_lt (ee_var 4) ee_int)) (fun hT G3 H3 x3 => ?_) (fun hF G3 H3 x3 => ?_))⟩
      · rw [if_pos hT] at he
        refine sb_one (s_ret (EE.vj ee_bl) fun v G4 H4 x4 r4 => ?_)
        rw [he] at r4
        exact r4
      · rw [if_neg (by rw [hF]; exact Bool.false_ne_true)] at he
        exact sb_nil (E := { nx := fun γ' G' H' => SB _ _ _ γ' G' H' _ }) (sb_cons (s_set 2 scIsLayout.nd (EE.vj (ee_add (ee_var 3) (ee_var 4))) fun G4 H4 x4 => sb_forget [3, 4] (sb_nil ⟨b.1 + b.2, rfl, he⟩)))
  · rintro γ' G' H' g' x' ⟨e, rfl, he⟩
    rw [List.length_map, List.drop_length] at he
    refine sb_one (s_ret (EE.vj (ee_c c_le (ee_var 2) (ee_var 0))) fun v G4 H4 x4 r4 => ?_)
    rw [← he]
    exact r4

theorem ee_lenM {X : Cx} {γ : List SV} {e : Expr} {p pos : Pos} {α : Type} {xs : List α} {enc : α → D} (h : EE T X e γ (.lst (xs.map enc))) (hm : X.mg "len" = none) (hg : Gl X "len" := by rfl) (he : starEach [e] X.env = (false, eval e X.env) :: starEach [] X.env := by rfl) (hpl : (backTo pos (starEach [] X.env)).any (·.1) = false := by rfl) :
    EE T X (.Call (.Name "len" p) [e] [] pos) γ (.int xs.length) := by
  have q := ee_len (p := p) h hm hg he hpl
  rw [List.length_map] at q
  exact q
def rFits (ds : List D) (d : D) : Prop := ∃ (size : Int) (l : Lay) (s n : Int), ds = [.int size, encL l, .int s, .int n] ∧ d = .bl (mFits size l s n)
theorem scFits : FnScope ["size", "layout", "start", "length"] ["size", "layout", "start", "length"] (defScope sFits) := ⟨rfl, rfl, rfl, by decide +kernel, rfl, by decide +kernel, by decide +kernel⟩
theorem ok_fits {f c Pt : Addr} {fd : FuncData} (F : FunC K "fits" "fits" sFits f fd c) (B : Bt mg) (TB : GxR.TabB base mg c Pt) (hP : Pt ∈ T) : FnOk P w K mg base CX0 1 f fd ["size", "layout", "start", "length"] (spR P w T rFits) := by
  refine def_okC F scFits (fun ds d h => by obtain ⟨s, l, a, b, rfl, _⟩ := h; rfl) (fun A outer s H E G ds d hr wf h => ?_)
  obtain ⟨size, l, s0, n0, rfl, rfl⟩ := h
  refine sb_cons (s_if (ET.tj (et_or (et_c c_lt (ee_var 2) ee_int) fun _ => et_c c_gt (ee_add (ee_var 2) (ee_var 3)) (ee_var 0))) (fun hT G3 H3 x3 => ?_) (fun hF G3 H3 x3 => sb_nil (E := { nx := fun γ' G' H' => SB _ _ _ γ' G' H' _ }) ?_))
  · refine sb_one (s_ret (EE.vj ee_bl) fun v G4 H4 x4 r4 => ?_)
    unfold mFits
    rw [if_pos hT]
    exact r4
  · refine sb_one (s_ret (EE.vj (ee_allApart 2 3 hr B.all TB hP rfl (gs_by (sc := defScope sFits) (by decide +kernel)) (by decide) (by decide +kernel) (by decide +kernel) rfl rfl rfl rfl (ee_var 1))) fun v G4 H4 x4 r4 => ?_)
    unfold mFits
    rw [if_neg (by rw [hF]; exact Bool.false_ne_true)]
    exact r4

def rWith (ds : List D) (d : D) : Prop := ∃ (l : Lay) (s n : Int), l.length ≤ 1000 ∧ ds = [encL l, .int s, .int n] ∧ d = encL (mWith l s n)
theorem scWith : FnScope ["layout", "start", "length"] ["layout", "start", "length"] (defScope sWith) := ⟨rfl, rfl, rfl, by decide +kernel, rfl, by decide +kernel, by decide +kernel⟩
theorem ok_with {f : Addr} {fd : FuncData} (F : Fun K "with_block" "with_block" sWith f fd) (B : Bt mg) : FnOk P w K mg base CX0 1 f fd ["layout", "start", "length"] (spR P w T rWith) := by
  refine def_ok F scWith (fun ds d h => by obtain ⟨l, a, b, _, rfl, _⟩ := h; rfl) (fun cdv A outer s H E G ds d hr wf h => ?_)
  obtain ⟨l, s0, n0, hl, rfl, rfl⟩ := h
  refine sb_one (s_ret (EE.vj (ee_sortB (xs := l ++ [(s0, n0)]) ?_ B.sorted hr.units)) fun v G4 H4 x4 r4 => r4)
  have e : encL (l ++ [(s0, n0)]) = .lst (l.map encB ++ [encB (s0, n0)]) := by unfold encL; rw [List.map_append]; rfl
  rw [e]
  exact ee_cat (ee_var 0) (ee_lst (ea_cons (ee_tup (ea_cons (ee_var 1) (ea_cons (ee_var 2) ea_nil)) l2) ea_nil) l1) (line1001 (by rw [List.length_map]; show _ + 1 ≤ _; omega))

theorem zip_enc (st : List Int) (l : Lay) : List.zipWith (fun x y => D.tup [x, y]) (st.map D.int) (l.map encB) = (List.zipWith (fun s b => (s, b)) st l).map fun p => D.tup [.int p.1, encB p.2] := by
  rw [List.zipWith_map, List.map_zipWith]
def rPlaced (ds : List D) (d : D) : Prop := ∃ (l : Lay) (st : List Int), l.length ≤ 1000 ∧ ds = [encL l, .lst (st.map .int)] ∧ d = encL (mPlaced l st)
theorem scPlaced : FnScope ["layout", "starts", "start", "old", "length"] ["layout", "starts"] (defScope sPlaced) := ⟨rfl, rfl, rfl, by decide +kernel, rfl, by decide +kernel, by decide +kernel⟩
theorem ok_placed {f : Addr} {fd : FuncData} (F : Fun K "placed" "placed" sPlaced f fd) (B : Bt mg) : FnOk P w K mg base CX0 1 f fd ["layout", "starts"] (spR P w T rPlaced) := by
  refine def_ok F scPlaced (fun ds d h => by obtain ⟨l, a, _, rfl, _⟩ := h; rfl) (fun cdv A outer s H E G ds d hr wf h => ?_)
  obtain ⟨l, st, hl, rfl, rfl⟩ := h
  refine sb_one (s_ret (EE.vj (ee_lc (xs := List.zipWith (fun s b => (s, b)) st l) (fun p => D.tup [.int p.1, encB p.2]) _ _ (fun _ => true) (fun p => .tup [.int p.1, .int p.2.2]) rfl scPlaced.nd (blkOk_by (N := ["layout", "starts", "start", "old", "length"]) (sc := defScope sPlaced) (own := [("start", 2), ("old", 3), ("length", 4)]) (by decide +kernel))
    (zip_enc st l ▸ src_zip (ea_cons (ee_var 1) (ea_cons (ee_var 0) ea_nil)) B.zip) (by decide) (fun _ _ _ _ _ x _ => gt_pair rfl (gt_name 2 scPlaced.nd) (gt_pair rfl (gt_name 3 scPlaced.nd) (gt_name 4 scPlaced.nd))) (fun _ _ _ _ _ x _ => ets_nil)
    (fun _ _ _ _ _ x _ _ => ee_tup (ea_cons (ee_var 2) (ea_cons (ee_var 4) ea_nil)) l2) (line1000 (by rw [List.length_zipWith]; omega)) (ys := (mPlaced l st).map encB) ?_)) fun v G' H' x r => r)
  rw [filter_yes]
  unfold mPlaced
  rw [List.map_zipWith, List.map_zipWith]

def rRelocated (ds : List D) (d : D) : Prop := ∃ (l : Lay) (st : List Int), l.length ≤ 1000 ∧ ds = [encL l, .lst (st.map .int)] ∧ d = encL (mReloc l st)
theorem scRelocated : FnScope ["layout", "starts"] ["layout", "starts"] (defScope sRelocated) := ⟨rfl, rfl, rfl, by decide +kernel, rfl, by decide +kernel, by decide +kernel⟩
theorem ok_relocated {f : Addr} {fd : FuncData} (F : Fun K "relocated" "relocated" sRelocated f fd) (B : Bt mg) (L : Dk P w K mg base T 1 "placed" rPlaced) : FnOk P w K mg base CX0 2 f fd ["layout", "starts"] (spR P w T rRelocated) := by
  refine def_ok F scRelocated (fun ds d h => by obtain ⟨l, a, _, rfl, _⟩ := h; rfl) (fun cdv A outer s H E G ds d hr wf h => ?_)
  obtain ⟨l, st, hl, rfl, rfl⟩ := h
  exact sb_one (s_ret (EE.vj (ee_sortB (ee_call L hr (ea_cons (ee_var 0) (ea_cons (ee_var 1) ea_nil)) ⟨l, st, hl, rfl, rfl⟩) B.sorted hr.units)) fun v G4 H4 x4 r4 => r4)

def rIsReloc (ds : List D) (d : D) : Prop := ∃ (size : Int) (l : Lay) (st : List Int), l.length ≤ 1000 ∧ ds = [.int size, encL l, .lst (st.map .int)] ∧ d = .bl (mIsReloc size l st)
theorem scIsReloc : FnScope ["size", "layout", "starts"] ["size", "layout", "starts"] (defScope sIsReloc) := ⟨rfl, rfl, rfl, by decide +kernel, rfl, by decide +kernel, by decide +kernel⟩
theorem ok_isReloc {f c Pt : Addr} {fd : FuncData} (F : FunC K "is_relocation" "is_relocation" sIsReloc f fd c) (B : Bt mg) (TB : GxR.TabB base mg c Pt) (hP : Pt ∈ T) (L1 : Dk P w K mg base T 1 "is_layout" rIsLayout) (L2' : Dk P w K mg base T 2 "relocated" rRelocated) :
    FnOk P w K mg base CX0 3 f fd ["size", "layout", "starts"] (spR P w T rIsReloc) := by
  refine def_okC F scIsReloc (fun ds d h => by obtain ⟨s, l, a, _, rfl, _⟩ := h; rfl) (fun A outer s H E G ds d hr wf h => ?_)
  obtain ⟨size, l, st, hl, rfl, rfl⟩ := h
  refine sb_cons (s_if (ET.tj (et_or (et_c c_ne (ee_lenM (ee_var 2) B.len) (ee_lenM (ee_var 1) B.len)) fun _ => et_ee (ee_anyNeg hr B.any TB hP rfl (gs_by (sc := defScope sIsReloc) (by decide +kernel)) (ee_var 2)))) (fun hT G3 H3 x3 => ?_) (fun hF G3 H3 x3 => sb_nil (E := { nx := fun γ' G' H' => SB _ _ _ γ' G' H' _ }) ?_))
  · refine sb_one (s_ret (EE.vj ee_bl) fun v G4 H4 x4 r4 => ?_)
    unfold mIsReloc
    rw [if_pos hT]
    exact r4
  · refine sb_one (s_ret (EE.vj (ee_call (L1.mono (by decide)) hr (ea_cons (ee_var 0) (ea_cons (ee_call L2' hr (ea_cons (ee_var 1) (ea_cons (ee_var 2) ea_nil)) ⟨l, st, hl, rfl, rfl⟩) ea_nil)) ⟨size, mReloc l st, rfl, rfl⟩)) fun v G4 H4 x4 r4 => ?_)
    unfold mIsReloc
    rw [if_neg (by rw [hF]; exact Bool.false_ne_true)]
    exact r4

def rCost (ds : List D) (d : D) : Prop := ∃ (l : Lay) (st : List Int), l.length ≤ 1000 ∧ ds = [encL l, .lst (st.map .int)] ∧ d = .int (mCost l st)
theorem scCost : FnScope ["layout", "starts", "start", "old", "length"] ["layout", "starts"] (defScope sCost) := ⟨rfl, rfl, rfl, by decide +kernel, rfl, by decide +kernel, by decide +kernel⟩
theorem ok_cost {f : Addr} {fd : FuncData} (F : Fun K "cost" "cost" sCost f fd) (B : Bt mg) : FnOk P w K mg base CX0 1 f fd ["layout", "starts"] (spR P w T rCost) := by
  refine def_ok F scCost (fun ds d h => by obtain ⟨l, a, _, rfl, _⟩ := h; rfl) (fun cdv A outer s H E G ds d hr wf h => ?_)
  obtain ⟨l, st, hl, rfl, rfl⟩ := h
  refine sb_one (s_ret (EE.vj (ee_sum (ns := ((List.zipWith (fun s b => (s, b)) st l).filter fun (p : Int × Int × Int) => !decide (p.1 = p.2.1)).map fun (p : Int × Int × Int) => p.2.2) (ee_lc (xs := List.zipWith (fun s b => (s, b)) st l) (fun p => D.tup [.int p.1, encB p.2]) _ _ (fun (p : Int × Int × Int) => !decide (p.1 = p.2.1)) (fun p => .int p.2.2) rfl scCost.nd (blkOk_by (N := ["layout", "starts", "start", "old", "length"]) (sc := defScope sCost) (own := [("start", 2), ("old", 3), ("length", 4)]) (by decide +kernel))
    (zip_enc st l ▸ src_zip (ea_cons (ee_var 1) (ea_cons (ee_var 0) ea_nil)) B.zip) (by decide) (fun _ _ _ _ _ x _ => gt_pair rfl (gt_name 2 scCost.nd) (gt_pair rfl (gt_name 3 scCost.nd) (gt_name 4 scCost.nd))) (fun _ _ _ _ _ x _ => ets_one (et_c c_ne (ee_var 2) (ee_var 3)))
    (fun _ _ _ _ _ x _ _ => ee_var 4) (line1000 (by rw [List.length_zipWith]; omega)) ?_) rfl B.sum)) fun v G' H' x r => r)
  rw [List.map_map]; rfl
end
end HG

set_option Elab.async false
set_option linter.all false
set_option maxRecDepth 100000
set_option maxHeartbeats 4000000
/-! sorted(xs, key=f), the keys may hold lists that stood before. -/
namespace HG
open PySem PySem.Calls PyProof.Rows PySem.W
section
variable {prog : Program} {w : World} {A : Around} {E : Value → Shared → Prop} {s : Shared} {a kS : Addr} {b : Bool} {vs : List Value} {keys : Array Value} {e e1 : Nat} {P : PySem.Fin → Shared → Prop} {kz : List PyData}
def KeyL (h₁ : Heap) (a : Addr) (k : PyData) (s₁ : Shared) (v : Value) (s₂ : Shared) : Prop := ∃ h' tk, s₂ = { s₁ with heap := h', toks := tk } ∧ (∀ b o, s₁.heap.get? b = some o → h'.get? b = some o) ∧ ∃ as, Reads h' v k as ∧ ∀ x ∈ as, x ≠ a ∧ h₁.get? x ≠ none
theorem keyL_rest {f : Value} {h₁ : Heap} (kp : KeepsBut a h₁ s.heap) (hkS : h₁.get? kS = none) (nk : s.heap.get? kS = some (seqObj "list" #[] 0)) (na : s.heap.get? a = some (seqObj "list" #[] e1)) (hka : kS ≠ a)
    (hlen : kz.length = vs.length) (hZ : vs.length ≤ sizeLine) (hal : AllAlike kz) (hsk : Sortable kz) (hu : ∀ d, d ∈ kz → A.units + d.depth < cLine)
    (turn : ∀ (i : Nat) (v : Value) (k : PyData), vs[i]? = some v → kz[i]? = some k → ∀ (h : Heap) (tk : Nat), KeepsBut a h₁ h →
      wpAny (model prog w) A (call f [v]) (KeyL h₁ a k { s with heap := h, toks := tk }) (fun _ _ => False) { s with heap := h, toks := tk })
    (h : ∀ h' tk out c, KeepsBut a h₁ h' → h'.get? a = some (seqObj "list" (List.toArray out) c) → KeyedOut b kz vs out → P (.done (.ret .none)) { s with heap := h', toks := tk }) :
    wpAny (model prog w) A (ksk_rest a f b vs.toArray e1 (.ref kS)) P E s := by
  unfold ksk_rest
  refine wpAny_bind (wpAny_rule ?_)
  first
    | rw [List.forIn_toArray]
    | (rw [← Array.forIn_toList]; simp only [List.toList_toArray])
    | rw [← Array.forIn_toList]
  refine wpAny_bind (ksk_fold (fun i s' => ∃ h' tk kA e, s' = { s with heap := h', toks := tk } ∧ KeepsBut a h₁ h' ∧ h'.get? kS = some (seqObj "list" kA e) ∧ h'.get? a = some (seqObj "list" #[] e1) ∧ EachIs (fun v k => (∃ as, Reads h' v k as ∧ ∀ x ∈ as, x ≠ a ∧ h₁.get? x ≠ none) ∧ alike k k = true) kA.toList (kz.take i)) vs 0 s
    ⟨s.heap, s.toks, #[], 0, rfl, kp, nk, na, by rw [List.take_zero]; exact EachIs.nil⟩ ?step ?done)
  case step =>
    rintro j x s' hx ⟨h', tk, kA, e, rfl, kp', nk', na', hk⟩
    simp only [Nat.zero_add] at hk ⊢
    have hj : j < vs.length := (List.getElem?_eq_some_iff.mp hx).1
    obtain ⟨k, hkj⟩ : ∃ k, kz[j]? = some k := ⟨_, List.getElem?_eq_getElem (by omega)⟩
    have hkk : alike k k = true := hal k (List.mem_of_getElem? hkj) k (List.mem_of_getElem? hkj)
    have hz : kA.size ≤ vs.length := by
      have h1 := hk.length
      rw [Array.length_toList, List.length_take] at h1
      omega
    refine wpAny_bind (wpAny_attempt (wpAny_mono (turn j x k hx hkj h' tk kp') (fun v s'' he => ?_) fun _ _ hF => hF.elim))
    obtain ⟨g, tk2, rfl, hg, hr⟩ := he
    try dsimp only
    have nk2 : g.get? kS = some (seqObj "list" kA e) := hg _ _ nk'
    have na2 : g.get? a = some (seqObj "list" #[] e1) := hg _ _ na'
    have s1 := Heap.SameBut.update g kS (Obj.mapSeq (·.push v))
    obtain ⟨c2, hc2⟩ : ∃ c2, (g.update kS (Obj.mapSeq (·.push v))).get? kS = some (seqObj "list" (kA.push v) c2) := ⟨_, get?_update_seq nk2 (·.push v)⟩
    have ek : kz.take (j + 1) = kz.take j ++ [k] := by rw [List.take_add_one, hkj]; simp
    have ea : (kA.push v).toList = kA.toList ++ [v] := by simp
    refine wpAny_bind (listUpdate_at nk2 rfl ?_ (Nat.le_trans hz hZ) (Nat.le_trans (Nat.le_of_eq (Array.size_push ..)) (Nat.succ_le_succ (Nat.le_trans hz hZ))))
    have keepS : ∀ (u : Value) (d : PyData), (∃ as, Reads g u d as ∧ ∀ x ∈ as, x ≠ a ∧ h₁.get? x ≠ none) ∧ alike d d = true → (∃ as, Reads (g.update kS (Obj.mapSeq (·.push v))) u d as ∧ ∀ x ∈ as, x ≠ a ∧ h₁.get? x ≠ none) ∧ alike d d = true := fun u d q => by
      obtain ⟨⟨as, q1, q2⟩, q3⟩ := q
      exact ⟨⟨as, Reads.keepBut (a := kS) (fun b o hb e => (s1.2 b hb).trans e) (fun o e => by rw [nk2] at e; rw [← Option.some.inj e]) d u as q3 q1 (fun z => (q2 kS z).2 hkS), q2⟩, q3⟩
    refine wpAny_pure ⟨rfl, _, _, kA.push v, c2, rfl, (kp'.trans_all hg).same s1 (.inr hkS), hc2, (s1.2 a hka.symm).trans na2, ?_⟩
    rw [ea, ek]
    refine each_snoc (R := fun (u : Value) (d : PyData) => (∃ as, Reads (g.update kS (Obj.mapSeq (·.push v))) u d as ∧ ∀ x ∈ as, x ≠ a ∧ h₁.get? x ≠ none) ∧ alike d d = true) (keepS v k ⟨hr, hkk⟩) ?_
    exact hk.mono fun u d q => keepS u d (let ⟨⟨as, q1, q2⟩, q3⟩ := q; ⟨⟨as, PyProof.Rows.Reads.keeps hg q1, q2⟩, q3⟩)
  case done =>
    rintro s' ⟨h', tk, kA, e, rfl, kp', nk', na', hk⟩
    have hk' : EachIs (fun v k => ∃ as, Reads h' v k as) kA.toList kz := by
      have e3 : kz.take (0 + vs.length) = kz := List.take_of_length_le (by omega)
      rw [e3] at hk
      exact hk.mono fun v k q => let ⟨⟨as, q1, _⟩, _⟩ := q; ⟨as, q1⟩
    have hsz : kA.size = vs.length := by
      have h1 := hk'.length
      rw [Array.length_toList] at h1
      omega
    try dsimp only
    refine wpAny_bind (listItems_at nk' rfl ?_)
    exact keyH_end (κ := dataKind h' kz) (h₁ := h₁) kp' hkS nk' na' hka (SortsAt.data (s := { s with heap := h', toks := tk }) hk' hal hsk hu) hsz hZ fun h3 tk3 c k3 n3 => h h3 tk3 _ c k3 n3 ⟨h', kA.toList, hal, rfl, hk'⟩
theorem keyL_tree {f : Value} {n : Nat} (ho : s.heap.get? a = some (seqObj "list" vs.toArray n)) (hlen : kz.length = vs.length) (hZ : vs.length ≤ sizeLine) (hal : AllAlike kz) (hsk : Sortable kz) (hu : ∀ d, d ∈ kz → A.units + d.depth < cLine)
    (turn : ∀ (i : Nat) (v : Value) (k : PyData), vs[i]? = some v → kz[i]? = some k → ∀ (h : Heap) (tk : Nat), KeepsBut a s.heap h →
      wpAny (model prog w) A (call f [v]) (KeyL s.heap a k { s with heap := h, toks := tk }) (fun _ _ => False) { s with heap := h, toks := tk })
    (h : ∀ h' tk out c, KeepsBut a s.heap h' → h'.get? a = some (seqObj "list" (List.toArray out) c) → KeyedOut b kz vs out → P (.done (.ret .none)) { s with heap := h', toks := tk }) :
    wpAny (model prog w) A (ksk_tree a f b) P E s := by
  have ha : a < s.heap.objs.size := Heap.lt_size ho
  obtain ⟨e1, ho1⟩ : ∃ e1, (s.heap.update a (Obj.mapSeq fun _ => (#[] : Array Value))).get? a = some (seqObj "list" #[] e1) := ⟨_, get?_update_seq ho fun _ => #[]⟩
  have hkS : ((s.heap.update a (Obj.mapSeq fun _ => (#[] : Array Value))).push (seqObj "tuple" vs.toArray 0)).objs.size = s.heap.objs.size + 1 := by rw [size_push', Heap.size_update]
  unfold ksk_tree
  refine wpAny_bind (listItems_at ho rfl ?_)
  refine wpAny_bind (listUpdate_at ho rfl ?_ (by rw [List.size_toArray]; exact hZ) (Nat.zero_le _))
  refine wpAny_bind (seqEpoch_at ho1 rfl ?_)
  refine wpAny_bind (wpAny_newTuple ?_ (by show vs.length ≤ _; exact hZ))
  refine wpAny_bind (wpAny_newList ?_ (Nat.zero_le _))
  refine wpAny_holding ?_
  have kp : KeepsBut a s.heap (sortingHeap s.heap a vs) := fun b o hb q => sortingHeap_old hb q
  refine keyL_rest (kz := kz) (h₁ := s.heap) (s := { s with heap := ((s.heap.update a (Obj.mapSeq fun _ => (#[] : Array Value))).push (seqObj "tuple" vs.toArray 0)).push (seqObj "list" #[] 0) }) (kS := ((s.heap.update a (Obj.mapSeq fun _ => (#[] : Array Value))).push (seqObj "tuple" vs.toArray 0)).objs.size)
    kp (Heap.get?_none_of_le (by rw [hkS]; exact Nat.le_succ _)) (Heap.get?_push_size _ rfl) (Heap.get?_push_of_some _ (Heap.get?_push_of_some _ ho1)) (by rw [hkS]; exact Nat.ne_of_gt (Nat.lt_succ_of_lt ha)) hlen hZ hal hsk hu turn h
end
section
variable {prog : Program} {w : World} {A : Around} {E : Value → Shared → Prop} {s : Shared} {β : Type} {vs : List Value} {bs : List β} {R : Value → β → Prop}
def KeyL2 (h₁ : Heap) (k : PyData) (s₁ : Shared) (v : Value) (s₂ : Shared) : Prop := ∃ h' tk, s₂ = { s₁ with heap := h', toks := tk } ∧ (∀ b o, s₁.heap.get? b = some o → h'.get? b = some o) ∧ ∃ as, Reads h' v k as ∧ ∀ x ∈ as, h₁.get? x ≠ none
theorem sorted_keyL {l : Addr} {f : Value} {kw : List (Str × Value)} {b : Bool} {Q : Value → Shared → Prop} (k : β → PyData) (hl : s.heap.IsList l vs.toArray) (e : EachIs R vs bs) (hal : AllAlike (bs.map k)) (hk : Sortable (bs.map k)) (hL : bs.length ≤ sizeLine)
    (hu : ∀ x, x ∈ bs → A.units + 2 + (k x).depth < cLine) (ha1 : argsOk "sorted" ⟨[.ref l], kw⟩) (ha2 : ∀ x, argsOk "list.sort" ⟨[.ref x], kw⟩) (ht : ∀ x, Builtin.«list.sort» ⟨[.ref x], kw⟩ = ksk_tree x f b)
    (turn : ∀ (v : Value) (x : β), R v x → x ∈ bs → ∀ (h : Heap) (tk : Nat), (∀ b o, s.heap.get? b = some o → h.get? b = some o) →
      wpAny (model prog w) A.in1.in1 (call f [v]) (KeyL2 s.heap (k x) { s with heap := h, toks := tk }) (fun _ _ => False) { s with heap := h, toks := tk })
    (h : ∀ out c h' tk, (∀ b o, s.heap.get? b = some o → h'.get? b = some o) → s.heap.get? (s.heap.objs.size + 1) = none → h'.get? (s.heap.objs.size + 1) = some (seqObj "list" (List.toArray out) c) → out.length = bs.length → EachIs R out (bs.mergeSort (dataLe b k)) →
      Q (.ref (s.heap.objs.size + 1)) { s with heap := h', toks := tk }) :
    wpAny (model prog w) A (call (.builtin "sorted") [.ref l] kw) Q E s := by
  have fresh : s.heap.get? (s.heap.objs.size + 1) = none := Heap.get?_none_of_le (Nat.le_succ _)
  have up : ∀ {g : Heap}, KeepsBut (s.heap.objs.size + 1) (copyHeap s.heap vs) g → ∀ b o, s.heap.get? b = some o → g.get? b = some o := fun {g} kp b o q =>
    kp b o (Nat.ne_of_lt (Nat.lt_succ_of_lt (Heap.lt_size q))) (copyHeap_old q)
  refine sorted_of_sort hl (by rw [e.length]; exact hL) ha1 ha2 fun E' => ?_
  rw [ht]
  refine keyL_tree (kz := bs.map k) (s := { s with heap := copyHeap s.heap vs }) (copyHeap_at s.heap vs) (by rw [List.length_map]; exact e.length.symm) (by rw [e.length]; exact hL) hal hk (bound_map (A := A.in1.in1) hu)
    (fun i v d hv hd h tk kp => ?_) fun h' tk out c kp hD ko => ⟨rfl, ?_⟩
  · rw [List.getElem?_map] at hd
    cases q : bs[i]? with
    | none => rw [q] at hd; simp at hd
    | some x =>
      rw [q] at hd
      have hd' : some (k x) = some d := hd
      rw [← Option.some.inj hd']
      have hz : (v, x) ∈ vs.zip bs := List.mem_of_getElem? (i := i) (by rw [List.getElem?_zip_eq_some]; exact ⟨hv, q⟩)
      refine wpAny_mono (turn v x (e.zip _ hz) (List.mem_of_getElem? q) h tk (up kp)) (fun v' s' hh => ?_) fun _ _ z => z
      obtain ⟨h', tk', e1, e2, as, e3, e4⟩ := hh
      refine ⟨h', tk', e1, e2, as, e3, fun y hy => ⟨fun z => e4 y hy (by rw [z]; exact fresh), fun z => ?_⟩⟩
      cases q2 : s.heap.get? y with
      | none => exact e4 y hy q2
      | some o =>
        have q3 := copyHeap_old (vs := vs) q2
        have z' : (copyHeap s.heap vs).get? y = none := z
        rw [z'] at q3
        cases q3
  · exact h out c h' tk (up kp) fresh hD ((ko.length (by rw [List.length_map]; exact e.length.symm)).trans e.length) (keyedOut_each k ko e)
end
end HG

set_option Elab.async false
set_option linter.all false
set_option maxRecDepth 100000
set_option maxHeartbeats 4000000
/-! The walk: starts_within, relocations. -/
namespace HG
open PySem L2
abbrev sStarts : Stmt := topS 19
abbrev sRelocs : Stmt := topS 20
structure Cok (c : Ctr) : Prop where
  s1 : 1 ≤ c.size
  s2 : c.size ≤ 3
  ll : c.lens.length ≤ 3
  ln : ∀ n ∈ c.lens, 1 ≤ n ∧ n ≤ 3
structure Sml (l : Lay) : Prop where
  len : l.length ≤ 3
  bl : ∀ b ∈ l, 0 ≤ b.1 ∧ b.1 ≤ 3 ∧ 1 ≤ b.2 ∧ b.2 ≤ 3
theorem sml_of {l : Lay} (h : sml l = true) : Sml l := by
  unfold sml at h
  simp only [Bool.and_eq_true, decide_eq_true_eq, List.all_eq_true] at h
  exact ⟨h.1, fun b hb => ⟨(h.2 b hb).1.1.1, (h.2 b hb).1.1.2, (h.2 b hb).1.2, (h.2 b hb).2⟩⟩
theorem flatMap_le {α β : Type} {f : α → List β} {k : Nat} : ∀ {xs : List α}, (∀ x ∈ xs, (f x).length ≤ k) → (xs.flatMap f).length ≤ xs.length * k
  | [], _ => by simp
  | x :: xs, h => by
    have h1 := h x (by simp)
    have h2 := flatMap_le (xs := xs) fun y hy => h y (List.mem_cons_of_mem _ hy)
    rw [List.flatMap_cons, List.length_append, List.length_cons, Nat.succ_mul]
    omega
theorem rngI_len (lo hi : Int) : (rngI lo hi).length = (hi - lo).toNat := by unfold rngI; rw [List.length_map, List.length_range]
theorem step1_le (b : Int × Int) (rl : Row) (p : Int) : (mStep1 b rl p).length ≤ 1 := by
  unfold mStep1
  split
  · simp
  · split <;> simp
theorem step_le {size : Int} {rows : List Row} {b : Int × Int} (hs : size ≤ 3) (hb : 1 ≤ b.2) : (mStep size rows b).length ≤ rows.length * 3 := by
  unfold mStep
  refine flatMap_le fun rl _ => ?_
  have h := flatMap_le (xs := rngI 0 (size + 1 - b.2)) (f := mStep1 b rl) (k := 1) fun p _ => step1_le b rl p
  rw [rngI_len] at h
  have : (size + 1 - b.2 - 0).toNat ≤ 3 := by omega
  exact Nat.le_trans h (by omega)
theorem rows_le {size : Int} (hs : size ≤ 3) : ∀ {l : Lay} {rows : List Row}, (∀ b ∈ l, 1 ≤ b.2) → (l.foldl (mStep size) rows).length ≤ rows.length * 3 ^ l.length
  | [], rows, _ => by simp
  | b :: l, rows, h => by
    have h1 := step_le (rows := rows) hs (h b (by simp))
    have h2 := rows_le hs (l := l) (rows := mStep size rows b) fun y hy => h y (List.mem_cons_of_mem _ hy)
    rw [List.foldl_cons, List.length_cons, Nat.pow_succ]
    have h3 : (mStep size rows b).length * 3 ^ l.length ≤ rows.length * 3 * 3 ^ l.length := Nat.mul_le_mul_right _ h1
    have e : rows.length * 3 * 3 ^ l.length = rows.length * (3 ^ l.length * 3) := by rw [Nat.mul_assoc, Nat.mul_comm 3]
    omega
theorem pow3 {n : Nat} (h : n ≤ 3) : 3 ^ n ≤ 27 := by
  have : n = 0 ∨ n = 1 ∨ n = 2 ∨ n = 3 := by omega
  rcases this with e | e | e | e <;> subst e <;> decide
theorem mRows_le {size budget : Int} {l : Lay} (hs : size ≤ 3) (h : Sml l) (i : Nat) : (mRows size budget (l.take i)).length ≤ 27 := by
  have h1 := rows_le hs (l := l.take i) (rows := [([], budget)]) fun b hb => (h.bl b (List.mem_of_mem_take hb)).2.2.1
  have h2 : (l.take i).length ≤ 3 := by rw [List.length_take]; have := h.len; omega
  have h3 := pow3 h2
  unfold mRows
  simp only [List.length_singleton, Nat.one_mul] at h1
  omega
theorem rows_snoc {size budget : Int} {l : Lay} {i : Nat} {b : Int × Int} (h : l[i]? = some b) : mRows size budget (l.take (i + 1)) = mStep size (mRows size budget (l.take i)) b := by
  have e : l.take (i + 1) = l.take i ++ [b] := by rw [List.take_add_one, h]; rfl
  unfold mRows
  rw [e, List.foldl_append]; rfl

abbrev encRow (r : Row) : D := .tup [.lst (r.1.map .int), .int r.2]
theorem ints_snoc (xs : List Int) (p : Int) : D.lst ((xs ++ [p]).map .int) = .lst (xs.map .int ++ [.int p]) := by rw [List.map_append]; rfl
theorem ee_snocM {T : List Addr} {X : Cx} {γ : List SV} {a b : Expr} {pos p2 : Pos} {α : Type} {xs : List α} {x : α} {enc : α → D} (ha : EE T X a γ (.lst (xs.map enc))) (hb : EE T X b γ (enc x)) (hz : xs.length ≤ 1000) (hs : starEach [b] X.env = (false, eval b X.env) :: starEach [] X.env := by rfl) : EE T X (.BinOp a .Add (.List [b] p2) pos) γ (.lst ((xs ++ [x]).map enc)) := by
  have e : D.lst ((xs ++ [x]).map enc) = .lst (xs.map enc ++ [enc x]) := by rw [List.map_append]; rfl
  rw [e]
  exact ee_cat ha (ee_lst (ea_cons hb ea_nil hs) l1) (line1001 (by rw [List.length_map]; show _ + 1 ≤ _; omega))
theorem line100 {n m : Nat} (h : n + m ≤ 1000) : n < sizeLine := Nat.lt_of_le_of_lt (Nat.le_trans (Nat.le_add_right _ _) h) (by decide)
section
variable {P : Program} {w : World} {K : PySem.W.Frag} {mg : Str → Option Value} {base : Heap} {T : List Addr}
theorem mlNil {P : Program} {w : World} {G H : Hp} {l : Addr} {a b : List D} (h : ML P w G H l a) (e : a = b) : ML P w G H l b := e ▸ h
/-- each row of a list of numbers so far has so many items -/
theorem rows_short {size budget : Int} (l : Lay) : ∀ r ∈ mRows size budget l, r.1.length = l.length := by
  have key : ∀ (l : Lay) (rows : List Row) (n : Nat), (∀ r ∈ rows, r.1.length = n) → ∀ r ∈ l.foldl (mStep size) rows, r.1.length = n + l.length := by
    intro l
    induction l with
    | nil => intro rows n h r hr; exact h r hr
    | cons b l ih =>
      intro rows n h r hr
      have := ih (mStep size rows b) (n + 1) (fun r hr => ?_) r hr
      · rw [this, List.length_cons]; omega
      · unfold mStep at hr
        obtain ⟨rl, hrl, hr⟩ := List.mem_flatMap.mp hr
        obtain ⟨p, _, hr⟩ := List.mem_flatMap.mp hr
        have hh := h rl hrl
        unfold mStep1 at hr
        split at hr
        · rw [List.mem_singleton.mp hr]; simp [hh]
        · split at hr
          · rw [List.mem_singleton.mp hr]; simp [hh]
          · cases hr
  intro r hr
  have := key l [([], budget)] 0 (by simp) r hr
  omega
def rStarts (ds : List D) (d : D) : Prop := ∃ (size budget : Int) (l : Lay), 1 ≤ size ∧ size ≤ 3 ∧ Sml l ∧ ds = [.int size, .int budget, encL l] ∧ d = .lst ((mStarts size budget l).map fun (r : List Int) => D.lst (r.map D.int))
theorem scStarts : FnScope ["size", "budget", "layout", "rows", "start", "length", "longer", "row", "left", "place"] ["size", "budget", "layout"] (defScope sStarts) := ⟨rfl, rfl, rfl, by decide +kernel, rfl, by decide +kernel, by decide +kernel⟩
theorem ok_starts {f : Addr} {fd : FuncData} (F : Fun K "starts_within" "starts_within" sStarts f fd) (B : Bt mg) : FnOk P w K mg base CX0 1 f fd ["size", "budget", "layout"] (spR P w T rStarts) := by
  refine def_ok F scStarts (fun ds d h => by obtain ⟨s, l, a, _, _, _, rfl, _⟩ := h; rfl) (fun cdv A outer s H E G ds d hr wf h => ?_)
  obtain ⟨size, budget, l, hs1, hs2, hl, rfl, rfl⟩ := h
  refine sb_cons (s_set 3 scStarts.nd (EE.vj (ee_lst (ea_cons (ee_tup (ea_cons (ee_lst ea_nil (Nat.zero_le _)) (ea_cons (ee_var 1) ea_nil)) l2) ea_nil) l1)) fun G1 H1 x1 => ?_)
  refine sb_cons (s_for rfl (src_lst (ee_var 2)) (fun i γ' _ _ => γ' = [.dat (.int size), .dat (.int budget), .dat (encL l), .dat (.lst ((mRows size budget (l.take i)).map encRow)), .und, .und, .und, .und, .und, .und]) (fun G' H' x' => rfl) ?_ ?_)
  · rintro i d γ' G' H' hd g' x' rfl G2 H2 x2
    rw [List.getElem?_map] at hd
    cases hb : l[i]? with
    | none => rw [hb] at hd; cases hd
    | some b =>
      rw [hb] at hd
      cases hd
      obtain ⟨hb1, hb2, hb3, hb4⟩ := hl.bl b (List.mem_of_getElem? hb)
      have hle := mRows_le (budget := budget) hs2 hl i
      have hle2 := step_le (rows := mRows size budget (l.take i)) (b := b) hs2 hb3
      refine ⟨_, _, gt_pair rfl (gt_name 4 scStarts.nd) (gt_name 5 scStarts.nd), ?_⟩
      refine sb_cons (s_newL 6 scStarts.nd ea_nil (Nat.zero_le _) fun a G3 H3 hn hn0 x3 m3 => sb_ext fun xa => ?_)
      refine sb_cons (s_forApp (xs := mRows size budget (l.take i)) encRow _ _ (fun rl => ((rngI 0 (size + 1 - b.2)).flatMap fun p => (mStep1 b rl p).map encRow)) (fun _ _ => True) 1000 rfl (src_lst (ee_var 3)) (fun _ _ _ _ _ _ _ => trivial) trivial m3 ?_ xa.wf (fun x _ => gt_pair rfl (gt_name 7 scStarts.nd) (gt_name 8 scStarts.nd)) ?_ ?_)
      · have e : ((mRows size budget (l.take i)).flatMap fun rl => (rngI 0 (size + 1 - b.2)).flatMap fun p => (mStep1 b rl p).map encRow) = (mStep size (mRows size budget (l.take i)) b).map encRow := by
          unfold mStep
          simp only [List.map_flatMap]
        rw [e, List.length_map]
        show 0 + _ ≤ 1000
        omega
      · intro rl hrl acc G4 H4 g4 x4 _ m4 hacc
        have hrow : rl.1.length ≤ 1000 := by
          have h1 := rows_short (l.take i) rl hrl
          have h2 := hl.len
          rw [List.length_take] at h1
          omega
        refine sb_cons (s_forApp (xs := rngI 0 (size + 1 - b.2)) D.int _ _ (fun p => (mStep1 b rl p).map encRow) (fun _ _ => True) 1000 rfl (src_rng1 (ea_cons (ee_sub (ee_add (ee_var 0) ee_int) (ee_var 5)) ea_nil) B.range (by omega) (by omega)) (fun _ _ _ _ _ _ _ => trivial) trivial m4 hacc x4.wf (fun x _ => gt_name 9 scStarts.nd) ?_ ?_)
        · intro p hp acc2 G5 H5 g5 x5 _ m5 hacc2
          refine sb_one (s_if (ET.tj (et_c c_eq (ee_var 9) (ee_var 4))) (fun hT G6 H6 x6 => ?_) (fun hF G6 H6 x6 => ?_))
          · have e : mStep1 b rl p = [(rl.1 ++ [p], rl.2)] := by unfold mStep1; rw [if_pos (by simpa using hT)]
            refine sb_cons (s_append (d := encRow (rl.1 ++ [p], rl.2)) (ev_var 6) (EE.vj (ee_tup (ea_cons (ee_snocM (ee_var 7) (ee_var 9) hrow) (ea_cons (ee_var 8) ea_nil)) l2)) (m5.ex x5.wf x6) (line100 hacc2) (.inr hn0) fun G7 H7 x7 m7 => sb_forget [9] (sb_nil ⟨rfl, trivial, ?_⟩))
            rw [e]; exact m7
          · have hF1 : ¬ p = b.1 := by simpa using hF
            refine sb_one (s_if (ET.tj (et_c c_le (ee_var 5) (ee_var 8))) (fun hT2 G7 H7 x7 => ?_) (fun hF2 G7 H7 x7 => ?_))
            · have e : mStep1 b rl p = [(rl.1 ++ [p], rl.2 - b.2)] := by unfold mStep1; rw [if_neg hF1, if_pos (by simpa using hT2)]
              refine sb_cons (s_append (d := encRow (rl.1 ++ [p], rl.2 - b.2)) (ev_var 6) (EE.vj (ee_tup (ea_cons (ee_snocM (ee_var 7) (ee_var 9) hrow) (ea_cons (ee_sub (ee_var 8) (ee_var 5)) ea_nil)) l2)) (m5.ex x5.wf (x6.tr x7)) (line100 hacc2) (.inr hn0) fun G8 H8 x8 m8 => sb_forget [9] (sb_nil ⟨rfl, trivial, ?_⟩))
              rw [e]; exact m8
            · have e : mStep1 b rl p = [] := by unfold mStep1; rw [if_neg hF1, if_neg (by simpa using hF2)]
              refine sb_forget [9] (sb_nil ⟨rfl, trivial, ?_⟩)
              rw [e, List.map_nil, List.append_nil]
              exact m5.ex x5.wf (x6.tr x7)
        · intro G5 H5 g5 x5 _ m5
          exact sb_forget [7, 8] (sb_nil ⟨rfl, trivial, m5⟩)
      · intro G4 H4 g4 x4 _ m4
        refine sb_forget [7, 8] (sb_frz 6 rfl m4 hn0 fun vs hv => sb_cons (s_set 3 scStarts.nd (EE.vj (ee_var 6)) fun G5 H5 x5 => sb_forget [4, 5, 6, 7, 8, 9] (sb_nil ?_)))
        rw [rows_snoc hb]
        unfold mStep
        simp only [List.map_flatMap]
        rfl
  · rintro γ' G' H' g' x' rfl
    rw [List.length_map, List.take_length]
    have hle := mRows_le (budget := budget) hs2 hl l.length
    rw [List.take_length] at hle
    refine sb_one (s_ret (EE.vj (ee_lc (xs := mRows size budget l) encRow _ _ (fun _ => true) (fun (r : Row) => D.lst (r.1.map D.int)) rfl scStarts.nd (blkOk_by (N := ["size", "budget", "layout", "rows", "start", "length", "longer", "row", "left", "place"]) (sc := defScope sStarts) (own := [("row", 7), ("left", 8)]) (by decide +kernel)) (src_lst (ee_var 3)) (by decide)
      (fun _ _ _ _ _ x _ => gt_pair rfl (gt_name 7 scStarts.nd) (gt_name 8 scStarts.nd)) (fun _ _ _ _ _ x _ => ets_nil) (fun _ _ _ _ _ x _ _ => ee_var 7) (line1000 (by omega)) (ys := (mStarts size budget l).map fun (r : List Int) => D.lst (r.map D.int)) ?_)) fun v G' H' x r => r)
    rw [filter_yes]
    unfold mStarts
    rw [List.map_map]; rfl

def rRelocs (C : Addr) (ds : List D) (d : D) : Prop := ∃ (c : Ctr) (l : Lay), Cok c ∧ Sml l ∧ ds = [encC C c, encL l] ∧ d = .lst ((mRelocs c l).map fun (r : List Int) => D.lst (r.map D.int))
theorem scRelocs : FnScope ["contract", "layout", "rows", "row"] ["contract", "layout"] (defScope sRelocs) := ⟨rfl, rfl, rfl, by decide +kernel, rfl, by decide +kernel, by decide +kernel⟩
theorem ok_relocs {f C : Addr} {fd : FuncData} (F : Fun K "relocations" "relocations" sRelocs f fd) (CF : CtrF K C) (L1 : Dk P w K mg base T 1 "starts_within" rStarts) (L3 : Dk P w K mg base T 3 "is_relocation" rIsReloc) : FnOk P w K mg base CX0 4 f fd ["contract", "layout"] (spR P w T (rRelocs C)) := by
  refine def_ok F scRelocs (fun ds d h => by obtain ⟨s, l, _, _, rfl, _⟩ := h; rfl) (fun cdv A outer s H E G ds d hr wf h => ?_)
  obtain ⟨c, l, hc, hl, rfl, rfl⟩ := h
  refine sb_cons (s_set 2 scRelocs.nd (EE.vj (ee_call (L1.mono (by decide)) hr (ea_cons (ee_fld (ee_var 0) CF.cl CF.nSize rfl) (ea_cons (ee_fld (ee_var 0) CF.cl CF.nBudget rfl) (ea_cons (ee_var 1) ea_nil))) ⟨c.size, c.budget, l, hc.s1, hc.s2, hl, rfl, rfl⟩)) fun G1 H1 x1 => ?_)
  have hle := mRows_le (budget := c.budget) hc.s2 hl l.length
  rw [List.take_length] at hle
  exact sb_one (s_ret (EE.vj (ee_lc (xs := mStarts c.size c.budget l) (fun (r : List Int) => D.lst (r.map D.int)) _ _ (mIsReloc c.size l) (fun (r : List Int) => D.lst (r.map D.int)) rfl scRelocs.nd (blkOk_by (N := ["contract", "layout", "rows", "row"]) (sc := defScope sRelocs) (own := [("row", 3)]) (by decide +kernel)) (src_lst (ee_var 2)) (by decide)
    (fun _ _ _ _ _ x _ => gt_name 3 scRelocs.nd) (fun _ _ _ _ _ x _ => ets_one (et_ee (ee_call L3 hr (ea_cons (ee_fld (ee_var 0) CF.cl CF.nSize rfl) (ea_cons (ee_var 1) (ea_cons (ee_var 3) ea_nil))) ⟨c.size, l, x, by have := hl.len; omega, rfl, rfl⟩))) (fun _ _ _ _ _ x _ _ => ee_var 3) (line1000 (by unfold mStarts; rw [List.length_map]; omega)) rfl)) fun v G' H' x r => r)
end
end HG

set_option Elab.async false
set_option linter.all false
set_option maxRecDepth 100000
set_option maxHeartbeats 4000000
/-! The walk: sorted(found, key=reply_key). -/
namespace HG
open PySem L2
abbrev sKey : Stmt := topS 22
abbrev encRep (r : Rep) : D := .tup [.lst (r.1.map .int), .int r.2.1, .int r.2.2]
section
variable {P : Program} {w : World} {K : PySem.W.Frag}
theorem key_call {f t : Addr} {fd : FuncData} {A : Around} {s : Shared} {u0 u1 u2 : Value} {E : Value → Shared → Prop} {Q : Value → Shared → Prop} (F : Fun K "reply_key" "reply_key" sKey f fd) (KX : K.In s.heap) (hlim : s.heap.NoLimit) (hroom : A.depth < recursionLimit) (ht : PyProof.Rows.IsTup s.heap t #[u0, u1, u2])
    (q : ∀ h' tk p, (∀ b o, s.heap.get? b = some o → h'.get? b = some o) → h'.get? p = some { cls := .type "tuple", data := .seq #[u2, u0, u1] } → Q (.ref p) { s with heap := h', toks := tk }) : wpAny (model P w) A (call (.ref f) [.ref t]) Q E s := by
  obtain ⟨oc, od, kV, doc, pm, an, cdv, ct, osl, rfl, lk, hcd⟩ := F.ex
  refine wpAny_call (Att.call_fn (binds := [("reply", .ref t)]) KX hlim lk hcd hroom (.of_eq rfl) (by with_unfolding_all rfl) (fun s1 x => ?_) rfl rfl rfl)
  obtain ⟨h1, tk1, rfl⟩ := x.toInCall.same
  have ht1 := ht.keeps x.toInCall.keep
  have hns := x.toInCall.ns
  have keep := x.toInCall.keep
  have nm : ∀ {p : Pos} {s2 : Shared} {A2 : Around} {E2 : Value → Shared → Prop} {Q2 : Value → Shared → Prop}, s2.heap = h1 → Q2 (.ref t) s2 → wpAny (model P w) A2 (eval (.Name "reply" p) (PyProof.Rows.envOfC "reply_key" (defScope sKey) s.heap.objs.size f cdv)) Q2 E2 s2 := fun {p s2 A2 E2 Q2} e q2 =>
    wpAny_Name (wpAny_loadName_local rfl rfl (by rw [e]; exact hns) rfl q2) (by decide)
  have ix : ∀ {p1 p2 p3 : Pos} {kd : Nat} {s2 : Shared} {A2 : Around} {E2 : Value → Shared → Prop} {Q2 : Value → Shared → Prop} (i : Int) (j : Nat) (u : Value), s2.heap = h1 → -(2 ^ 63) ≤ i → i < 2 ^ 63 → seqIndex? i (#[u0, u1, u2] : Array Value).size = some j → (#[u0, u1, u2] : Array Value)[j]? = some u → Q2 u { s2 with toks := s2.toks + 1 } →
      wpAny (model P w) A2 (eval (.Subscript (.Name "reply" p1) (.Constant (.int i) kd p2) p3) (PyProof.Rows.envOfC "reply_key" (defScope sKey) s.heap.objs.size f cdv)) Q2 E2 s2 := fun {p1 p2 p3 kd s2 A2 E2 Q2} i j u e h1 h2 h3 h4 q2 => by
    refine PyProof.Rows.Subscript_ (nm e (wpAny_Constant_int ?_))
    exact PyProof.Rows.item_tuple (s := { s2 with toks := s2.toks + 1 }) (by rw [show ({ s2 with toks := s2.toks + 1 } : Shared).heap = s2.heap from rfl, e]; exact ht1) h1 h2 h3 h4 q2
  refine wpAny_execs_cons (wpAny_Return_some (wpAny_Tuple ?_))
  refine Calls.spliced_cons (ix 2 2 u2 rfl (by decide) (by decide) rfl rfl ?_)
  refine Calls.spliced_cons (ix 0 0 u0 rfl (by decide) (by decide) rfl rfl ?_)
  refine Calls.spliced_cons (ix 1 1 u1 rfl (by decide) (by decide) rfl rfl ?_)
  refine Calls.spliced_nil ⟨l3, ?_⟩
  exact q _ _ _ (fun b o e => Heap.get?_push_of_some _ (keep b o e)) (Heap.get?_push_size _ rfl)
end
section
variable {T : List Addr} {X : Cx} {γ : List SV} {e : Expr} {p pos : Pos}
def rSortK (K : PySem.W.Frag) (P : Program) (w : World) (f : Addr) : List V → List V → Hp → VK → Prop := fun vs zs H Q => ∃ (a : Addr) (ys : List (V × Rep)) (G : Hp), vs = [.ref a] ∧ zs = [.ref f] ∧ Sub G H ∧ G a = some (.lst (ys.map (·.1))) ∧ (∀ z ∈ ys, DR P w G z.1 (encRep z.2)) ∧
  ∀ p, H p = none → Q (.ref p) (upd H p (.lst ((ys.mergeSort (fun a b => leR a.2 b.2)).map (·.1))))
theorem each_of_zip {α : Type} {ys : List (V × α)} : ∀ {us : List Value}, Vals (ys.map (·.1)) us → PySem.W.EachIs (fun u (z : V × α) => RelV z.1 u) us ys := by
  induction ys with
  | nil => intro us h; cases h; exact .nil
  | cons z zs ih =>
    intro us h
    have h' : Vals (z.1 :: zs.map (·.1)) us := h
    cases h' with
    | cons r t => exact .cons r (ih t)
theorem vals_of_each {α : Type} {ys : List (V × α)} : ∀ {us : List Value}, PySem.W.EachIs (fun u (z : V × α) => RelV z.1 u) us ys → Vals (ys.map (·.1)) us := by
  induction ys with
  | nil => intro us h; cases h; exact .nil
  | cons z zs ih =>
    intro us h
    cases h with
    | cons r t => exact .cons r (ih t)
theorem drs3 {P : Program} {w : World} {G : Hp} {vs : List V} {a b c : D} (h : DRs P w G vs [a, b, c]) : ∃ v u t, vs = [v, u, t] ∧ DR P w G v a ∧ DR P w G u b ∧ DR P w G t c := by
  cases h with
  | cons h1 h2 => cases h2 with
    | cons h2 h3 => cases h3 with
      | cons h3 h4 => cases h4; exact ⟨_, _, _, rfl, h1, h2, h3⟩
theorem vals3 {vs : List Value} {a b c : V} (h : Vals [a, b, c] vs) : ∃ x y z, vs = [x, y, z] ∧ RelV a x ∧ RelV b y ∧ RelV c z := by
  cases h with
  | cons h1 h2 => cases h2 with
    | cons h2 h3 => cases h3 with
      | cons h3 h4 => cases h4; exact ⟨_, _, _, rfl, h1, h2, h3⟩
theorem reads_ints {h : Heap} : ∀ {ns : List Int} {us : List Value}, Vals (ns.map V.int) us → ReadsAll h us (ns.map .int) []
  | [], _, r => by cases r; exact .nil
  | n :: ns, _, r => by
    cases r with
    | cons r1 r2 =>
      obtain ⟨t, rfl⟩ := r1
      exact ReadsAll.cons (as := []) (bs := []) (.int n t) (reads_ints r2)
theorem cr_sortK {f : Addr} {fd : FuncData} {k : Nat} (F : Fun X.K "reply_key" "reply_key" sKey f fd) (hr : Room k X.A) : CallRK X (.builtin "sorted") [Str.ofString "key"] (rSortK X.K X.prog X.w f) := by
  intro pins s σ H vs zs us ws Q I r r2 h
  obtain ⟨a, ys, G, rfl, rfl, gs, ga, hd, q⟩ := h
  obtain rfl := Vals.ref1 r
  obtain rfl := Vals.ref1 r2
  obtain ⟨its, rv, hl, hz⟩ := I.list (SqL.of (gs _ _ ga))
  rw [List.length_map] at hz
  have e0 := each_of_zip rv
  have hu := hr.un
  refine sorted_keyL (b := false) (fun z : V × Rep => en3 (keyR z.2)) hl.isList e0 (PySem.W.AllAlike.of fun z y => en3_alike _ _) (PySem.W.Sortable.tuples fun b => ⟨_, _, rfl⟩) hz (fun x _ => ?_) (PyProof.Rows.ksk_s1 _ _) (fun _ => PyProof.Rows.ksk_l1 _ _) (fun _ => PyProof.Rows.ksk_t1 _ _) (fun v z rz hz2 h tk keep => ?_) (fun out c h' tk keep hfresh hD ho eo => ?_)
  · have hdep : (en3 (keyR x.2)).depth ≤ 2 := by rw [← pd_enc3]; exact depth_3 _
    omega
  · have dz := hd z hz2
    obtain ⟨t, xs, ez, g1, q1⟩ := dr_tup dz
    obtain ⟨v0, v1, v2, rfl, r0, r1, r3⟩ := drs3 q1
    rw [ez] at rz
    obtain rfl : v = Value.ref t := rz
    obtain ⟨l0, ns, rfl, g0, q0⟩ := dr_lst r0
    have ens := drs_ints q0
    subst ens
    rw [dr_int r1, dr_int r3] at g1
    obtain ⟨_, us3, rv3, o3, ho3, hc3, n3, hd3⟩ := I.hok t _ (gs _ _ g1)
    obtain ⟨x0, x1, x2, rfl, y0, y1, y2⟩ := vals3 rv3
    obtain rfl : x0 = Value.ref l0 := y0
    obtain ⟨t1, rfl⟩ := y1
    obtain ⟨t2, rfl⟩ := y2
    obtain ⟨_, us0, n0, rv0, ho0⟩ := I.hok l0 _ (gs _ _ g0)
    have KX : X.K.In h := (I.ok.mod.kin.keeps I.bk).keeps keep
    refine key_call (s := { s with heap := h, toks := tk }) F KX (I.nolimit.keeps keep) (by show X.A.in1.in1.depth < _; have := hr.dp; show X.A.depth < _; omega) ⟨o3, keep _ _ ho3, hc3, n3, hd3⟩ fun h2 tk2 p k2 hp => ⟨h2, tk2, rfl, k2, [l0], ?_, fun y hy => ?_⟩
    · have rl : Reads h2 (.ref l0) (.list (z.2.1.map .int)) [l0] := .list (k2 _ _ (keep _ _ ho0)) rfl rfl (reads_ints rv0)
      exact .tuple hp rfl rfl (ReadsAll.cons (as := []) (bs := [l0]) (.int _ _) (ReadsAll.cons (as := [l0]) (bs := []) rl (ReadsAll.cons (as := []) (bs := []) (.int _ _) .nil)))
    · rw [List.mem_singleton.mp hy, ho0]; exact fun z => by cases z
  · have rv' := vals_of_each eo
    have hle : (fun a b : V × Rep => leR a.2 b.2) = PySem.W.dataLe false fun z : V × Rep => en3 (keyR z.2) := by
      funext a b
      exact (nlt_3 _ _).symm
    rw [hle] at q
    have hlen : ((ys.mergeSort (PySem.W.dataLe false fun z : V × Rep => en3 (keyR z.2))).map (·.1)).length ≤ sizeLine := by
      rw [List.length_map, (List.mergeSort_perm _ _).length_eq]
      exact hz
    exact ⟨.ref _, upd H (s.heap.objs.size + 1) (.lst _), I.laid (t' := tk) keep (Nat.le_succ _) ⟨hlen, out, c, rv', hD⟩, rfl, q _ (I.hok.fresh (Nat.le_succ _))⟩
theorem leR_lin : LinLe leR := by
  have inj : ∀ a b : Rep, keyR a = keyR b → a = b := fun a b e => by
    obtain ⟨a1, a2, a3⟩ := a
    obtain ⟨b1, b2, b3⟩ := b
    simp only [keyR, Prod.mk.injEq] at e
    obtain ⟨e1, e2, e3⟩ := e
    rw [e1, e2, e3]
  exact ⟨fun x y z a b => leT_lin.trans _ _ _ a b, fun x y => leT_lin.total _ _, fun x y a b => inj _ _ (leT_lin.anti _ _ a b)⟩
theorem ee_sortK {k : Nat} {xs : List Rep} {f : Addr} {fd : FuncData} {p2 kpos : Pos} (h : EE T X e γ (.lst (xs.map encRep))) (F : Fun X.K "reply_key" "reply_key" sKey f fd) (hm2 : X.mg "reply_key" = some (.ref f)) (hm : X.mg "sorted" = none) (hr : Room k X.A) (hg : Gl X "sorted" := by rfl) (hg2 : Gl X "reply_key" := by rfl)
    (hs : starEach [e] X.env = (false, eval e X.env) :: starEach [] X.env := by rfl)
    (he : backTo pos (starEach [e] X.env) = (false, eval e X.env) :: backTo pos (starEach [] X.env) := by rfl) (hpl : (backTo pos (starEach [e] X.env)).any (·.1) = false := by rfl)
    (hall : (backToKw pos (keywordEach [⟨some "key", .Name "reply_key" p2, kpos⟩] X.env)).all (·.1.isSome) = true := by rfl) (hnone : (backToKw pos (keywordEach [⟨some "key", .Name "reply_key" p2, kpos⟩] X.env)).any (·.1.isNone) = false := by rfl) (hks : (backToKw pos (keywordEach [⟨some "key", .Name "reply_key" p2, kpos⟩] X.env)).filterMap (·.1) = [Str.ofString "key"] := by rfl) :
    EE T X (.Call (.Name "sorted" p) [e] [⟨some "key", .Name "reply_key" p2, kpos⟩] pos) γ (.lst ((isort leR xs).map encRep)) := fun σ G H Q wf env kk => by
  have pk : PE X (.Name "reply_key" p2) (fun _ H Q => Q (.ref f) H) := ⟨fun pins s σ H Q I h => ld_glob I hg2 hm2 ⟨.ref f, H, I, rfl, h⟩⟩
  refine we_of (pe_callBK (cr_sortK F hr) hg hm PyProof.Rows.boot_sorted (pa_cons pe_w pa_nil hs) (pk_cons pk pk_nil) (by decide) (by decide) he hpl hall hnone hks) (h σ G H _ wf env fun v G1 H1 x1 r1 => ?_)
  obtain ⟨l, vs, rfl, g1, q1⟩ := dr_lst r1
  have hl : vs.length = xs.length := by rw [q1.length, List.length_map]
  have hmem := drs_mem q1
  have e1 : (vs.zip xs).map (·.1) = vs := zip_fst hl
  refine ⟨l, vs.zip xs, G1, rfl, rfl, x1.wf.sub, by rw [e1]; exact g1, hmem, fun q hq => ?_⟩
  have es : ((vs.zip xs).mergeSort (fun a b => leR a.2 b.2)).map (·.2) = isort leR xs := by
    have q0 := PySem.W.sort_maps (r := fun a b : V × Rep => leR a.2 b.2) (s := leR) (fun z : V × Rep => z.2) (l := vs.zip xs) (fun a _ b _ => rfl)
    rw [q0, zip_snd hl, isort_merge leR_lin]
  refine kk _ _ _ (x1.tr (Ext.newG x1.wf hq)) (dr_newL x1.wf hq ?_)
  rw [← es]
  exact drs_of_all fun z hz => hmem z ((List.mergeSort_perm _ _).mem_iff.mp hz)
end
end HG

set_option Elab.async false
set_option linter.all false
set_option maxRecDepth 100000
set_option maxHeartbeats 4000000
/-! The walk: replies, after_reply, moves_of, positions. -/
namespace HG
open PySem L2
abbrev sReplies : Stmt := topS 21
abbrev sAfter : Stmt := topS 23
abbrev sMoves : Stmt := topS 24
abbrev sPos : Stmt := topS 17
theorem mem_reqable {c : Ctr} {l : Lay} {n : Int} (hc : Cok c) (h : n ∈ mReqable c l) : 1 ≤ n ∧ n ≤ 3 := hc.ln n (List.mem_filter.mp h).1
theorem relocs_le {c : Ctr} {l : Lay} (hc : Cok c) (hl : Sml l) : (mRelocs c l).length ≤ 27 := by
  have h := mRows_le (budget := c.budget) hc.s2 hl l.length
  rw [List.take_length] at h
  unfold mRelocs mStarts
  exact Nat.le_trans (List.length_filter_le _ _) (by rw [List.length_map]; exact h)
theorem found_le {c : Ctr} {l : Lay} {n : Int} {st : List Int} (hc : Cok c) (hn : 1 ≤ n) : (mFound c l n st).length ≤ 3 := by
  unfold mFound
  refine Nat.le_trans (flatMap_le (k := 1) fun s _ => ?_) ?_
  · split <;> simp
  · rw [rngI_len]
    have := hc.s2
    omega
theorem replies_le {c : Ctr} {l : Lay} {n : Int} (hc : Cok c) (hl : Sml l) (hn : 1 ≤ n) : (mReplies c l n).length ≤ 81 := by
  unfold mReplies
  rw [(isort_perm leR _).length_eq]
  refine Nat.le_trans (flatMap_le (k := 3) fun st _ => found_le hc hn) ?_
  have := relocs_le hc hl
  omega
theorem reqable_le {c : Ctr} {l : Lay} (hc : Cok c) : (mReqable c l).length ≤ 3 := Nat.le_trans (List.length_filter_le _ _) hc.ll
/-- rows of starts are as long as the layout -/
theorem relocs_row {c : Ctr} {l : Lay} {st : List Int} (h : st ∈ mRelocs c l) : st.length = l.length := by
  unfold mRelocs mStarts at h
  obtain ⟨r, hr, rfl⟩ := List.mem_map.mp (List.mem_filter.mp h).1
  exact rows_short l r hr
section
variable {P : Program} {w : World} {K : PySem.W.Frag} {mg : Str → Option Value} {base : Heap} {T : List Addr}
def rReplies (C : Addr) (ds : List D) (d : D) : Prop := ∃ (c : Ctr) (l : Lay) (n : Int), Cok c ∧ Sml l ∧ n ∈ mReqable c l ∧ ds = [encC C c, encL l, .int n] ∧ d = .lst ((mReplies c l n).map encRep)
theorem scReplies : FnScope ["contract", "layout", "length", "found", "starts", "moved", "price", "start"] ["contract", "layout", "length"] (defScope sReplies) := ⟨rfl, rfl, rfl, by decide +kernel, rfl, by decide +kernel, by decide +kernel⟩
theorem ok_replies {f C fk : Addr} {fd fdk : FuncData} (F : Fun K "replies" "replies" sReplies f fd) (B : Bt mg) (CF : CtrF K C) (FK : Fun K "reply_key" "reply_key" sKey fk fdk) (hk : mg "reply_key" = some (.ref fk)) (L1 : Dk P w K mg base T 2 "requestable" (rReqable C)) (L2' : Dk P w K mg base T 4 "relocations" (rRelocs C)) (L3 : Dk P w K mg base T 2 "relocated" rRelocated)
    (L4 : Dk P w K mg base T 1 "cost" rCost) (L5 : Dk P w K mg base T 1 "fits" rFits) : FnOk P w K mg base CX0 5 f fd ["contract", "layout", "length"] (spR P w T (rReplies C)) := by
  refine def_ok F scReplies (fun ds d h => by obtain ⟨s, l, n, _, _, _, rfl, _⟩ := h; rfl) (fun cdv A outer s H E G ds d hr wf h => ?_)
  obtain ⟨c, l, n, hc, hl, hn, rfl, rfl⟩ := h
  obtain ⟨hn1, hn3⟩ := mem_reqable hc hn
  have hs1 := hc.s1
  have hs2 := hc.s2
  have hll := hl.len
  refine sb_cons (s_if (ET.tj (et_c (c_notInI (ns := mReqable c l)) (ee_var 2) (ee_call (L1.mono (by decide)) hr (ea_cons (ee_var 0) (ea_cons (ee_var 1) ea_nil)) ⟨c, l, by omega, by have := hc.ll; omega, rfl, rfl⟩))) (fun hT G3 H3 x3 => absurd hT (by simp [hn])) (fun hF G3 H3 x3 => sb_nil (E := { nx := fun γ' G' H' => SB _ _ _ γ' G' H' _ }) ?_))
  refine sb_cons (s_newL 3 scReplies.nd ea_nil (Nat.zero_le _) fun a G4 H4 hnn hn0 x4 m4 => sb_ext fun xa => ?_)
  refine sb_cons (s_forApp (xs := mRelocs c l) (fun r => .lst (r.map .int)) _ _ (fun st => (mFound c l n st).map encRep) (fun _ _ => True) 1000 rfl (src_lst (ee_call L2' hr (ea_cons (ee_var 0) (ea_cons (ee_var 1) ea_nil)) ⟨c, l, hc, hl, rfl, rfl⟩)) (fun _ _ _ _ _ _ _ => trivial) trivial m4 ?_ xa.wf (fun x _ => gt_name 4 scReplies.nd) ?_ ?_)
  · have h1 := flatMap_le (xs := mRelocs c l) (f := fun st => (mFound c l n st).map encRep) (k := 3) fun st _ => by rw [List.length_map]; exact found_le hc hn1
    have h2 := relocs_le hc hl
    show 0 + _ ≤ 1000
    omega
  · intro st hst acc G5 H5 g5 x5 _ m5 hacc
    refine sb_cons (s_set 5 scReplies.nd (EE.vj (ee_call (L3.mono (by decide)) hr (ea_cons (ee_var 1) (ea_cons (ee_var 4) ea_nil)) ⟨l, st, by omega, rfl, rfl⟩)) fun G6 H6 x6 => ?_)
    refine sb_cons (s_set 6 scReplies.nd (EE.vj (ee_call (L4.mono (by decide)) hr (ea_cons (ee_var 1) (ea_cons (ee_var 4) ea_nil)) ⟨l, st, by omega, rfl, rfl⟩)) fun G7 H7 x7 => sb_ext fun xa7 => ?_)
    have e0 : (mFound c l n st).map encRep = (rngI 0 (c.size + 1 - n)).flatMap fun s => if mFits c.size (mReloc l st) s n then [encRep (st, s, mCost l st)] else [] := by
      unfold mFound
      rw [List.map_flatMap]
      congr 1
      funext s
      split <;> rfl
    rw [e0] at hacc ⊢
    refine sb_cons (s_forApp (xs := rngI 0 (c.size + 1 - n)) D.int _ _ (fun s => if mFits c.size (mReloc l st) s n then [encRep (st, s, mCost l st)] else []) (fun _ _ => True) 1000 rfl (src_rng1 (ea_cons (ee_sub (ee_add (ee_fld (ee_var 0) CF.cl CF.nSize rfl) ee_int) (ee_var 2)) ea_nil) B.range (by omega) (by omega)) (fun _ _ _ _ _ _ _ => trivial) trivial (m5.ex x5.wf (x6.tr x7)) hacc xa7.wf (fun x _ => gt_name 7 scReplies.nd) ?_ ?_)
    · intro s0 hs0 acc2 G8 H8 g8 x8 _ m8 hacc2
      refine sb_one (s_if (b := mFits c.size (mReloc l st) s0 n) (ET.tj (et_ee (ee_call (L5.mono (by decide)) hr (ea_cons (ee_fld (ee_var 0) CF.cl CF.nSize rfl) (ea_cons (ee_var 5) (ea_cons (ee_var 7) (ea_cons (ee_var 2) ea_nil)))) ⟨c.size, mReloc l st, s0, n, rfl, rfl⟩))) (fun hT G9 H9 x9 => ?_) (fun hF G9 H9 x9 => ?_))
      · refine sb_cons (s_append (d := encRep (st, s0, mCost l st)) (ev_var 3) (EE.vj (ee_tup (ea_cons (ee_var 4) (ea_cons (ee_var 7) (ea_cons (ee_var 6) ea_nil))) l3)) (m8.ex x8.wf x9) (line100 hacc2) (.inr hn0) fun G10 H10 x10 m10 => sb_forget [7] (sb_nil ⟨rfl, trivial, ?_⟩))
        rw [if_pos hT]; exact m10
      · refine sb_forget [7] (sb_nil ⟨rfl, trivial, ?_⟩)
        rw [if_neg (by rw [hF]; exact Bool.false_ne_true), List.append_nil]
        exact m8.ex x8.wf x9
    · intro G8 H8 g8 x8 _ m8
      exact sb_forget [4, 5, 6, 7] (sb_nil ⟨rfl, trivial, m8⟩)
  · intro G5 H5 g5 x5 _ m5
    refine sb_frz 3 rfl m5 hn0 fun vs hv => sb_one (s_ret (EE.vj (ee_sortK (xs := (mRelocs c l).flatMap (mFound c l n)) ?_ FK hk B.sorted hr)) fun v G6 H6 x6 r6 => r6)
    rw [List.map_flatMap]
    exact ee_var 3

def rAfter (ds : List D) (d : D) : Prop := ∃ (l : Lay) (n : Int) (r : Rep), l.length ≤ 900 ∧ ds = [encL l, .int n, encRep r] ∧ d = encL (mAfter l n r)
theorem scAfter : FnScope ["layout", "length", "reply"] ["layout", "length", "reply"] (defScope sAfter) := ⟨rfl, rfl, rfl, by decide +kernel, rfl, by decide +kernel, by decide +kernel⟩
theorem ok_after {f : Addr} {fd : FuncData} (F : Fun K "after_reply" "after_reply" sAfter f fd) (L1 : Dk P w K mg base T 1 "with_block" rWith) (L3 : Dk P w K mg base T 2 "relocated" rRelocated) : FnOk P w K mg base CX0 3 f fd ["layout", "length", "reply"] (spR P w T rAfter) := by
  refine def_ok F scAfter (fun ds d h => by obtain ⟨s, l, n, _, rfl, _⟩ := h; rfl) (fun cdv A outer s H E G ds d hr wf h => ?_)
  obtain ⟨l, n, r, hl, rfl, rfl⟩ := h
  refine sb_one (s_ret (EE.vj (ee_call (L1.mono (by decide)) hr (ea_cons (ee_call L3 hr (ea_cons (ee_var 0) (ea_cons (ee_ixT (ee_var 2) ee_int rfl) ea_nil)) ⟨l, r.1, by omega, rfl, rfl⟩) (ea_cons (ee_ixT (ee_var 2) ee_int rfl) (ea_cons (ee_var 1) ea_nil))) ⟨mReloc l r.1, r.2.1, n, ?_, rfl, rfl⟩)) fun v G6 H6 x6 r6 => r6)
  unfold mReloc mPlaced
  rw [(isort_perm leB _).length_eq, List.length_zipWith]
  omega

def encM : Mv → D
  | .rel i => .tup [.str "release", .int (i : Int)]
  | .req n => .tup [.str "request", .int n]
def rMoves (C : Addr) (ds : List D) (d : D) : Prop := ∃ (c : Ctr) (l : Lay), Cok c ∧ Sml l ∧ ds = [encC C c, encL l] ∧ d = .lst ((mMoves c l).map encM)
theorem scMoves : FnScope ["contract", "layout", "releases", "index", "length"] ["contract", "layout"] (defScope sMoves) := ⟨rfl, rfl, rfl, by decide +kernel, rfl, by decide +kernel, by decide +kernel⟩
theorem rng_nat (n : Nat) : rngI 0 (n : Int) = (List.range n).map fun (i : Nat) => (i : Int) := by
  unfold rngI
  simp
theorem ok_moves {f C : Addr} {fd : FuncData} (F : Fun K "moves_of" "moves_of" sMoves f fd) (B : Bt mg) (L1 : Dk P w K mg base T 2 "requestable" (rReqable C)) : FnOk P w K mg base CX0 3 f fd ["contract", "layout"] (spR P w T (rMoves C)) := by
  refine def_ok F scMoves (fun ds d h => by obtain ⟨s, l, _, _, rfl, _⟩ := h; rfl) (fun cdv A outer s H E G ds d hr wf h => ?_)
  obtain ⟨c, l, hc, hl, rfl, rfl⟩ := h
  have hll := hl.len
  have hcl := hc.ll
  have hrl := reqable_le (l := l) hc
  refine sb_cons (s_setLc (xs := rngI 0 (l.length : Int)) 2 D.int _ _ (fun _ => true) (fun i => .tup [.str "release", .int i]) rfl scMoves.nd (blkOk_by (N := ["contract", "layout", "releases", "index", "length"]) (sc := defScope sMoves) (own := [("index", 3)]) (by decide +kernel)) rfl rfl (src_rng1 (ea_cons (ee_lenM (ee_var 1) B.len) ea_nil) B.range (by omega) (by omega)) (by decide)
    (fun _ _ _ _ _ x _ => gt_name 3 scMoves.nd) (fun _ _ _ _ _ x _ => ets_nil) (fun _ _ _ _ _ x _ _ => ee_tup (ea_cons ee_str (ea_cons (ee_var 3) ea_nil)) l2) (line1000 (by rw [rngI_len]; omega)) (ys := ((List.range l.length).map Mv.rel).map encM) (by rw [filter_yes, rng_nat, List.map_map, List.map_map]; rfl) fun G1 H1 x1 => ?_)
  refine sb_one (s_ret (EE.vj (d := .lst (((List.range l.length).map Mv.rel).map encM ++ ((mReqable c l).map Mv.req).map encM)) (ee_cat (ee_var 2) (ee_lc (xs := mReqable c l) D.int _ _ (fun _ => true) (fun i => .tup [.str "request", .int i]) rfl scMoves.nd (blkOk_by (N := ["contract", "layout", "releases", "index", "length"]) (sc := defScope sMoves) (own := [("length", 4)]) (by decide +kernel)) (src_lst (ee_call L1 hr (ea_cons (ee_var 0) (ea_cons (ee_var 1) ea_nil)) ⟨c, l, by omega, by omega, rfl, rfl⟩)) (by decide)
    (fun _ _ _ _ _ x _ => gt_name 4 scMoves.nd) (fun _ _ _ _ _ x _ => ets_nil) (fun _ _ _ _ _ x _ _ => ee_tup (ea_cons ee_str (ea_cons (ee_var 4) ea_nil)) l2) (line1000 (by omega)) (ys := ((mReqable c l).map Mv.req).map encM) (by rw [filter_yes, List.map_map]; rfl)) (line1000 (by simp only [List.length_map, List.length_range]; omega)))) fun v G6 H6 x6 r6 => ?_)
  rw [← List.map_append] at r6
  exact r6
end
end HG

set_option Elab.async false
set_option linter.all false
set_option maxRecDepth 100000
set_option maxHeartbeats 4000000
/-! The walk: positions. -/
namespace HG
open PySem L2
theorem mEnd_last {l : Lay} {b : Int × Int} (h : l.getLast? = some b) : mEnd l = b.1 + b.2 := by unfold mEnd; rw [h]
theorem at_last {l : Lay} {b : Int × Int} (h : l.getLast? = some b) : atI (l.map encB) (-1) = some (encB b) := by
  have hne : l ≠ [] := fun e => by rw [e] at h; cases h
  have hl : 0 < l.length := List.length_pos_iff.mpr hne
  rw [List.getLast?_eq_getElem?] at h
  unfold atI
  have e : ixN (l.map encB).length (-1) = some (l.length - 1) := by
    unfold ixN
    simp only [List.length_map]
    rw [if_neg (by omega), if_pos (by omega)]
    congr 1
    omega
  rw [e]
  simp [h]
theorem sml_end {l : Lay} (h : Sml l) : 0 ≤ mEnd l ∧ mEnd l ≤ 6 := by
  unfold mEnd
  cases e : l.getLast? with
  | none => exact ⟨by decide, by decide⟩
  | some b =>
    have := h.bl b (List.mem_of_getLast? e)
    simp only
    omega
section
variable {P : Program} {w : World} {K : PySem.W.Frag} {mg : Str → Option Value} {base : Heap} {T : List Addr}
def rPos (C : Addr) (ds : List D) (d : D) : Prop := ∃ (c : Ctr) (ps : List Lay), Cok c ∧ mPos c = some ps ∧ ds = [encC C c] ∧ d = .lst (ps.map encL)
theorem scPos : FnScope ["contract", "found", "grown", "layout", "begin", "start", "length"] ["contract"] (defScope sPos) := ⟨rfl, rfl, rfl, by decide +kernel, rfl, by decide +kernel, by decide +kernel⟩
theorem ok_pos {f C : Addr} {fd : FuncData} (F : Fun K "positions" "positions" sPos f fd) (B : Bt mg) (CF : CtrF K C) (L1 : Dk P w K mg base T 1 "live_cells" rLive) : FnOk P w K mg base CX0 2 f fd ["contract"] (spR P w T (rPos C)) := by
  refine def_ok F scPos (fun ds d h => by obtain ⟨s, l, _, _, rfl, _⟩ := h; rfl) (fun cdv A outer s H E G ds d hr wf h => ?_)
  obtain ⟨c, ps, hc, hps, rfl, rfl⟩ := h
  have hs1 := hc.s1
  have hs2 := hc.s2
  unfold mPos at hps
  cases hout : mPosGo c 60 [[]] [] with
  | none => rw [hout] at hps; cases hps
  | some out =>
  rw [hout] at hps
  have hps' : isort leL out = ps := Option.some.inj hps
  refine sb_cons (s_newL 1 scPos.nd ea_nil (Nat.zero_le _) fun a G1 H1 hn1 ha0 x1 m1 => sb_ext fun xa => ?_)
  refine sb_cons (s_newL 2 scPos.nd (ea_cons (ee_lst ea_nil (Nat.zero_le _)) ea_nil) l1 fun b G2 H2 hn2 hb0 x2 m2 => sb_ext fun xb => ?_)
  have ma : ML _ _ G2 H2 a [] := m1.ex xa.wf x2
  have hab : a ≠ b := m1.ne hn2
  refine sb_cons (s_while (fun m γ' G' H' => ∃ g fo : List Lay, γ' = [.dat (encC C c), .val (.ref a), .val (.ref b), .und, .und, .und, .und] ∧ ML P w G' H' a (fo.map encL) ∧ ML P w G' H' b (g.map encL) ∧ mPosGo c m g fo = some out) 60 ⟨[[]], [], rfl, ma, m2, hout⟩ ?_)
  rintro m γ' G' H' g' x' ⟨g, fo, rfl, mf, mg', hgo⟩
  refine ⟨!(g.map encL).isEmpty, tj_ml 2 rfl x'.wf mg' (et_lst (ee_var 2)), fun hT G3 H3 x3 => ?_, fun hF G3 H3 x3 => ?_⟩
  · cases m with
    | zero => cases hgo
    | succ m =>
    unfold mPosGo at hgo
    cases hlast : g.getLast? with
    | none =>
      rw [List.getLast?_eq_none_iff.mp hlast] at hT
      cases hT
    | some l =>
    rw [hlast] at hgo
    simp only [Bool.and_eq_true, decide_eq_true_eq] at hgo
    split at hgo
    case isFalse => cases hgo
    case isTrue hgd =>
    obtain ⟨⟨hg1, hg2⟩, hg3⟩ := hgd
    have hl := sml_of hg3
    have hll := hl.len
    obtain ⟨he1, he2⟩ := sml_end hl
    have eg : g = g.dropLast ++ [l] := by
      rw [List.getLast?_eq_some_iff] at hlast
      obtain ⟨ys, e⟩ := hlast
      rw [e]; simp
    have mg3 : ML P w G3 H3 b (g.dropLast.map encL ++ [encL l]) := by
      have q := mg'.ex x'.wf x3
      rw [eg, List.map_append] at q
      exact q
    have mf3 := mf.ex x'.wf x3
    refine sb_ext fun xc => sb_cons (s_setPop 3 scPos.nd (ev_var 2) mg3 (.inr hb0) fun G4 H4 x4 m4 => sb_ext fun xd => ?_)
    have mf4 := mf3.ext xc.wf x4 (by simpa using hab)
    refine sb_cons (s_append (d := encL l) (ev_var 1) (EE.vj (ee_var 3)) mf4 (by rw [List.length_map]; exact Nat.lt_of_lt_of_le hg1 (line1000 (by decide))) (.inr ha0) fun G5 H5 x5 m5 => sb_ext fun xe => ?_)
    have mg5 := m4.ext xd.wf x5 (by simpa using hab.symm)
    refine sb_cons (s_set 4 scPos.nd (EE.vj ee_int) fun G6 H6 x6 => sb_ext fun xf => ?_)
    have m6 := m5.ex xe.wf x6
    have mg6 := mg5.ex xe.wf x6
    refine sb_if (fun γ7 G7 H7 => γ7 = [.dat (encC C c), .val (.ref a), .val (.ref b), .dat (encL l), .dat (.int (mEnd l)), .und, .und] ∧ ML P w G7 H7 a ((fo ++ [l]).map encL) ∧ ML P w G7 H7 b (g.dropLast.map encL)) (ET.tj (et_lst (ee_var 3))) (fun hT2 G7 H7 x7 => ?_) (fun hF2 G7 H7 x7 => ?_) ?_
    · have hne : l ≠ [] := fun e => by rw [e] at hT2; cases hT2
      obtain ⟨q, hq⟩ : ∃ q, l.getLast? = some q := (by
        cases e : l.getLast? with
        | none => exact absurd (List.getLast?_eq_none_iff.mp e) hne
        | some q => exact ⟨q, rfl⟩)
      refine sb_ext fun xg => sb_cons (s_set 4 scPos.nd (EE.vj (ee_add (ee_ixT (ee_ixL (ee_var 3) (ee_neg ee_int) (at_last hq)) ee_int rfl) (ee_ixT (ee_ixL (ee_var 3) (ee_neg ee_int) (at_last hq)) ee_int rfl))) fun G8 H8 x8 => sb_nil ⟨?_, ?_, ?_⟩)
      · rw [mEnd_last hq]; rfl
      · rw [List.map_append]
        exact (m6.ex xf.wf x7).ex xg.wf x8
      · exact (mg6.ex xf.wf x7).ex xg.wf x8
    · have hne : l = [] := by
        cases l with
        | nil => rfl
        | cons _ _ => cases hF2
      subst hne
      refine sb_nil ⟨rfl, ?_, mg6.ex xf.wf x7⟩
      rw [List.map_append]
      exact m6.ex xf.wf x7
    · rintro γ7 G7 H7 g7 x7 ⟨rfl, ma7, mb7⟩
      have hmap : (mExt c l).map encL = (rngI (mEnd l) c.size).flatMap fun s => (c.lens.flatMap fun n => (mExt1 c l s n).map encL) := by
        unfold mExt
        simp only [List.map_flatMap]
      have hlen : (g.dropLast.map encL).length + ((rngI (mEnd l) c.size).flatMap fun s => (c.lens.flatMap fun n => (mExt1 c l s n).map encL)).length ≤ 1000 := by
        rw [← hmap, List.length_map, List.length_map, List.length_dropLast]
        omega
      refine sb_cons (s_forApp (xs := rngI (mEnd l) c.size) D.int _ _ (fun s => c.lens.flatMap fun n => (mExt1 c l s n).map encL) (fun G' H' => ML P w G' H' a ((fo ++ [l]).map encL)) 1000 rfl (src_rng2 (ea_cons (ee_var 4) (ea_cons (ee_fld (ee_var 0) CF.cl CF.nSize rfl) ea_nil)) B.range (by omega)) (fun _ _ _ _ wf x m => m.ex wf x) ma7 mb7 hlen x7.wf (fun x _ => gt_name 5 scPos.nd) ?_ ?_)
      · intro s0 hs0 acc G8 H8 g8 x8 j8 m8 hacc
        refine sb_cons (s_forApp (xs := c.lens) D.int _ _ (fun n => (mExt1 c l s0 n).map encL) (fun G' H' => ML P w G' H' a ((fo ++ [l]).map encL)) 1000 rfl (src_lst (ee_fld (ee_var 0) CF.cl CF.nLens rfl)) (fun _ _ _ _ wf x m => m.ex wf x) j8 m8 hacc x8.wf (fun x _ => gt_name 6 scPos.nd) ?_ ?_)
        · intro n hn acc2 G9 H9 g9 x9 j9 m9 hacc2
          refine sb_one (s_if (ET.tj (et_and (et_c c_le (ee_add (ee_var 5) (ee_var 6)) (ee_fld (ee_var 0) CF.cl CF.nSize rfl)) fun _ => et_c c_le (ee_add (ee_call L1 hr (ea_cons (ee_var 3) ea_nil) ⟨l, by omega, rfl, rfl⟩) (ee_var 6)) (ee_fld (ee_var 0) CF.cl CF.nLimit rfl))) (fun hT3 G10 H10 x10 => ?_) (fun hF3 G10 H10 x10 => ?_))
          · have e : mExt1 c l s0 n = [l ++ [(s0, n)]] := by unfold mExt1; rw [if_pos hT3]
            refine sb_ext fun xh => sb_cons (s_append (d := encL (l ++ [(s0, n)])) (ev_var 2) (EE.vj (ee_snocM (xs := l) (x := (s0, n)) (enc := encB) (ee_var 3) (ee_tup (ea_cons (ee_var 5) (ea_cons (ee_var 6) ea_nil)) l2) (by omega))) (m9.ex x9.wf x10) (line100 hacc2) (.inr hb0) fun G11 H11 x11 m11 => sb_forget [6] (sb_nil ⟨rfl, (j9.ex x9.wf x10).ext xh.wf x11 (by simpa using hab), ?_⟩))
            rw [e]; exact m11
          · have e : mExt1 c l s0 n = [] := by unfold mExt1; rw [if_neg (by rw [hF3]; exact Bool.false_ne_true)]
            refine sb_forget [6] (sb_nil ⟨rfl, j9.ex x9.wf x10, ?_⟩)
            rw [e, List.map_nil, List.append_nil]
            exact m9.ex x9.wf x10
        · intro G9 H9 g9 x9 j9 m9
          exact sb_forget [5, 6] (sb_nil ⟨rfl, j9, m9⟩)
      · intro G8 H8 g8 x8 j8 m8
        refine sb_forget [3, 4, 5, 6] (sb_nil ⟨m, Nat.lt_succ_self m, g.dropLast ++ mExt c l, fo ++ [l], rfl, j8, ?_, hgo⟩)
        rw [List.map_append, hmap]
        exact m8
  · have hg : g = [] := by
      cases g with
      | nil => rfl
      | cons _ _ => cases hF
    subst hg
    cases m with
    | zero => cases hgo
    | succ m =>
    unfold mPosGo at hgo
    have e : fo = out := Option.some.inj hgo
    subst e
    refine sb_frz 1 rfl (mf.ex x'.wf x3) ha0 fun vs hv => sb_one (s_ret (EE.vj (ee_sortL (ee_var 1) B.sorted hr.units)) fun v G4 H4 x4 r4 => ?_)
    rw [hps'] at r4
    exact r4
end
end HG

set_option Elab.async false
set_option linter.all false
set_option maxRecDepth 100000
set_option maxHeartbeats 4000000
/-! The walk: Contract, Options. -/
namespace HG
open PySem L2
abbrev sContractI : Stmt := inClass (topS 5) 0
abbrev sOptI : Stmt := inClass (topS 25) 0
abbrev sForced : Stmt := inClass (topS 25) 1

/-! ### objects being made: the frame of __init__ -/
theorem svs_all {P : Program} {w : World} {G : Hp} : ∀ {ns : List Str} {fds : List D} {fs : List (Str × V)}, ns.length = fds.length → SVs P w G fs (ns.zip (fds.map .dat)) → fs.map (·.1) = ns ∧ DRs P w G (fs.map (·.2)) fds
  | [], [], _, _, h => by cases h; exact ⟨rfl, .nil⟩
  | [], _ :: _, _, e, _ => by simp at e
  | _ :: _, [], _, e, _ => by simp at e
  | n :: ns, d :: ds, _, e, h => by
    have h' : SVs P w G _ ((n, SV.dat d) :: ns.zip (ds.map .dat)) := h
    cases h' with
    | dat h1 h2 =>
      obtain ⟨q1, q2⟩ := svs_all (by simpa using e) h2
      exact ⟨by rw [List.map_cons, q1], .cons h1 q2⟩
section
variable {P : Program} {w : World} {K : PySem.W.Frag} {mg : Str → Option Value} {base : Heap} {T : List Addr}
theorem startEnvI {G : Hp} {N : List Str} {x : Addr} {vs : List V} {ds : List D} (h3 : DRs P w G vs ds) : EnvR P w G (L2.start N (.ref x :: vs)) (.val (.ref x) :: (ds.map .dat ++ List.replicate (N.length - (ds.length + 1)) .und)) := by
  have h : DRs P w G (.ref x :: vs) (.scr x none :: ds) := .cons (.scr fun u e => by cases e) h3
  have q := startEnv (N := N) h
  have q2 := q.setV (i := 0) (v := .ref x)
  exact q2
theorem def_okI {x qual : Str} {st : Stmt} {f C : Addr} {fd : FuncData} {N ps ns : List Str} {k : Nat} {R : List D → List D → Prop} (F : Fun K x qual st f fd) (S : FnScope N ps (defScope st)) (len : ∀ ds fds, R ds fds → ds.length + 1 = ps.length ∧ ns.length = fds.length)
    (body : ∀ (cdv : Value) (A : Around) (outer : List Env) (s : Shared) (H : Hp) (E : XK) (G Hc : Hp) (a : Addr) (ds fds : List D), Room k (A.deeper (PyProof.Rows.envOfC qual (defScope st) s.heap.objs.size f cdv)) → WF T G H → R ds fds → Hc a = none → MO P w G H a C [] →
      SB ⟨T, [], G, Hc⟩ (cxOf CX0 P w K mg base N qual (defScope st) f cdv A outer s H E).nox (defBody st) (.val (.ref a) :: (ds.map .dat ++ List.replicate (N.length - (ds.length + 1)) .und)) G H { nx := fun _ G' H' => MO P w G' H' a C (ns.zip (fds.map .dat)) }) :
    FnOk P w K mg base CX0 (k + 1) f fd ps (spI P w T C ns R) := by
  refine F.ok S (fun vs H Q E h => ?_) (fun cdv A outer s H vs Q E hr h => ?_)
  · obtain ⟨ds, fds, G, Hc, y, dx, rest, rfl, h1, _, h3, _⟩ := h
    rw [List.length_cons, h3.length]
    exact (len ds fds h1).1
  · obtain ⟨ds, fds, G, Hc, y, dx, rest, rfl, h1, wf, h3, hy, hdx, ne, rfl, hk⟩ := h
    have x1 : Ext T [] G Hc G (upd Hc dx (.own y)) := Ext.newH wf hdx
    have hy1 : (upd Hc dx (.own y)) y = none := by rw [upd_ne (Ne.symm ne)]; exact hy
    have x2 : Ext T [] G Hc G (upd (upd Hc dx (.own y)) y (.ins C dx [])) := x1.tr (Ext.newH x1.wf hy1)
    refine ⟨_, pb_w, ?_⟩
    refine wb_mono (body cdv A outer s _ E G Hc y ds fds hr x2.wf h1 hy ⟨wf.gn hy, dx, [], upd_same, .nil⟩ (L2.start N (.ref y :: rest)) x2 (startEnvI h3)) (fun σ' H' q => ?_) (fun v H' q => ?_) (fun σ' H' q => ?_) (fun σ' H' q => ?_)
    · obtain ⟨γ', G', g', x', env', g0, dx', fs, e, sv⟩ := q
      obtain ⟨q1, q2⟩ := svs_all (len ds fds h1).2 sv
      have xf := x'.frz e g0 hy (fun ps z => by cases z)
      refine hk _ H' xf ?_
      have := DR.obj (P := P) (w := w) (G := upd G' y (.ins C dx' fs)) upd_same (q2.up (sub_upd g0))
      rw [q1] at this
      exact this
    · obtain ⟨G', g', x', q⟩ := q
      exact q.elim
    · obtain ⟨γ', G', g', x', env', e⟩ := q
      exact e.elim
    · obtain ⟨γ', G', g', x', env', e⟩ := q
      exact e.elim

def nsC : List Str := ["size", "limit", "lengths", "budget"]
def rContract (ds fds : List D) : Prop := ∃ c : Ctr, ds = [.int c.size, .int c.limit, .lst (c.lens.map .int), .int c.budget] ∧ fds = [.int c.size, .int c.limit, .lst (c.lens.map .int), .int c.budget]
theorem scContractI : FnScope ["self", "size", "limit", "lengths", "budget"] ["self", "size", "limit", "lengths", "budget"] (defScope sContractI) := ⟨rfl, rfl, rfl, by decide +kernel, rfl, by decide +kernel, by decide +kernel⟩
theorem ok_contractI {f C : Addr} {fd : FuncData} (F : Fun K "__init__" "Contract.__init__" sContractI f fd) (B : Bt mg) (CF : CtrF K C) : FnOk P w K mg base CX0 1 f fd ["self", "size", "limit", "lengths", "budget"] (spI P w T C ["size", "limit", "lengths", "budget"] rContract) := by
  refine def_okI F scContractI (fun ds fds h => by obtain ⟨c, rfl, rfl⟩ := h; exact ⟨rfl, rfl⟩) (fun cdv A outer s H E G Hc a ds fds hr wf h ha m0 => ?_)
  obtain ⟨c, rfl, rfl⟩ := h
  refine sb_cons (s_fld (fun _ _ => ev_var 0) (EE.vj (ee_var 1)) m0 CF.cl CF.nSize (by decide) (by decide) (.inr ha) fun G1 H1 x1 m1 => ?_)
  refine sb_cons (s_fld (fun _ _ => ev_var 0) (EE.vj (ee_var 2)) m1 CF.cl CF.nLimit (show _ ∉ (["size"] : List Str) by decide) (show 1 < 1000 by decide) (.inr ha) fun G2 H2 x2 m2 => ?_)
  refine sb_cons (s_fld (fun _ _ => ev_var 0) (EE.vj (ee_list (ee_var 3) B.list)) m2 CF.cl CF.nLens (show _ ∉ (["size", "limit"] : List Str) by decide) (show 2 < 1000 by decide) (.inr ha) fun G3 H3 x3 m3 => ?_)
  exact sb_one (s_fld (fun _ _ => ev_var 0) (EE.vj (ee_var 4)) m3 CF.cl CF.nBudget (show _ ∉ (["size", "limit", "lengths"] : List Str) by decide) (show 3 < 1000 by decide) (.inr ha) fun G4 H4 x4 m4 => m4)

/-! ### the layouts as keys -/
def nkb (b : Int × Int) : NestedKey := .tup [.num b.1, .num b.2]
def nk (l : Lay) : NestedKey := .tup (l.map nkb)
abbrev encLT (l : Lay) : D := .tup (l.map encB)
theorem kr_b {G : Hp} {v : V} {b : Int × Int} (h : DR P w G v (encB b)) : KR G v (nkb b) := by
  obtain ⟨a, xs, rfl, g1, q1⟩ := dr_tup h
  obtain ⟨v, u, rfl, r1, r2⟩ := drs2 q1
  rw [dr_int r1, dr_int r2] at g1
  exact .tup g1 (.cons (.num _) (.cons (.num _) .nil))
theorem krs_b {G : Hp} : ∀ {l : Lay} {vs : List V}, DRs P w G vs (l.map encB) → KRs G vs (l.map nkb)
  | [], _, h => by cases h; exact .nil
  | b :: l, _, h => by
    cases h with
    | cons h1 h2 => exact .cons (kr_b h1) (krs_b h2)
theorem depth_nkbs : ∀ l : Lay, NestedKey.depthAll (l.map nkb) ≤ 1
  | [] => by simp [NestedKey.depthAll]
  | b :: l => by
    have := depth_nkbs l
    simp only [List.map_cons, NestedKey.depthAll, nkb, NestedKey.depth]
    omega
theorem depth_nk (l : Lay) : (nk l).depth ≤ 2 := by
  have := depth_nkbs l
  simp only [nk, NestedKey.depth]
  omega
theorem kd_lay (l : Lay) : KD (encLT l) (nk l) := ⟨fun P w G v h => by
  obtain ⟨a, xs, rfl, g1, q1⟩ := dr_tup h
  exact ⟨a, rfl, .tup g1 (krs_b q1)⟩, Nat.le_trans (depth_nk l) (by decide)⟩
theorem nkb_inj {a b : Int × Int} (h : nkb a = nkb b) : a = b := by
  simp only [nkb, NestedKey.tup.injEq, List.cons.injEq, NestedKey.num.injEq] at h
  exact Prod.ext h.1 h.2.1
theorem nk_inj {a b : Lay} (h : nk a = nk b) : a = b := by
  simp only [nk, NestedKey.tup.injEq] at h
  exact List.map_inj_right (fun x y e => nkb_inj e) |>.mp h
theorem nk_mem {l : Lay} {ls : List Lay} : decide (nk l ∈ ls.map nk) = decide (l ∈ ls) := by
  rw [decide_eq_decide]
  exact ⟨fun h => by
    obtain ⟨y, hy, e⟩ := List.mem_map.mp h
    rw [← nk_inj e]; exact hy, fun h => List.mem_map.mpr ⟨l, h, rfl⟩⟩

/-! ### loops that end at the first hit -/
theorem s_forFind {N : En} {X : Cx} {γ : List SV} {G H : Hp} {E : EndD} {pos : Pos} {α : Type} {xs : List α} {tg iter : Expr} {body : List Stmt} (enc : α → D) (js : List Nat) (B : α → List SV) (p : α → Bool) (hc : X.calm = true) (hi : Src N.T X tg iter γ (xs.map enc)) (hg : ∀ x ∈ xs, GT N.T X tg js (enc x) γ (B x))
    (hb : ∀ (i : Nat) (x : α), xs[i]? = some x → (∀ y ∈ xs.take i, p y = false) → ∀ G' H', Sub G G' → Ext N.T N.M N.G0 N.H0 G' H' → SB N X body (B x) G' H' { nx := fun γ'' _ _ => γ'' = γ ∧ p x = false, rt := E.rt })
    (k : (∀ y ∈ xs, p y = false) → ∀ G' H', Sub G G' → Ext N.T N.M N.G0 N.H0 G' H' → E.nx γ G' H') (hp : PassesOwn (model X.prog X.w) X.A X.env X.xe := by exact PassesOwn.never) (hf : ∀ x, foldedSetIterable iter X.env x = pure x := by intro _; rfl) :
    S1 N X (.For tg iter body [] pos) γ G H E := by
  have hlen : (xs.map enc).length = xs.length := List.length_map ..
  refine s_for hc hi (fun i γ' _ _ => γ' = γ ∧ ∀ y ∈ xs.take i, p y = false) (fun G' H' x => ⟨rfl, fun y hy => by simp at hy⟩) ?_ ?_ hp hf
  · rintro i d γ' G' H' hd g' x' ⟨rfl, j⟩ G2 H2 x2
    rw [List.getElem?_map] at hd
    cases hx : xs[i]? with
    | none => rw [hx] at hd; cases hd
    | some x =>
      rw [hx] at hd
      cases hd
      have hmem := List.mem_of_getElem? hx
      refine ⟨js, B x, hg x hmem, ?_⟩
      refine sb_mono (hb i x hx j G2 H2 (fun b o z => x2.g _ _ (g' _ _ z)) (x'.tr x2)) (fun γ'' G'' H'' _ _ q => ?_) (fun _ _ _ _ q => q) (fun _ _ _ q => q.elim) (fun _ _ _ q => q.elim)
      obtain ⟨e1, q2⟩ := q
      refine ⟨e1, fun y hy => ?_⟩
      have e : xs.take (i + 1) = xs.take i ++ [x] := by rw [List.take_add_one, hx]; rfl
      rw [e] at hy
      rcases List.mem_append.mp hy with z | z
      · exact j y z
      · rw [List.mem_singleton.mp z]; exact q2
  · rintro γ' G' H' g' x' ⟨rfl, j⟩
    rw [hlen, List.take_length] at j
    exact k j G' H' g' x'

/-! ### Options -/
abbrev encOpt (C : Addr) (o : Opt) : D := .obj C ["released", "answered"] [.lst (o.1.map encLT), .lst (o.2.map fun ls => .lst (ls.map encLT))]
structure OptF (K : PySem.W.Frag) (C : Addr) : Prop where
  cl : Cls K C
  nR : NoAttr K C "released"
  nA : NoAttr K C "answered"
def rForced (C : Addr) (ds : List D) (d : D) : Prop := ∃ (o : Opt) (won : List Lay) (vs : List D), (∀ ls ∈ o.2, ls.length ≤ 1000) ∧ ds = [encOpt C o, .dic (won.map nk) vs] ∧ d = .bl (mForced o won)
theorem scForced : FnScope ["self", "won", "layout", "layouts"] ["self", "won"] (defScope sForced) := ⟨rfl, rfl, rfl, by decide +kernel, rfl, by decide +kernel, by decide +kernel⟩
theorem ok_forced {f C : Addr} {fd : FuncData} (F : Fun K "forced" "Options.forced" sForced f fd) (B : Bt mg) (OF : OptF K C) : FnOk P w K mg base CX0 1 f fd ["self", "won"] (spR P w T (rForced C)) := by
  refine def_ok F scForced (fun ds d h => by obtain ⟨s, l, n, _, rfl, _⟩ := h; rfl) (fun cdv A outer s H E G ds d hr wf h => ?_)
  obtain ⟨o, won, vs, hz, rfl, rfl⟩ := h
  refine sb_cons (s_forFind (xs := o.1) encLT _ _ (fun l => decide (l ∈ won)) rfl (src_lst (ee_fld (ee_var 0) OF.cl OF.nR rfl)) (fun x _ => gt_name 2 scForced.nd) (fun i x hx hpre G' H' g' x' => ?_) fun hno G' H' g' x' => ?_)
  · refine sb_one (s_if (ET.tj (et_c (c_inN hr.units (kd_lay x)) (ee_var 2) (ee_var 1))) (fun hT G3 H3 x3 => ?_) (fun hF G3 H3 x3 => sb_forget [2] (sb_nil ⟨rfl, ?_⟩)))
    · refine sb_one (s_ret (EE.vj ee_bl) fun v G4 H4 x4 r4 => ?_)
      rw [nk_mem] at hT
      have e : mForced o won = true := by
        unfold mForced
        rw [Bool.or_eq_true, List.any_eq_true]
        exact .inl ⟨x, List.mem_of_getElem? hx, hT⟩
      rw [e]; exact r4
    · rw [nk_mem] at hF; exact hF
  · have e1 : o.1.any (fun l => decide (l ∈ won)) = false := by
      rw [List.any_eq_false]
      intro x hx
      rw [hno x hx]; exact Bool.false_ne_true
    refine sb_cons (s_forFind (xs := o.2) (fun ls => .lst (ls.map encLT)) _ _ (fun ls => ls.all fun l => decide (l ∈ won)) rfl (src_lst (ee_fld (ee_var 0) OF.cl OF.nA rfl)) (fun x _ => gt_name 3 scForced.nd) (fun i ls hx hpre G' H' g' x' => ?_) fun hno2 G' H' g' x' => ?_)
    · have hmem := List.mem_of_getElem? hx
      have eall : (ls.map fun l => decide (l ∈ won)).all id = ls.all fun l => decide (l ∈ won) := by rw [List.all_map]; rfl
      refine sb_one (s_if (b := ls.all fun l => decide (l ∈ won)) (ET.tj (et_ee (eall ▸ ee_all (ns := ls.map fun l => decide (l ∈ won)) (ee_lc (xs := ls) encLT _ _ (fun _ => true) (fun l => .bl (decide (nk l ∈ won.map nk))) rfl scForced.nd (blkOk_by (N := ["self", "won", "layout", "layouts"]) (sc := defScope sForced) (own := [("layout", 2)]) (by decide +kernel)) (src_lst (ee_var 3)) (by decide)
        (fun _ _ _ _ _ x _ => gt_name 2 scForced.nd) (fun _ _ _ _ _ x _ => ets_nil) (fun _ _ _ _ _ x _ _ => ee_c (c_inN hr.units (kd_lay x)) (ee_var 2) (ee_var 1)) (line1000 (hz ls hmem)) ?_) rfl B.all))) (fun hT G3 H3 x3 => ?_) (fun hF G3 H3 x3 => sb_forget [3] (sb_nil ⟨rfl, hF⟩)))
      · refine sb_one (s_ret (EE.vj ee_bl) fun v G4 H4 x4 r4 => ?_)
        have e : mForced o won = true := by
          unfold mForced
          rw [Bool.or_eq_true, List.any_eq_true, List.any_eq_true]
          exact .inr ⟨ls, hmem, hT⟩
        rw [e]; exact r4
      · rw [filter_yes, List.map_map]
        congr 1
        funext l
        simp only [nk_mem, Function.comp]
    · refine sb_one (s_ret (EE.vj ee_bl) fun v G4 H4 x4 r4 => ?_)
      have e : mForced o won = false := by
        unfold mForced
        rw [e1, Bool.false_or, List.any_eq_false]
        intro x hx
        rw [hno2 x hx]; exact Bool.false_ne_true
      rw [e]; exact r4
end
end HG

set_option Elab.async false
set_option linter.all false
set_option maxRecDepth 100000
set_option maxHeartbeats 4000000
/-! The walk: Options.__init__, Game.__init__. -/
namespace HG
open PySem L2
abbrev sGameI : Stmt := inClass (topS 26) 0
/-! ### equal to an empty list -/
def okD (d : D) : Prop := flatD d = true ∧ (pd d).canLay0 = true ∧ (pd d).depth ≤ 20
theorem canAll {α : Type} (f : α → PyData) (h : ∀ x, (f x).canLay0 = true) : ∀ xs : List α, PyData.canLayAll0 (xs.map f) = true
  | [] => by simp [PyData.canLayAll0]
  | x :: xs => by simp [PyData.canLayAll0, h, canAll f h xs]
theorem ok_seq {α : Type} {f : α → D} (h : ∀ x, flatD (f x) = true ∧ (pd (f x)).canLay0 = true ∧ (pd (f x)).depth ≤ 10) (xs : List α) : (flatDs (xs.map f) = true ∧ PyData.canLayAll0 (pds (xs.map f)) = true) ∧ PyData.depthAll (pds (xs.map f)) ≤ 10 := by
  refine ⟨⟨flatDs_map f (fun x => (h x).1) xs, ?_⟩, ?_⟩
  · rw [pds_map, List.map_map]; exact canAll _ (fun x => (h x).2.1) xs
  · rw [pds_map, List.map_map]; exact depthAll_map _ 10 (fun x => (h x).2.2) xs
theorem ok_b (b : Int × Int) : flatD (encB b) = true ∧ (pd (encB b)).canLay0 = true ∧ (pd (encB b)).depth ≤ 10 := ⟨rfl, by simp [pd, pds, PyData.canLay0, PyData.canLayAll0], Nat.le_trans (depth_b b) (by decide)⟩
theorem ok_lt (l : Lay) : flatD (encLT l) = true ∧ (pd (encLT l)).canLay0 = true ∧ (pd (encLT l)).depth ≤ 10 := by
  obtain ⟨⟨h1, h2⟩, h3⟩ := ok_seq ok_b l
  refine ⟨by simpa [flatD] using h1, by simpa [pd, PyData.canLay0] using h2, ?_⟩
  rw [show pd (encLT l) = .tuple (l.map fun b => pd (encB b)) by show PyData.tuple (pds (l.map encB)) = _; rw [pds_map, List.map_map]; rfl]
  have := depthAll_map (fun b => pd (encB b)) 1 depth_b l
  simp only [PyData.depth]
  omega
theorem ok_lts (ls : List Lay) : flatD (.lst (ls.map encLT)) = true ∧ (pd (.lst (ls.map encLT))).canLay0 = true ∧ (pd (.lst (ls.map encLT))).depth ≤ 11 := by
  obtain ⟨⟨h1, h2⟩, h3⟩ := ok_seq ok_lt ls
  refine ⟨by simpa [flatD] using h1, by simpa [pd, PyData.canLay0] using h2, ?_⟩
  simp only [pd, PyData.depth]
  omega
theorem eqv_nil (xs : List PyData) : PyData.eqv (.list xs) (.list []) = xs.isEmpty := by
  cases xs <;> simp [PyData.eqv, PyData.eqvAll]
theorem pds_isEmpty (ds : List D) : (pds ds).isEmpty = ds.isEmpty := by cases ds <;> rfl
theorem c_neNil {T : List Addr} {X : Cx} {ds : List D} (hu : X.A.units + 64 < cLine) (h : flatD (.lst ds) = true ∧ (pd (.lst ds)).canLay0 = true ∧ (pd (.lst ds)).depth ≤ 60) : CmpD T X .NotEq (.lst ds) (.lst []) (!ds.isEmpty) := ⟨_, op_neD hu, fun v u G H Q wf r1 r2 k => by
  refine ⟨pd (.lst ds), .list [], dr_dp wf.sub _ _ h.1 r1, dr_dp wf.sub (.lst []) _ rfl r2, ?_, ?_, ?_⟩
  · unfold SeqAt.shaped
    rw [h.2.1, Bool.true_and, decide_eq_true_eq]
    omega
  · simp [SeqAt.shaped, PyData.canLay0, PyData.canLayAll0, PyData.depth, PyData.depthAll]
  · rw [show pd (.lst ds) = .list (pds ds) from rfl, eqv_nil, pds_isEmpty]
    exact k _ _ (Ext.refl wf)⟩
theorem c_eqNil {T : List Addr} {X : Cx} {ds : List D} (hu : X.A.units + 64 < cLine) (h : flatD (.lst ds) = true ∧ (pd (.lst ds)).canLay0 = true ∧ (pd (.lst ds)).depth ≤ 60) : CmpD T X .Eq (.lst ds) (.lst []) ds.isEmpty := ⟨_, op_eqD hu, fun v u G H Q wf r1 r2 k => by
  refine ⟨pd (.lst ds), .list [], dr_dp wf.sub _ _ h.1 r1, dr_dp wf.sub (.lst []) _ rfl r2, ?_, ?_, ?_⟩
  · unfold SeqAt.shaped
    rw [h.2.1, Bool.true_and, decide_eq_true_eq]
    omega
  · simp [SeqAt.shaped, PyData.canLay0, PyData.canLayAll0, PyData.depth, PyData.depthAll]
  · rw [show pd (.lst ds) = .list (pds ds) from rfl, eqv_nil, pds_isEmpty]
    exact k _ _ (Ext.refl wf)⟩

/-! ### what stands still for good, with no slot -/
section
variable {N : En} {X : Cx} {γ : List SV} {G H : Hp} {E : EndD} {rest : List Stmt}
theorem sb_frzN {l : Addr} {o : HO} (hl : H l = some o) (hg : G l = none) (h0 : N.H0 l = none) (no : ∀ ps, o ≠ .tbl ps) (h : SB N X rest γ (upd G l o) H E) : SB N X rest γ G H E := fun σ x env =>
  wb_up (sub_upd hg) (h σ (x.frz hl hg h0 no) (env.up (sub_upd hg)))
theorem kd_nk (l : Lay) : kd (nk l) = encLT l := by
  have e : ∀ l : Lay, kds (l.map nkb) = l.map encB := by
    intro l
    induction l with
    | nil => rfl
    | cons b l ih => rw [List.map_cons, kds, ih]; rfl
  show D.tup (kds (l.map nkb)) = _
  rw [e]
theorem dlook_map {ps : List Lay} {g : Lay → D} {l : Lay} (h : l ∈ ps) : dlook (ps.map nk) (ps.map g) (nk l) = some (g l) := by
  unfold dlook
  rw [List.zip_map', List.find?_map]
  have : ∃ y, ps.find? ((fun p : NestedKey × D => decide (p.1 = nk l)) ∘ fun x => (nk x, g x)) = some y ∧ y = l := by
    cases e : ps.find? ((fun p : NestedKey × D => decide (p.1 = nk l)) ∘ fun x => (nk x, g x)) with
    | none =>
      have := List.find?_eq_none.mp e l h
      simp at this
    | some y =>
      have := List.find?_some e
      simp only [Function.comp, decide_eq_true_eq] at this
      exact ⟨y, rfl, nk_inj this⟩
  obtain ⟨y, e, rfl⟩ := this
  rw [e]; rfl
end

section
variable {P : Program} {w : World} {K : PySem.W.Frag} {mg : Str → Option Value} {base : Heap} {T : List Addr}
def rOpt (C : Addr) (ds fds : List D) : Prop := ∃ (c : Ctr) (l : Lay), Cok c ∧ Sml l ∧ ds = [encC C c, encL l] ∧ fds = [.lst ((mOpt c l).1.map encLT), .lst ((mOpt c l).2.map fun ls => .lst (ls.map encLT))]
theorem scOptI : FnScope ["self", "contract", "layout", "index", "length", "found", "reply"] ["self", "contract", "layout"] (defScope sOptI) := ⟨rfl, rfl, rfl, by decide +kernel, rfl, by decide +kernel, by decide +kernel⟩
theorem ok_optI {f C O : Addr} {fd : FuncData} (F : Fun K "__init__" "Options.__init__" sOptI f fd) (B : Bt mg) (OF : OptF K O) (L1 : Dk P w K mg base T 1 "without" rWithout) (L2' : Dk P w K mg base T 2 "requestable" (rReqable C)) (L3 : Dk P w K mg base T 5 "replies" (rReplies C)) (L4 : Dk P w K mg base T 3 "after_reply" rAfter) :
    FnOk P w K mg base CX0 6 f fd ["self", "contract", "layout"] (spI P w T O ["released", "answered"] (rOpt C)) := by
  refine def_okI F scOptI (fun ds fds h => by obtain ⟨c, l, _, _, rfl, rfl⟩ := h; exact ⟨rfl, rfl⟩) (fun cdv A outer s H E G Hc a ds fds hr wf h ha m0 => ?_)
  obtain ⟨c, l, hc, hl, rfl, rfl⟩ := h
  have hll := hl.len
  have hcl := hc.ll
  have hrl := reqable_le (l := l) hc
  refine sb_cons (s_fld (d := .lst ((mOpt c l).1.map encLT)) (fun _ _ => ev_var 0) (EE.vj (ee_lc (xs := rngI 0 (l.length : Int)) D.int _ _ (fun _ => true) (fun i => encLT (mWithout l i.toNat)) rfl scOptI.nd (blkOk_by (N := ["self", "contract", "layout", "index", "length", "found", "reply"]) (sc := defScope sOptI) (own := [("index", 3)]) (by decide +kernel)) (src_rng1 (ea_cons (ee_lenM (ee_var 2) B.len) ea_nil) B.range (by omega) (by omega)) (by decide)
    (fun _ _ _ _ _ x _ => gt_name 3 scOptI.nd) (fun _ _ _ _ _ x _ => ets_nil) (fun _ _ _ _ _ x hx _ => ee_tuple (ee_call (L1.mono (by decide)) hr (ea_cons (ee_var 2) (ea_cons (ee_var 3) ea_nil)) ⟨l, x.toNat, by omega, (by
      rw [rng_nat] at hx
      obtain ⟨i, _, rfl⟩ := List.mem_map.mp hx
      rfl), rfl⟩) B.tuple) (line1000 (by rw [rngI_len]; omega)) (by
      rw [filter_yes, rng_nat, List.map_map]
      unfold mOpt
      rw [List.map_map]; rfl))) m0 OF.cl OF.nR (by decide) (by decide) (.inr ha) fun G1 H1 x1 m1 => ?_)
  refine sb_ext fun xa => sb_cons (s_fldL (fun _ _ => ev_var 0) m1 OF.cl OF.nA (show _ ∉ (["released"] : List Str) by decide) (show 1 < 1000 by decide) (.inr ha) fun ll G2 H2 x2 hn hn0 hne ml2 m2 => sb_ext fun xb => ?_)
  refine sb_cons (s_forApp (xs := mReqable c l) D.int _ _ (fun n => [.lst (((mReplies c l n).map (mAfter l n)).map encLT)]) (fun G' H' => MO P w G' H' a O [("released", .dat (.lst ((mOpt c l).1.map encLT))), ("answered", .val (.ref ll))]) 1000 rfl (src_lst (ee_call (L2'.mono (by decide)) hr (ea_cons (ee_var 1) (ea_cons (ee_var 2) ea_nil)) ⟨c, l, by omega, by omega, rfl, rfl⟩)) (fun _ _ _ _ wf x m => m.ext wf x (by simp)) m2 ml2 ?_ xb.wf (fun x _ => gt_name 4 scOptI.nd) ?_ ?_)
  · have h1 := flatMap_le (xs := mReqable c l) (f := fun n => [D.lst (((mReplies c l n).map (mAfter l n)).map encLT)]) (k := 1) fun n _ => by simp
    show 0 + _ ≤ 1000
    omega
  · intro n hn3 acc G3 H3 g3 x3 m3 ml3 hacc
    have hn1 := (mem_reqable hc hn3).1
    have hrep := replies_le hc hl hn1
    refine sb_cons (s_set 5 scOptI.nd (EE.vj (ee_call L3 hr (ea_cons (ee_var 1) (ea_cons (ee_var 2) (ea_cons (ee_var 4) ea_nil))) ⟨c, l, n, hc, hl, hn3, rfl, rfl⟩)) fun G4 H4 x4 => sb_ext fun xd => ?_)
    have m4 := m3.ext x3.wf x4 (by simp)
    obtain ⟨_, dx4, fs4, e4, sv4⟩ := id m4
    refine sb_cons (s_append (d := .lst (((mReplies c l n).map (mAfter l n)).map encLT)) (ev_fld (ev_var 0) e4 OF.cl OF.nA (SVs.lookV sv4 (by rfl))) (EE.vj (ee_lc (xs := mReplies c l n) encRep _ _ (fun _ => true) (fun r => encLT (mAfter l n r)) rfl scOptI.nd (blkOk_by (N := ["self", "contract", "layout", "index", "length", "found", "reply"]) (sc := defScope sOptI) (own := [("reply", 6)]) (by decide +kernel)) (src_lst (ee_var 5)) (by decide)
      (fun _ _ _ _ _ x _ => gt_name 6 scOptI.nd) (fun _ _ _ _ _ x _ => ets_nil) (fun _ _ _ _ _ x hx _ => ee_tuple (ee_call (L4.mono (by decide)) hr (ea_cons (ee_var 2) (ea_cons (ee_var 4) (ea_cons (ee_var 6) ea_nil))) ⟨l, n, x, by omega, rfl, rfl⟩) B.tuple) (line1000 (by omega)) (by rw [filter_yes, List.map_map]; rfl))) (ml3.ex x3.wf x4) (line100 hacc) (.inr hn0) fun G5 H5 x5 m5 => sb_forget [4, 5] (sb_nil ⟨rfl, m4.ext xd.wf x5 (by simpa using hne.symm), m5⟩))
  · rintro G3 H3 g3 x3 ⟨gx, dx, fs, ex, sv⟩ ⟨gl, vs, el, rl⟩
    refine sb_frzN el gl hn0 (fun ps z => by cases z) (sb_nil ⟨?_, dx, fs, ex, ?_⟩)
    · rw [upd_ne hne.symm]; exact gx
    · cases sv with
      | dat d1 s1 =>
        cases s1 with
        | val s2 =>
          cases s2
          refine .dat (d1.up (sub_upd gl)) (.dat (.lst upd_same ?_) .nil)
          have e : (mReqable c l).flatMap (fun n => [D.lst (((mReplies c l n).map (mAfter l n)).map encLT)]) = ((mOpt c l).2.map fun ls => D.lst (ls.map encLT)) := by
            unfold mOpt
            rw [List.map_map]
            induction (mReqable c l) with
            | nil => rfl
            | cons n ns ih => rw [List.flatMap_cons, ih]; rfl
          have q := rl.up (sub_upd (o := .lst vs) gl)
          rw [e] at q
          exact q
end
end HG

set_option Elab.async false
set_option linter.all false
set_option maxRecDepth 100000
set_option maxHeartbeats 4000000
/-! The walk: Game.__init__. -/
namespace HG
open PySem L2
abbrev encRk (r : Rk) : D := .dic (r.map fun p => nk p.1) (r.map fun p => .int p.2)
abbrev encGm (Gm C : Addr) (c : Ctr) (r : Rk) : D := .obj Gm ["contract", "ranks"] [encC C c, encRk r]
structure GmF (K : PySem.W.Frag) (C : Addr) : Prop where
  cl : Cls K C
  nC : NoAttr K C "contract"
  nR : NoAttr K C "ranks"
theorem rk_won (r : Rk) : (r.map fun p => nk p.1) = (mWon r).map nk := by unfold mWon; rw [List.map_map]; rfl
theorem opts_le {c : Ctr} {l : Lay} (hc : Cok c) (hl : Sml l) : ∀ ls ∈ (mOpt c l).2, ls.length ≤ 1000 := by
  intro ls h
  unfold mOpt at h
  obtain ⟨n, hn, rfl⟩ := List.mem_map.mp h
  have := replies_le hc hl (mem_reqable hc hn).1
  rw [List.length_map]
  omega
theorem fresh_sub {os : List (Lay × Opt)} {r : Rk} {l : Lay} (h : l ∈ mFresh os r) : l ∉ mWon r := by
  unfold mFresh at h
  obtain ⟨p, hp, rfl⟩ := List.mem_map.mp h
  have := (List.mem_filter.mp hp).2
  simp only [Bool.and_eq_true, Bool.not_eq_true', decide_eq_false_iff_not] at this
  exact this.1
theorem map_snoc {α β : Type} (f : α → β) (xs : List α) (y : α) : (xs ++ [y]).map f = xs.map f ++ [f y] := by rw [List.map_append]; rfl
theorem flatMap_if {α β : Type} (p : α → Bool) (f : α → β) : ∀ xs : List α, (xs.flatMap fun x => if p x then [f x] else []) = (xs.filter p).map f
  | [] => rfl
  | x :: xs => by
    rw [List.flatMap_cons, flatMap_if p f xs, List.filter_cons]
    cases p x <;> rfl
theorem MO.upG {P : Program} {w : World} {G H : Hp} {a C l : Addr} {o : HO} {ss : List (Str × SV)} (h : MO P w G H a C ss) (hl : G l = none) (ne : a ≠ l) : MO P w (upd G l o) H a C ss := by
  obtain ⟨q1, q2, q3, q4, q5⟩ := h
  exact ⟨by rw [upd_ne ne]; exact q1, q2, q3, q4, q5.up (sub_upd hl)⟩
theorem MD.upG {P : Program} {w : World} {G H : Hp} {a l : Addr} {o : HO} {ks : List NestedKey} {ds : List D} (h : MD P w G H a ks ds) (hl : G l = none) (ne : a ≠ l) : MD P w (upd G l o) H a ks ds := by
  obtain ⟨q1, q2, q3, q4, q5, q6, q7, q8, q9⟩ := h
  exact ⟨by rw [upd_ne ne]; exact q1, q2, q3, q4, q5, q6.mono (sub_upd hl), q7, q8, q9.up (sub_upd hl)⟩
theorem fresh_opts (c : Ctr) (ps : List Lay) (r : Rk) : mFresh (mOpts c ps) r = ps.filter fun l => !decide (l ∈ mWon r) && mForced (mOpt c l) (mWon r) := by
  unfold mFresh mOpts
  rw [List.filter_map, List.map_map]
  exact List.map_id _
theorem fresh_nd {c : Ctr} {ps : List Lay} {r : Rk} (h : ps.Nodup) : (mFresh (mOpts c ps) r).Nodup := by
  rw [fresh_opts]
  exact h.sublist List.filter_sublist
section
variable {P : Program} {w : World} {K : PySem.W.Frag} {mg : Str → Option Value} {base : Heap} {T : List Addr}
def rGame (C : Addr) (ds fds : List D) : Prop := ∃ (c : Ctr) (ps : List Lay) (r : Rk), Cok c ∧ mPos c = some ps ∧ (∀ l ∈ ps, Sml l) ∧ ps.Nodup ∧ ps.length ≤ 500 ∧ mRanksGo (mOpts c ps) 40 0 [] = some r ∧ ds = [encC C c] ∧ fds = [encC C c, encRk r]
theorem scGameI : FnScope ["self", "contract", "options", "layout", "number", "grown", "fresh"] ["self", "contract"] (defScope sGameI) := ⟨rfl, rfl, rfl, by decide +kernel, rfl, by decide +kernel, by decide +kernel⟩
theorem MD.len {G H : Hp} {l : Addr} {ks : List NestedKey} {ds : List D} (h : MD P w G H l ks ds) : ds.length = ks.length := by
  obtain ⟨_, o, xs, vs, _, _, rfl, r1, r2⟩ := h
  rw [← r2.length, r1.length, List.length_map, List.length_map]
theorem ok_gameI {f C O Gm : Addr} {fd : FuncData} (F : Fun K "__init__" "Game.__init__" sGameI f fd) (B : Bt mg) (GF : GmF K Gm) (OF : OptF K O) (L1 : Dk P w K mg base T 2 "positions" (rPos C)) (L2' : Ck P w K mg base T 6 "Options" O ["released", "answered"] (rOpt C)) (L3 : Mk2 P w K mg base T 1 O "forced" (rForced O)) :
    FnOk P w K mg base CX0 8 f fd ["self", "contract"] (spI P w T Gm ["contract", "ranks"] (rGame C)) := by
  refine def_okI F scGameI (fun ds fds h => by obtain ⟨c, l, _, _, _, _, _, _, _, rfl, rfl⟩ := h; exact ⟨rfl, rfl⟩) (fun cdv A outer s H E G Hc a ds fds hr wf h ha m0 => ?_)
  obtain ⟨c, ps, r, hc, hps, hsm, hnd, hle, hgo, rfl, rfl⟩ := h
  refine sb_cons (s_fld (d := encC C c) (fun _ _ => ev_var 0) (EE.vj (ee_var 1)) m0 GF.cl GF.nC (by decide) (by decide) (.inr ha) fun G1 H1 x1 m1 => ?_)
  refine sb_ext fun xa => sb_cons (s_fldD (fun _ _ => ev_var 0) m1 GF.cl GF.nR (show _ ∉ (["contract"] : List Str) by decide) (show 1 < 1000 by decide) (.inr ha) fun rr G2 H2 x2 hn hn0 hne mr2 m2 => sb_ext fun xb => ?_)
  refine sb_cons (s_newD 2 scGameI.nd fun oo H3 ho ho0 x3 mo3 => sb_ext fun xc => ?_)
  have m3 := m2.ext xb.wf x3 (by simp)
  have mr3 := mr2.ex xb.wf x3
  have hro : rr ≠ oo := fun e => by
    obtain ⟨_, o', _, _, e1, _⟩ := mr2
    rw [e, ho] at e1; cases e1
  have hao : a ≠ oo := fun e => by
    obtain ⟨_, _, _, e1, _⟩ := m2
    rw [e, ho] at e1; cases e1
  refine sb_cons (s_for rfl (src_lst (ee_call (L1.mono (by decide)) hr (ea_cons (ee_var 1) ea_nil) ⟨c, ps, hc, hps, rfl, rfl⟩)) (fun i γ' G' H' => γ' = [.val (.ref a), .dat (encC C c), .val (.ref oo), .und, .und, .und, .und] ∧ MO P w G' H' a Gm [("contract", .dat (encC C c)), ("ranks", .val (.ref rr))] ∧ MD P w G' H' rr [] [] ∧ MD P w G' H' oo ((ps.take i).map nk) ((ps.take i).map fun l => encOpt O (mOpt c l)))
    (fun G' H' x' => ⟨rfl, m3.ext xc.wf x' (by simp), mr3.ex xc.wf x', mo3.ex xc.wf x'⟩) ?_ ?_)
  · rintro i d γ' G' H' hd g' x' ⟨rfl, mm, mr, mo⟩ G4 H4 x4
    rw [List.getElem?_map] at hd
    cases hb : ps[i]? with
    | none => rw [hb] at hd; cases hd
    | some l =>
      rw [hb] at hd
      cases hd
      have hmem := List.mem_of_getElem? hb
      have et : ps.take (i + 1) = ps.take i ++ [l] := by rw [List.take_add_one, hb]; rfl
      refine ⟨_, _, gt_name 3 scGameI.nd, ?_⟩
      have mm4 := mm.ext x'.wf x4 (by simp)
      have mr4 := mr.ex x'.wf x4
      have mo4 := mo.ex x'.wf x4
      refine sb_ext fun xd => sb_cons (s_dput (k := nk l) hr.units (fun _ _ _ => ev_var 2) (ee_tuple (ee_var 3) B.tuple) (EE.vj (ee_make L2' hr (ea_cons (ee_var 1) (ea_cons (ee_var 3) ea_nil)) ⟨c, l, hc, hsm l hmem, rfl, rfl⟩)) (kd_lay l) mo4 (fun hk => ?_) ?_ (.inr ho0) fun G5 H5 x5 mo5 => sb_forget [3] (sb_nil ⟨rfl, mm4.ext xd.wf x5 (by simpa using hao), ?_, ?_⟩))
      · obtain ⟨y, hy, e⟩ := List.mem_map.mp hk
        rw [nk_inj e] at hy
        have h2 := hnd.sublist (List.take_sublist (i + 1) ps)
        rw [et] at h2
        exact (List.nodup_append.mp h2).2.2 l hy l (by simp) rfl
      · rw [List.length_map, List.length_take]
        exact Nat.lt_of_le_of_lt (Nat.le_trans (Nat.min_le_right _ _) hle) (by decide)
      · obtain ⟨g0, o0, xs0, vs0, h0, ok0, e0, r0, d0⟩ := mr4
        exact MD.ext xd.wf ⟨g0, o0, xs0, vs0, h0, ok0, e0, r0, d0⟩ x5 (by simpa using hro)
      · rw [et, List.map_append, List.map_append]
        exact mo5
  · rintro γ' G' H' g' x' ⟨rfl, mm, mr, mo⟩
    rw [List.length_map, List.take_length] at mo
    refine sb_frzD 2 rfl mo ho0 fun ob hob => ?_
    have xz : Ext T [] G Hc (upd G' oo (objHO oo ob)) H' := x'.frz hob mo.1 ho0 (fun ps z => by cases z)
    have mmz : MO P w (upd G' oo (objHO oo ob)) H' a Gm [("contract", .dat (encC C c)), ("ranks", .val (.ref rr))] := by
      obtain ⟨q1, q2, q3, q4, q5⟩ := mm
      exact ⟨by rw [upd_ne hao]; exact q1, q2, q3, q4, q5.up (sub_upd mo.1)⟩
    have mrz : MD P w (upd G' oo (objHO oo ob)) H' rr [] [] := by
      obtain ⟨q1, q2, q3, q4, q5, q6, q7, q8, q9⟩ := mr
      exact ⟨by rw [upd_ne hro]; exact q1, q2, q3, q4, q5, q6.mono (sub_upd mo.1), q7, q8, q9.up (sub_upd mo.1)⟩
    refine sb_cons (s_set 4 scGameI.nd (EE.vj ee_int) fun G5 H5 x5 => ?_)
    refine sb_ext fun xe => sb_cons (s_set 5 scGameI.nd (EE.vj ee_bl) fun G6 H6 x6 => sb_ext fun xf => ?_)
    have mm6 := (mmz.ext xz.wf x5 (by simp)).ext xe.wf x6 (by simp)
    have mr6 := (mrz.ex xz.wf x5).ex xe.wf x6
    refine sb_cons (s_while (fun m γ' G' H' => ∃ (num : Int) (rk : Rk) (b : Bool), γ' = [.val (.ref a), .dat (encC C c), .dat (.dic (ps.map nk) (ps.map fun l => encOpt O (mOpt c l))), .und, .dat (.int num), .dat (.bl b), .und] ∧ MO P w G' H' a Gm [("contract", .dat (encC C c)), ("ranks", .val (.ref rr))] ∧ MD P w G' H' rr (rk.map fun p => nk p.1) (rk.map fun p => .int p.2) ∧
      (b = true → mRanksGo (mOpts c ps) m num rk = some r) ∧ (b = false → rk = r)) 40 ⟨0, [], true, rfl, mm6, mr6, fun _ => hgo, fun e => by cases e⟩ ?_)
    rintro m γ' G7 H7 g7 x7 ⟨num, rk, b, rfl, mm7, mr7, hb1, hb2⟩
    refine ⟨b, ET.tj (et_ee (ee_var 5)), fun hT G8 H8 x8 => ?_, fun hF G8 H8 x8 => ?_⟩
    · obtain rfl : b = true := hT
      have hgo' := hb1 rfl
      cases m with
      | zero => cases hgo'
      | succ m =>
      unfold mRanksGo at hgo'
      split at hgo'
      case isFalse => cases hgo'
      case isTrue hlen =>
      have hlen' : rk.length < 500 := by simpa using hlen
      have mm8 := mm7.ext x7.wf x8 (by simp)
      have mr8 := mr7.ex x7.wf x8
      have fle : (mFresh (mOpts c ps) rk).length ≤ 500 := by
        rw [fresh_opts]
        exact Nat.le_trans (List.length_filter_le _ _) hle
      refine sb_ext fun xg => sb_cons (s_inc 4 scGameI.nd rfl ee_int fun G9 H9 x9 => ?_)
      refine sb_ext fun xh => sb_cons (s_newL 6 scGameI.nd ea_nil (Nat.zero_le _) fun fa G10 H10 hfn hfn0 x10 mf10 => sb_ext fun xi => ?_)
      have mm9 := mm8.ext xg.wf x9 (by simp)
      have mr9 := mr8.ex xg.wf x9
      have hfa : fa ≠ a := fun e => by
        obtain ⟨_, _, _, e1, _⟩ := mm9
        rw [← e, hfn] at e1; cases e1
      have hfr : fa ≠ rr := fun e => by
        obtain ⟨_, _, _, _, e1, _⟩ := mr9
        rw [← e, hfn] at e1; cases e1
      refine sb_cons (s_forApp (xs := ps) encLT _ _ (fun l => if !decide (l ∈ mWon rk) && mForced (mOpt c l) (mWon rk) then [encLT l] else []) (fun G' H' => MO P w G' H' a Gm [("contract", .dat (encC C c)), ("ranks", .val (.ref rr))] ∧ MD P w G' H' rr (rk.map fun p => nk p.1) (rk.map fun p => .int p.2)) 1000 rfl
        (show Src _ _ _ _ _ _ from (show (ps.map nk).map kd = ps.map encLT by rw [List.map_map]; exact List.map_congr_left fun l _ => kd_nk l) ▸ src_dic (ee_var 2)) (fun _ _ _ _ wf x m => ⟨m.1.ext wf x (by simp), m.2.ex wf x⟩) ⟨mm9.ext xh.wf x10 (by simp), mr9.ex xh.wf x10⟩ mf10 ?_ xi.wf (fun x _ => gt_name 3 scGameI.nd) ?_ ?_)
      · have h1 := flatMap_le (xs := ps) (f := fun l => if !decide (l ∈ mWon rk) && mForced (mOpt c l) (mWon rk) then [encLT l] else []) (k := 1) fun n _ => by split <;> simp
        show 0 + _ ≤ 1000
        omega
      · rintro l hmem acc G11 H11 g11 x11 ⟨mm11, mr11⟩ mf11 hacc
        obtain ⟨ga, dx, fs, ea, sv⟩ := id mm11
        obtain ⟨gr, ob, hob, rdic⟩ := id (show MD P w G11 H11 rr _ _ ∧ True from ⟨mr11, trivial⟩).1 |> fun q => (⟨q.1, q.dr⟩ : _ ∧ ∃ o, H11 rr = some (objHO rr o) ∧ DR P w (upd G11 rr (objHO rr o)) (.ref rr) (encRk rk))
        have har : a ≠ rr := fun e => by
          rw [e, hob] at ea; cases ea
        have ga' : (upd G11 rr (objHO rr ob)) a = none := by rw [upd_ne har]; exact ga
        have robj : DR P w (upd (upd G11 rr (objHO rr ob)) a (.ins Gm dx fs)) (.ref a) (encGm Gm C c rk) := by
          cases sv with
          | dat d1 s1 =>
            cases s1 with
            | val s2 =>
              cases s2
              exact DR.obj (fs := [("contract", _), ("ranks", .ref rr)]) upd_same (.cons ((d1.up (sub_upd gr)).up (sub_upd ga')) (.cons (rdic.up (sub_upd ga')) .nil))
        refine sb_one (s_if (b := !decide (l ∈ mWon rk) && mForced (mOpt c l) (mWon rk)) (tj_frz (G1 := upd (upd G11 rr (objHO rr ob)) a (.ins Gm dx fs)) (γ1 := [.dat (encGm Gm C c rk), .dat (encC C c), .dat (.dic (ps.map nk) (ps.map fun l => encOpt O (mOpt c l))), .dat (encLT l), .dat (.int (num + 1)), .dat (.bl true), .val (.ref fa)]) (fun b o z => sub_upd ga' _ _ (sub_upd gr _ _ z))
          ((x11.wf.frz hob (fun ps z => by cases z)).frz ea (fun ps z => by cases z)) (fun σ env => env_frz (i := 0) (env.up (sub_upd gr)) rfl ga' robj) ?_) (fun hT G12 H12 x12 => ?_) (fun hF G12 H12 x12 => ?_))
        · have e1 : (!decide (nk l ∈ rk.map fun p => nk p.1)) = !decide (l ∈ mWon rk) := by rw [rk_won, nk_mem]
          rw [← e1]
          exact et_and (et_c (c_notInN hr.units (kd_lay l)) (ee_var 3) (ee_fld (ee_var 0) GF.cl GF.nR rfl)) fun _ => et_ee (ee_meth L3 (hr.mono (by decide)) (ee_ixN hr.units (ee_var 2) (ee_var 3) (kd_lay l) (dlook_map hmem)) (by decide +kernel) (ea_cons (ee_fld (ee_var 0) GF.cl GF.nR rfl) ea_nil) ⟨mOpt c l, mWon rk, _, opts_le hc (hsm l hmem), by rw [← rk_won], rfl⟩)
        · refine sb_ext fun xj => sb_cons (s_append (d := encLT l) (ev_var 6) (EE.vj (ee_var 3)) (mf11.ex x11.wf x12) (line100 hacc) (.inr hfn0) fun G13 H13 x13 m13 => sb_forget [3] (sb_nil ⟨rfl, ⟨(mm11.ext x11.wf x12 (by simp)).ext xj.wf x13 (by simpa using hfa.symm), MD.ext xj.wf (mr11.ex x11.wf x12) x13 (by simpa using hfr.symm)⟩, ?_⟩))
          rw [if_pos hT]; exact m13
        · refine sb_forget [3] (sb_nil ⟨rfl, ⟨mm11.ext x11.wf x12 (by simp), mr11.ex x11.wf x12⟩, ?_⟩)
          rw [if_neg (by rw [hF]; exact Bool.false_ne_true), List.append_nil]
          exact mf11.ex x11.wf x12
      · rintro G11 H11 g11 x11 ⟨mm11, mr11⟩ mf11
        have ef : [] ++ ps.flatMap (fun l => if !decide (l ∈ mWon rk) && mForced (mOpt c l) (mWon rk) then [encLT l] else []) = (mFresh (mOpts c ps) rk).map encLT := by
          rw [fresh_opts, List.nil_append]
          exact flatMap_if _ _ _
        rw [ef] at mf11
        refine sb_frz 6 rfl mf11 hfn0 fun vs hv => sb_ext fun xj => ?_
        have mmA := mm11.upG (o := .lst vs) mf11.1 hfa.symm
        have mrA := mr11.upG (o := .lst vs) mf11.1 hfr.symm
        have hfnd := fresh_nd (c := c) (r := rk) hnd
        refine sb_cons (s_for rfl (src_lst (ee_var 6)) (fun i γ' G' H' => γ' = [.val (.ref a), .dat (encC C c), .dat (.dic (ps.map nk) (ps.map fun l => encOpt O (mOpt c l))), .und, .dat (.int (num + 1)), .dat (.bl true), .dat (.lst ((mFresh (mOpts c ps) rk).map encLT))] ∧ MO P w G' H' a Gm [("contract", .dat (encC C c)), ("ranks", .val (.ref rr))] ∧
          MD P w G' H' rr ((rk ++ ((mFresh (mOpts c ps) rk).take i).map fun l => (l, num + 1)).map fun p => nk p.1) ((rk ++ ((mFresh (mOpts c ps) rk).take i).map fun l => (l, num + 1)).map fun p => .int p.2)) (fun G' H' x' => ⟨rfl, mmA.ext xj.wf x' (by simp), ?_⟩) ?_ ?_)
        · have q := mrA.ex xj.wf x'
          simpa using q
        · rintro i d γ' G' H' hd g' x' ⟨rfl, mm, mr⟩ G12 H12 x12
          rw [List.getElem?_map] at hd
          cases hb : (mFresh (mOpts c ps) rk)[i]? with
          | none => rw [hb] at hd; cases hd
          | some l =>
            rw [hb] at hd
            cases hd
            have et : (mFresh (mOpts c ps) rk).take (i + 1) = (mFresh (mOpts c ps) rk).take i ++ [l] := by rw [List.take_add_one, hb]; rfl
            refine ⟨_, _, gt_name 3 scGameI.nd, ?_⟩
            have mm12 := mm.ext x'.wf x12 (by simp)
            have mr12 := mr.ex x'.wf x12
            refine sb_ext fun xk => sb_cons (s_dput (k := nk l) hr.units (fun G13 H13 x13 => ?_) (ee_var 3) (EE.vj (ee_var 4)) (kd_lay l) mr12 (fun hk => ?_) ?_ (.inr hn0) fun G13 H13 x13 mr13 => sb_forget [3] (sb_nil ⟨rfl, mm12.ext xk.wf x13 (by simpa using hne.symm), ?_⟩))
            · obtain ⟨_, dx, fs, ex, sv⟩ := mm12.ext xk.wf x13 (by simp)
              exact ev_fld (ev_var 0) ex GF.cl GF.nR (SVs.lookV sv (by rfl))
            · rw [rk_won] at hk
              obtain ⟨y, hy, e⟩ := List.mem_map.mp hk
              rw [nk_inj e] at hy
              unfold mWon at hy
              rw [List.map_append, List.map_map] at hy
              rcases List.mem_append.mp hy with z | z
              · exact fresh_sub (List.mem_of_getElem? hb) z
              · have z' : l ∈ (mFresh (mOpts c ps) rk).take i := by
                  obtain ⟨y2, hy2, e2⟩ := List.mem_map.mp z
                  have e3 : y2 = l := e2
                  rw [← e3]; exact hy2
                have h2 := hfnd.sublist (List.take_sublist (i + 1) _)
                rw [et] at h2
                exact (List.nodup_append.mp h2).2.2 l z' l (by simp) rfl
            · simp only [List.length_map, List.length_append, List.length_take]
              exact Nat.lt_of_le_of_lt (show _ ≤ 1000 by omega) (by decide)
            · have e4 : rk ++ ((mFresh (mOpts c ps) rk).take i ++ [l]).map (fun l => (l, num + 1)) = (rk ++ ((mFresh (mOpts c ps) rk).take i).map fun l => (l, num + 1)) ++ [(l, num + 1)] := by rw [List.map_append, ← List.append_assoc]; rfl
              rw [et, e4, map_snoc, map_snoc]
              exact mr13
        · rintro γ' G' H' g' x' ⟨rfl, mm, mr⟩
          rw [List.length_map, List.take_length] at mr
          refine sb_cons (s_set 5 scGameI.nd (EE.vj (ee_c (c_neNil hr.units (by obtain ⟨q1, q2, q3⟩ := ok_lts (mFresh (mOpts c ps) rk); exact ⟨q1, q2, by omega⟩)) (ee_var 6) (ee_lst ea_nil (Nat.zero_le _)))) fun G13 H13 x13 => sb_forget [3, 6] (sb_nil ⟨m, Nat.lt_succ_self m, num + 1, rk ++ (mFresh (mOpts c ps) rk).map fun l => (l, num + 1), !((mFresh (mOpts c ps) rk).map encLT).isEmpty, rfl, mm.ext x'.wf x13 (by simp), mr.ex x'.wf x13, fun hb => ?_, fun hb => ?_⟩))
          · cases hf : mFresh (mOpts c ps) rk with
            | nil => rw [hf] at hb; cases hb
            | cons y ys => rw [hf] at hgo'; exact hgo'
          · cases hf : mFresh (mOpts c ps) rk with
            | nil =>
              rw [hf] at hgo'
              rw [List.map_nil, List.append_nil]
              exact Option.some.inj hgo'
            | cons y ys => rw [hf] at hb; cases hb
    · have e := hb2 hF
      subst e
      have mm8 := mm7.ext x7.wf x8 (by simp)
      have mr8 := mr7.ex x7.wf x8
      obtain ⟨_, dx8, fs8, e8, sv8⟩ := id mm8
      obtain ⟨ob8, hob8, rd8⟩ := mr8.dr
      have har : a ≠ rr := hne.symm
      refine sb_frzN hob8 mr8.1 hn0 (fun ps z => by cases z) (sb_nil ⟨by rw [upd_ne har]; exact mm8.1, dx8, fs8, e8, ?_⟩)
      cases sv8 with
      | dat d1 s1 =>
        cases s1 with
        | val s2 =>
          cases s2
          exact .dat (d1.up (sub_upd mr8.1)) (.dat rd8 .nil)
end
end HG

set_option Elab.async false
set_option linter.all false
set_option maxRecDepth 100000
set_option maxHeartbeats 4000000
/-! The walk: the methods of Game. -/
namespace HG
open PySem L2
abbrev sRank : Stmt := inClass (topS 26) 1
abbrev sHigher : Stmt := inClass (topS 26) 3
abbrev sMgr : Stmt := inClass (topS 26) 4
abbrev sBelow : Stmt := inClass (topS 26) 5
abbrev sProg : Stmt := inClass (topS 26) 6
def encO : Option Int → D
  | none => .non
  | some i => .int i
def encRO : Option Rep → D
  | none => .non
  | some r => encRep r
def encMO : Option Mv → D
  | none => .non
  | some m => encM m
def encBest : Option (Rep × Option Int) → D
  | none => .non
  | some b => .tup [encRep b.1, encO b.2]
theorem dlook_rk (r : Rk) (l : Lay) : (dlook (r.map fun p => nk p.1) (r.map fun p => .int p.2) (nk l)).getD .non = encO (mRank r l) := by
  unfold dlook mRank
  rw [List.zip_map', List.find?_map]
  have e : ((fun p : NestedKey × D => decide (p.1 = nk l)) ∘ fun x : Lay × Int => (nk x.1, D.int x.2)) = fun p : Lay × Int => decide (p.1 = l) := by
    funext p
    simp only [Function.comp, decide_eq_decide]
    exact ⟨fun h => nk_inj h, fun h => by rw [h]⟩
  rw [e]
  cases r.find? fun p => decide (p.1 = l) <;> rfl
theorem isNon_encO (o : Option Int) : isNon (encO o) = o.isNone := by cases o <;> rfl
theorem isNon_encBest (o : Option (Rep × Option Int)) : isNon (encBest o) = o.isNone := by cases o <;> rfl
theorem find_hit {α : Type} {p : α → Bool} : ∀ {xs : List α} {i : Nat} {x : α}, xs[i]? = some x → (∀ y ∈ xs.take i, p y = false) → p x = true → xs.find? p = some x
  | [], _, _, h, _, _ => by simp at h
  | y :: ys, 0, x, h, _, hp => by
    simp only [List.getElem?_cons_zero, Option.some.injEq] at h
    subst h
    rw [List.find?_cons, hp]
  | y :: ys, i + 1, x, h, hn, hp => by
    have hy : p y = false := hn y (by simp)
    rw [List.find?_cons, hy]
    exact find_hit (i := i) (by simpa using h) (fun z hz => hn z (by rw [List.take_succ_cons]; exact List.mem_cons_of_mem _ hz)) hp
section
variable {P : Program} {w : World} {K : PySem.W.Frag} {mg : Str → Option Value} {base : Heap} {T : List Addr}
def rRank (Gm C : Addr) (ds : List D) (d : D) : Prop := ∃ (c : Ctr) (r : Rk) (l : Lay), ds = [encGm Gm C c r, encL l] ∧ d = encO (mRank r l)
theorem scRank : FnScope ["self", "layout"] ["self", "layout"] (defScope sRank) := ⟨rfl, rfl, rfl, by decide +kernel, rfl, by decide +kernel, by decide +kernel⟩
theorem ok_rank {f C Gm : Addr} {fd : FuncData} (F : Fun K "rank" "Game.rank" sRank f fd) (B : Bt mg) (GF : GmF K Gm) : FnOk P w K mg base CX0 1 f fd ["self", "layout"] (spR P w T (rRank Gm C)) := by
  refine def_ok F scRank (fun ds d h => by obtain ⟨c, r, l, rfl, _⟩ := h; rfl) (fun cdv A outer s H E G ds d hr wf h => ?_)
  obtain ⟨c, r, l, rfl, rfl⟩ := h
  refine sb_one (s_ret (EE.vj (ee_get1 hr.units (ee_fld (ee_var 0) GF.cl GF.nR rfl) (ee_tuple (ee_var 1) B.tuple) (kd_lay l))) fun v G1 H1 x1 r1 => ?_)
  rw [dlook_rk] at r1
  exact r1

def rHigher (Gm : Addr) (ds : List D) (d : D) : Prop := ∃ (me : D) (one other : Option Int), ds = [me, encO one, encO other] ∧ d = .bl (mHigher one other)
theorem scHigher : FnScope ["self", "one", "other"] ["self", "one", "other"] (defScope sHigher) := ⟨rfl, rfl, rfl, by decide +kernel, rfl, by decide +kernel, by decide +kernel⟩
theorem ok_higher {f Gm : Addr} {fd : FuncData} (F : Fun K "is_higher" "Game.is_higher" sHigher f fd) : FnOk P w K mg base CX0 1 f fd ["self", "one", "other"] (spR P w T (rHigher Gm)) := by
  refine def_ok F scHigher (fun ds d h => by obtain ⟨c, r, l, rfl, _⟩ := h; rfl) (fun cdv A outer s H E G ds d hr wf h => ?_)
  obtain ⟨me, one, other, rfl, rfl⟩ := h
  refine sb_cons (s_if (ET.tj (et_c c_isN (ee_var 2) ee_non)) (fun hT G3 H3 x3 => ?_) (fun hF G3 H3 x3 => sb_nil (E := { nx := fun γ' G' H' => SB _ _ _ γ' G' H' _ }) ?_))
  · rw [isNon_encO] at hT
    have e : other = none := by simpa using hT
    subst e
    exact sb_one (s_ret (EE.vj ee_bl) fun v G4 H4 x4 r4 => r4)
  · rw [isNon_encO] at hF
    cases other with
    | none => cases hF
    | some o =>
    cases one with
    | none => exact sb_one (s_ret (EE.vj (ee_or (b2 := true) (ee_c c_isN (ee_var 1) ee_non) fun h => by cases h)) fun v G4 H4 x4 r4 => by exact r4)
    | some i => exact sb_one (s_ret (EE.vj (ee_or (ee_c c_isN (ee_var 1) ee_non) fun _ => ee_c c_gt (ee_var 1) (ee_var 2))) fun v G4 H4 x4 r4 => by exact r4)

def rBelow (Gm C : Addr) (ds : List D) (d : D) : Prop := ∃ (c : Ctr) (r : Rk) (l : Lay) (k : Int), ds = [encGm Gm C c r, encL l, .int k] ∧ d = .bl (mBelow r l k)
theorem scBelow : FnScope ["self", "layout", "rank", "other"] ["self", "layout", "rank"] (defScope sBelow) := ⟨rfl, rfl, rfl, by decide +kernel, rfl, by decide +kernel, by decide +kernel⟩
theorem ok_below {f C Gm : Addr} {fd : FuncData} (F : Fun K "is_below" "Game.is_below" sBelow f fd) (L1 : Mk2 P w K mg base T 1 Gm "rank" (rRank Gm C)) : FnOk P w K mg base CX0 2 f fd ["self", "layout", "rank"] (spR P w T (rBelow Gm C)) := by
  refine def_ok F scBelow (fun ds d h => by obtain ⟨c, r, l, k, rfl, _⟩ := h; rfl) (fun cdv A outer s H E G ds d hr wf h => ?_)
  obtain ⟨c, r, l, k, rfl, rfl⟩ := h
  refine sb_cons (s_set 3 scBelow.nd (EE.vj (ee_meth L1 hr (ee_var 0) (by decide +kernel) (ea_cons (ee_var 1) ea_nil) ⟨c, r, l, rfl, rfl⟩)) fun G1 H1 x1 => ?_)
  unfold mBelow
  cases e : mRank r l with
  | none => exact sb_one (s_ret (EE.vj (ee_and (b2 := true) (ee_c c_notN (ee_var 3) ee_non) fun h => by cases h)) fun v G4 H4 x4 r4 => by exact r4)
  | some o => exact sb_one (s_ret (EE.vj (ee_and (ee_c c_notN (ee_var 3) ee_non) fun _ => ee_c c_lt (ee_var 3) (ee_var 2))) fun v G4 H4 x4 r4 => by exact r4)

def rMgr (Gm C : Addr) (ds : List D) (d : D) : Prop := ∃ (c : Ctr) (r : Rk) (l : Lay) (n : Int), Cok c ∧ Sml l ∧ n ∈ mReqable c l ∧ ds = [encGm Gm C c r, encL l, .int n] ∧ d = encRO (mMgr c r l n)
theorem scMgr : FnScope ["self", "layout", "length", "best", "reply", "here"] ["self", "layout", "length"] (defScope sMgr) := ⟨rfl, rfl, rfl, by decide +kernel, rfl, by decide +kernel, by decide +kernel⟩
theorem ok_mgr {f C Gm : Addr} {fd : FuncData} (F : Fun K "manager_reply" "Game.manager_reply" sMgr f fd) (GF : GmF K Gm) (L1 : Mk2 P w K mg base T 1 Gm "rank" (rRank Gm C)) (L2' : Mk2 P w K mg base T 1 Gm "is_higher" (rHigher Gm)) (L3 : Dk P w K mg base T 5 "replies" (rReplies C)) (L4 : Dk P w K mg base T 3 "after_reply" rAfter) :
    FnOk P w K mg base CX0 6 f fd ["self", "layout", "length"] (spR P w T (rMgr Gm C)) := by
  refine def_ok F scMgr (fun ds d h => by obtain ⟨c, r, l, k, _, _, _, rfl, _⟩ := h; rfl) (fun cdv A outer s H E G ds d hr wf h => ?_)
  obtain ⟨c, r, l, n, hc, hl, hn, rfl, rfl⟩ := h
  have hll := hl.len
  have hr1 := hr.mono (j := 1) (by decide)
  refine sb_cons (s_set 3 scMgr.nd (EE.vj ee_non) fun G1 H1 x1 => ?_)
  refine sb_cons (s_for rfl (src_lst (ee_call L3 hr (ea_cons (ee_fld (ee_var 0) GF.cl GF.nC rfl) (ea_cons (ee_var 1) (ea_cons (ee_var 2) ea_nil))) ⟨c, l, n, hc, hl, hn, rfl, rfl⟩)) (fun i γ' _ _ => γ' = [.dat (encGm Gm C c r), .dat (encL l), .dat (.int n), .dat (encBest (((mReplies c l n).take i).foldl (mMgr1 r l n) none)), .und, .und]) (fun G' H' x' => rfl) ?_ ?_)
  · rintro i d γ' G' H' hd g' x' rfl G2 H2 x2
    rw [List.getElem?_map] at hd
    cases hb : (mReplies c l n)[i]? with
    | none => rw [hb] at hd; cases hd
    | some rp =>
      rw [hb] at hd
      cases hd
      have et : ((mReplies c l n).take (i + 1)).foldl (mMgr1 r l n) none = mMgr1 r l n (((mReplies c l n).take i).foldl (mMgr1 r l n) none) rp := by
        rw [List.take_add_one, hb, List.foldl_append]; rfl
      refine ⟨_, _, gt_name 4 scMgr.nd, ?_⟩
      rw [et]
      generalize ((mReplies c l n).take i).foldl (mMgr1 r l n) none = best
      refine sb_cons (s_set 5 scMgr.nd (EE.vj (ee_meth L1 hr1 (ee_var 0) (by decide +kernel) (ea_cons (ee_call (L4.mono (by decide)) hr (ea_cons (ee_var 1) (ea_cons (ee_var 2) (ea_cons (ee_var 4) ea_nil))) ⟨l, n, rp, by omega, rfl, rfl⟩) ea_nil) ⟨c, r, mAfter l n rp, rfl, rfl⟩)) fun G3 H3 x3 => ?_)
      cases best with
      | none =>
        refine sb_one (s_if (ET.tj (et_or (b2 := true) (et_c c_isN (ee_var 3) ee_non) fun h => by cases h)) (fun hT G4 H4 x4 => ?_) (fun hF => by cases hF))
        exact sb_cons (s_set 3 scMgr.nd (EE.vj (ee_tup (ea_cons (ee_var 4) (ea_cons (ee_var 5) ea_nil)) l2)) fun G5 H5 x5 => sb_forget [4, 5] (sb_nil rfl))
      | some b =>
        refine sb_one (s_if (ET.tj (et_or (et_c c_isN (ee_var 3) ee_non) fun _ => et_ee (ee_meth L2' hr1 (ee_var 0) (by decide +kernel) (ea_cons (ee_var 5) (ea_cons (ee_ixT (ee_var 3) ee_int rfl) ea_nil)) ⟨_, _, b.2, rfl, rfl⟩))) (fun hT G4 H4 x4 => ?_) (fun hF G4 H4 x4 => ?_))
        · refine sb_cons (s_set 3 scMgr.nd (EE.vj (ee_tup (ea_cons (ee_var 4) (ea_cons (ee_var 5) ea_nil)) l2)) fun G5 H5 x5 => sb_forget [4, 5] (sb_nil ?_))
          have hT' : mHigher (mRank r (mAfter l n rp)) b.2 = true := hT
          have e : mMgr1 r l n (some b) rp = some (rp, mRank r (mAfter l n rp)) := by unfold mMgr1; simp only [hT', if_true]
          rw [e]; rfl
        · refine sb_forget [4, 5] (sb_nil ?_)
          have hF' : mHigher (mRank r (mAfter l n rp)) b.2 = false := hF
          have e : mMgr1 r l n (some b) rp = some b := by unfold mMgr1; simp only [hF', Bool.false_eq_true, if_false]
          rw [e]; rfl
  · rintro γ' G' H' g' x' rfl
    rw [List.length_map, List.take_length]
    unfold mMgr
    generalize (mReplies c l n).foldl (mMgr1 r l n) none = best
    cases best with
    | none =>
      exact sb_cons (s_if (ET.tj (et_c c_isN (ee_var 3) ee_non)) (fun hT G4 H4 x4 => sb_one (s_ret (EE.vj ee_non) fun v G5 H5 x5 r5 => r5)) (fun hF => by cases hF))
    | some b =>
      exact sb_cons (s_if (ET.tj (et_c c_isN (ee_var 3) ee_non)) (fun hT => by cases hT) (fun hF G4 H4 x4 => sb_nil (E := { nx := fun γ' G' H' => SB _ _ _ γ' G' H' _ }) (sb_one (s_ret (EE.vj (ee_ixT (ee_var 3) ee_int rfl)) fun v G5 H5 x5 r5 => r5))))

def rProg (Gm C : Addr) (ds : List D) (d : D) : Prop := ∃ (c : Ctr) (r : Rk) (l : Lay), Cok c ∧ Sml l ∧ ds = [encGm Gm C c r, encL l] ∧ d = encMO (mProg c r l)
theorem scProg : FnScope ["self", "layout", "rank", "index", "length", "found", "reply"] ["self", "layout"] (defScope sProg) := ⟨rfl, rfl, rfl, by decide +kernel, rfl, by decide +kernel, by decide +kernel⟩
theorem ok_prog {f C Gm : Addr} {fd : FuncData} (F : Fun K "program_move" "Game.program_move" sProg f fd) (B : Bt mg) (GF : GmF K Gm) (L1 : Mk2 P w K mg base T 1 Gm "rank" (rRank Gm C)) (L2' : Mk2 P w K mg base T 2 Gm "is_below" (rBelow Gm C)) (L3 : Dk P w K mg base T 5 "replies" (rReplies C)) (L4 : Dk P w K mg base T 3 "after_reply" rAfter)
    (L5 : Dk P w K mg base T 1 "without" rWithout) (L6 : Dk P w K mg base T 2 "requestable" (rReqable C)) : FnOk P w K mg base CX0 6 f fd ["self", "layout"] (spR P w T (rProg Gm C)) := by
  refine def_ok F scProg (fun ds d h => by obtain ⟨c, r, l, _, _, rfl, _⟩ := h; rfl) (fun cdv A outer s H E G ds d hr wf h => ?_)
  obtain ⟨c, r, l, hc, hl, rfl, rfl⟩ := h
  have hll := hl.len
  have hcl := hc.ll
  have hr1 := hr.mono (j := 1) (by decide)
  have hr2 := hr.mono (j := 2) (by decide)
  refine sb_cons (s_set 2 scProg.nd (EE.vj (ee_meth L1 hr1 (ee_var 0) (by decide +kernel) (ea_cons (ee_var 1) ea_nil) ⟨c, r, l, rfl, rfl⟩)) fun G1 H1 x1 => ?_)
  unfold mProg
  cases hrk : mRank r l with
  | none => exact sb_cons (s_if (ET.tj (et_c c_isN (ee_var 2) ee_non)) (fun hT G4 H4 x4 => sb_one (s_ret (EE.vj ee_non) fun v G5 H5 x5 r5 => r5)) (fun hF => by cases hF))
  | some k =>
  refine sb_cons (s_if (ET.tj (et_c c_isN (ee_var 2) ee_non)) (fun hT => by cases hT) (fun hF G4 H4 x4 => sb_nil (E := { nx := fun γ' G' H' => SB _ _ _ γ' G' H' _ }) ?_))
  refine sb_cons (s_forFind (xs := List.range l.length) (fun (i : Nat) => D.int (i : Int)) _ _ (fun i => mBelow r (mWithout l i) k) rfl
    (show Src _ _ _ _ _ _ from (show (rngI 0 (l.length : Int)).map D.int = (List.range l.length).map (fun (i : Nat) => D.int (i : Int)) by rw [rng_nat, List.map_map]; rfl) ▸ src_rng1 (ea_cons (ee_lenM (ee_var 1) B.len) ea_nil) B.range (by omega) (by omega)) (fun x _ => gt_name 3 scProg.nd) (fun i x hx hpre G' H' g' x' => ?_) fun hno G' H' g' x' => ?_)
  · refine sb_one (s_if (b := mBelow r (mWithout l x) k) (ET.tj (et_ee (ee_meth L2' hr2 (ee_var 0) (by decide +kernel) (ea_cons (ee_call (L5.mono (by decide)) hr (ea_cons (ee_var 1) (ea_cons (ee_var 3) ea_nil)) ⟨l, x, by omega, rfl, rfl⟩) (ea_cons (ee_var 2) ea_nil)) ⟨c, r, mWithout l x, k, rfl, rfl⟩))) (fun hT G5 H5 x5 => ?_) (fun hF G5 H5 x5 => sb_forget [3] (sb_nil ⟨rfl, hF⟩)))
    refine sb_one (s_ret (EE.vj (ee_tup (ea_cons ee_str (ea_cons (ee_var 3) ea_nil)) l2)) fun v G6 H6 x6 r6 => ?_)
    simp only [find_hit hx hpre hT]
    exact r6
  · have e1 : (List.range l.length).find? (fun i => mBelow r (mWithout l i) k) = none := List.find?_eq_none.mpr fun x hx => by rw [hno x hx]; exact Bool.false_ne_true
    simp only [e1]
    refine sb_cons (s_forFind (xs := mReqable c l) D.int _ _ (fun n => (mReplies c l n).all fun rp => mBelow r (mAfter l n rp) k) rfl (src_lst (ee_call (L6.mono (by decide)) hr (ea_cons (ee_fld (ee_var 0) GF.cl GF.nC rfl) (ea_cons (ee_var 1) ea_nil)) ⟨c, l, by omega, by omega, rfl, rfl⟩)) (fun x _ => gt_name 4 scProg.nd) (fun i n hx hpre G' H' g' x' => ?_) fun hno2 G' H' g' x' => ?_)
    · have hmem := List.mem_of_getElem? hx
      have hrep := replies_le hc hl (mem_reqable hc hmem).1
      refine sb_cons (s_set 5 scProg.nd (EE.vj (ee_call L3 hr (ea_cons (ee_fld (ee_var 0) GF.cl GF.nC rfl) (ea_cons (ee_var 1) (ea_cons (ee_var 4) ea_nil))) ⟨c, l, n, hc, hl, hmem, rfl, rfl⟩)) fun G3 H3 x3 => ?_)
      have eall : ((mReplies c l n).map fun rp => mBelow r (mAfter l n rp) k).all id = (mReplies c l n).all fun rp => mBelow r (mAfter l n rp) k := by rw [List.all_map]; rfl
      refine sb_one (s_if (b := (mReplies c l n).all fun rp => mBelow r (mAfter l n rp) k) (ET.tj (et_ee (eall ▸ ee_all (ns := (mReplies c l n).map fun rp => mBelow r (mAfter l n rp) k) (ee_lc (xs := mReplies c l n) encRep _ _ (fun _ => true) (fun rp => .bl (mBelow r (mAfter l n rp) k)) rfl scProg.nd (blkOk_by (N := ["self", "layout", "rank", "index", "length", "found", "reply"]) (sc := defScope sProg) (own := [("reply", 6)]) (by decide +kernel)) (src_lst (ee_var 5)) (by decide)
        (fun _ _ _ _ _ x _ => gt_name 6 scProg.nd) (fun _ _ _ _ _ x _ => ets_nil) (fun _ _ _ _ _ x _ _ => ee_meth L2' hr2 (ee_var 0) (by decide +kernel) (ea_cons (ee_call (L4.mono (by decide)) hr (ea_cons (ee_var 1) (ea_cons (ee_var 4) (ea_cons (ee_var 6) ea_nil))) ⟨l, n, x, by omega, rfl, rfl⟩) (ea_cons (ee_var 2) ea_nil)) ⟨c, r, mAfter l n x, k, rfl, rfl⟩) (line1000 (by omega)) (by rw [filter_yes, List.map_map]; rfl)) rfl B.all))) (fun hT G5 H5 x5 => ?_) (fun hF G5 H5 x5 => sb_forget [4, 5] (sb_nil ⟨rfl, hF⟩)))
      refine sb_one (s_ret (EE.vj (ee_tup (ea_cons ee_str (ea_cons (ee_var 4) ea_nil)) l2)) fun v G6 H6 x6 r6 => ?_)
      rw [find_hit hx hpre hT]
      exact r6
    · have e2 : (mReqable c l).find? (fun n => (mReplies c l n).all fun rp => mBelow r (mAfter l n rp) k) = none := List.find?_eq_none.mpr fun x hx => by rw [hno2 x hx]; exact Bool.false_ne_true
      rw [e2]
      exact sb_one (s_ret (EE.vj ee_non) fun v G5 H5 x5 r5 => r5)
end
end HG

set_option Elab.async false
set_option linter.all false
set_option maxRecDepth 100000
set_option maxHeartbeats 4000000
/-! The walk: the referee. -/
namespace HG
open PySem L2
abbrev sScripted : Stmt := topS 28
abbrev sServed : Stmt := topS 29
abbrev sTableI : Stmt := inClass (topS 30) 0
abbrev sTReply : Stmt := inClass (topS 30) 1
abbrev sDefeated : Stmt := topS 31
theorem at_nat {ds : List D} {i : Int} {d : D} (h0 : 0 ≤ i) (h : ds[i.toNat]? = some d) : atI ds i = some d := by
  have hl := (List.getElem?_eq_some_iff.mp h).1
  unfold atI
  have e : ixN ds.length i = some i.toNat := by
    unfold ixN
    rw [if_pos h0, if_pos (by omega)]
  rw [e]
  exact h
def mScr (c : Ctr) (l : Lay) (m : Int) : Option Mv := (mMoves c l)[(m % ((mMoves c l).length : Int)).toNat]?
theorem mod_ix {α : Type} {xs : List α} (m : Int) (h : xs ≠ []) : 0 ≤ m % (xs.length : Int) ∧ (m % (xs.length : Int)).toNat < xs.length := by
  have hp : 0 < xs.length := List.length_pos_iff.mpr h
  have h1 := Int.emod_nonneg m (show (xs.length : Int) ≠ 0 by omega)
  have h2 := Int.emod_lt_of_pos m (show (0 : Int) < xs.length by omega)
  omega
theorem moves_rel {c : Ctr} {l : Lay} {j i : Nat} (h : (mMoves c l)[j]? = some (.rel i)) : i < l.length := by
  have hm := List.mem_of_getElem? h
  unfold mMoves at hm
  rcases List.mem_append.mp hm with z | z
  · obtain ⟨k, hk, e⟩ := List.mem_map.mp z
    cases e
    exact List.mem_range.mp hk
  · obtain ⟨k, hk, e⟩ := List.mem_map.mp z
    cases e
theorem moves_req {c : Ctr} {l : Lay} {j : Nat} {n : Int} (h : (mMoves c l)[j]? = some (.req n)) : n ∈ mReqable c l := by
  have hm := List.mem_of_getElem? h
  unfold mMoves at hm
  rcases List.mem_append.mp hm with z | z
  · obtain ⟨k, hk, e⟩ := List.mem_map.mp z
    cases e
  · obtain ⟨k, hk, e⟩ := List.mem_map.mp z
    cases e
    exact hk
theorem moves_le {c : Ctr} {l : Lay} (hc : Cok c) (hl : Sml l) : (mMoves c l).length ≤ 6 := by
  unfold mMoves
  have := reqable_le (l := l) hc
  have := hl.len
  simp only [List.length_append, List.length_map, List.length_range]
  omega
theorem isEmpty_map' {α β : Type} (f : α → β) (xs : List α) : (xs.map f).isEmpty = xs.isEmpty := by cases xs <;> rfl
section
variable {P : Program} {w : World} {K : PySem.W.Frag} {mg : Str → Option Value} {base : Heap} {T : List Addr}
def rScripted (C : Addr) (ds : List D) (d : D) : Prop := ∃ (c : Ctr) (l : Lay) (m : Int), Cok c ∧ Sml l ∧ ds = [encC C c, encL l, .int m] ∧ d = encMO (mScr c l m)
theorem scScripted : FnScope ["contract", "layout", "number", "moves"] ["contract", "layout", "number"] (defScope sScripted) := ⟨rfl, rfl, rfl, by decide +kernel, rfl, by decide +kernel, by decide +kernel⟩
theorem ok_scripted {f C : Addr} {fd : FuncData} (F : Fun K "scripted" "scripted" sScripted f fd) (B : Bt mg) (L1 : Dk P w K mg base T 3 "moves_of" (rMoves C)) : FnOk P w K mg base CX0 4 f fd ["contract", "layout", "number"] (spR P w T (rScripted C)) := by
  refine def_ok F scScripted (fun ds d h => by obtain ⟨c, r, l, _, _, rfl, _⟩ := h; rfl) (fun cdv A outer s H E G ds d hr wf h => ?_)
  obtain ⟨c, l, m, hc, hl, rfl, rfl⟩ := h
  have hml := moves_le hc hl
  refine sb_cons (s_set 3 scScripted.nd (EE.vj (ee_call L1 hr (ea_cons (ee_var 0) (ea_cons (ee_var 1) ea_nil)) ⟨c, l, hc, hl, rfl, rfl⟩)) fun G1 H1 x1 => ?_)
  by_cases hne : mMoves c l = []
  · refine sb_cons (s_if (ET.tj (et_not (et_lst (ee_var 3)))) (fun hT G4 H4 x4 => sb_one (s_ret (EE.vj ee_non) fun v G5 H5 x5 r5 => ?_)) (fun hF => ?_))
    · unfold mScr
      rw [hne]; exact r5
    · rw [hne] at hF; cases hF
  · obtain ⟨h1, h2⟩ := mod_ix m hne
    refine sb_cons (s_if (ET.tj (et_not (et_lst (ee_var 3)))) (fun hT => ?_) (fun hF G4 H4 x4 => sb_nil (E := { nx := fun γ' G' H' => SB _ _ _ γ' G' H' _ }) ?_))
    · rw [isEmpty_map'] at hT
      cases e : mMoves c l with
      | nil => exact absurd e hne
      | cons y ys => rw [e] at hT; cases hT
    · have hp : 0 < (mMoves c l).length := List.length_pos_iff.mpr hne
      refine sb_one (s_ret (EE.vj (ee_ixL (ee_var 3) (ee_mod (ee_intI (ee_var 2) B.int) (ee_lenM (ee_var 3) B.len) (by omega)) (at_nat (d := encM ((mMoves c l)[(m % ((mMoves c l).length : Int)).toNat])) h1 (by rw [List.getElem?_map, List.getElem?_eq_getElem h2]; rfl)))) fun v G5 H5 x5 r5 => ?_)
      unfold mScr
      rw [List.getElem?_eq_getElem h2]
      exact r5

def rServed (Gm C : Addr) (ds : List D) (d : D) : Prop := ∃ (c : Ctr) (r : Rk) (U : List Lay) (ns : List Int), Cok c ∧ closedU c r U = true ∧ [] ∈ U ∧ ns.length ≤ 40 ∧ ds = [encGm Gm C c r, .lst (ns.map .int)] ∧ d = .tup [.lst ((mSv c r ns [] [[]]).map encL), .bl false]
theorem scServed : FnScope ["game", "numbers", "layout", "layouts", "number", "move", "reply"] ["game", "numbers"] (defScope sServed) := ⟨rfl, rfl, rfl, by decide +kernel, rfl, by decide +kernel, by decide +kernel⟩
theorem ok_served {f C Gm : Addr} {fd : FuncData} (F : Fun K "served" "served" sServed f fd) (GF : GmF K Gm) (L1 : Dk P w K mg base T 4 "scripted" (rScripted C)) (L2' : Dk P w K mg base T 1 "without" rWithout) (L3 : Mk2 P w K mg base T 6 Gm "manager_reply" (rMgr Gm C)) (L4 : Dk P w K mg base T 3 "after_reply" rAfter) :
    FnOk P w K mg base CX0 7 f fd ["game", "numbers"] (spR P w T (rServed Gm C)) := by
  refine def_ok F scServed (fun ds d h => by obtain ⟨c, r, l, _, _, _, _, _, rfl, _⟩ := h; rfl) (fun cdv A outer s H E G ds d hr wf h => ?_)
  obtain ⟨c, r, U, ns, hc, hU, h0, hns, rfl, rfl⟩ := h
  generalize hout : mSv c r ns [] [[]] = out
  have hUs : ∀ l ∈ U, Sml l ∧ (∀ i < l.length, mWithout l i ∈ U) ∧ ∀ n ∈ mReqable c l, ∃ rp, mMgr c r l n = some rp ∧ mAfter l n rp ∈ U := by
    intro l hl
    unfold closedU at hU
    have q := List.all_eq_true.mp hU l hl
    simp only [Bool.and_eq_true, List.all_eq_true, decide_eq_true_eq] at q
    obtain ⟨⟨q1, q2⟩, q3⟩ := q
    refine ⟨sml_of q1, fun i hi => q2 i (List.mem_range.mpr hi), fun n hn => ?_⟩
    have q4 := q3 n hn
    cases e : mMgr c r l n with
    | none => rw [e] at q4; cases q4
    | some rp =>
      rw [e] at q4
      exact ⟨rp, rfl, by simpa using q4⟩
  refine sb_cons (s_set 2 scServed.nd (EE.vj (d := encL []) (ee_lst ea_nil (Nat.zero_le _))) fun G1 H1 x1 => ?_)
  refine sb_cons (s_newL 3 scServed.nd (ea_cons (ee_var 2) ea_nil) l1 fun ll G2 H2 hn hn0 x2 ml2 => sb_ext fun xb => ?_)
  have fin : ∀ (γ' : List SV) (G' H' : Hp), γ'[3]? = some (.val (.ref ll)) → ML P w G' H' ll (out.map encL) → Ext T [] G H G' H' → SB ⟨T, [], G, H⟩ (cxOf CX0 P w K mg base ["game", "numbers", "layout", "layouts", "number", "move", "reply"] "served" (defScope sServed) f cdv A outer s H E).nox ((defBody sServed).drop 3) γ' G' H' { nx := fun _ _ _ => D.tup [.lst (out.map encL), .bl false] = .non, rt := fun v G' _ => DR P w G' v (.tup [.lst (out.map encL), .bl false]) } := by
    intro γ' G' H' h3 ml x'
    refine sb_frz 3 h3 ml hn0 fun vs hv => sb_one (s_ret (EE.vj (ee_tup (ea_cons (ee_var 3 (by
      have hl := (List.getElem?_eq_some_iff.mp h3).1
      rw [List.getElem?_set_self hl])) (ea_cons ee_bl ea_nil)) l2)) fun v G5 H5 x5 r5 => r5)
  refine sb_cons (s_for rfl (src_lst (ee_var 1)) (fun i γ' G' H' => ∃ (l : Lay) (acc : List Lay), γ' = [.dat (encGm Gm C c r), .dat (.lst (ns.map .int)), .dat (encL l), .val (.ref ll), .und, .und, .und] ∧ l ∈ U ∧ acc.length ≤ i + 1 ∧ ML P w G' H' ll (acc.map encL) ∧ mSv c r (ns.drop i) l acc = out) (fun G' H' x' => ⟨[], [[]], rfl, h0, by simp, ml2.ex xb.wf x', hout⟩) ?_ ?_)
  · rintro i d γ' G' H' hd g' x' ⟨l, acc, rfl, hlU, hacc, ml, hsv⟩ G3 H3 x3
    rw [List.getElem?_map] at hd
    cases hb : ns[i]? with
    | none => rw [hb] at hd; cases hd
    | some m =>
      rw [hb] at hd
      cases hd
      obtain ⟨hi, hbi⟩ := List.getElem?_eq_some_iff.mp hb
      have ed : ns.drop i = m :: ns.drop (i + 1) := by rw [List.drop_eq_getElem_cons hi, hbi]
      rw [ed] at hsv
      obtain ⟨hl, hrel, hreq⟩ := hUs l hlU
      have hll := hl.len
      have ml3 := ml.ex x'.wf x3
      refine ⟨_, _, gt_name 4 scServed.nd, ?_⟩
      refine sb_ext fun xc => sb_cons (s_set 5 scServed.nd (EE.vj (ee_call (L1.mono (by decide)) hr (ea_cons (ee_fld (ee_var 0) GF.cl GF.nC rfl) (ea_cons (ee_var 2) (ea_cons (ee_var 4) ea_nil))) ⟨c, l, m, hc, hl, rfl, rfl⟩)) fun G4 H4 x4 => sb_ext fun xd => ?_)
      have ml4 := ml3.ex xc.wf x4
      unfold mSv at hsv
      unfold mScr
      cases hmv : (mMoves c l)[(m % ((mMoves c l).length : Int)).toNat]? with
      | none =>
        rw [hmv] at hsv
        refine sb_cons (s_if (ET.tj (et_c c_isN (ee_var 5) ee_non)) (fun hT G5 H5 x5 => sb_ext fun xe => sb_one (s_brk (fin _ _ _ rfl ?_ xe))) (fun hF => by cases hF))
        have q := ml4.ex xd.wf x5
        have e : acc = out := hsv
        rw [e] at q
        exact q
      | some mv =>
      rw [hmv] at hsv
      cases mv with
      | rel j =>
        have hj := moves_rel hmv
        refine sb_cons (s_if (ET.tj (et_c c_isN (ee_var 5) ee_non)) (fun hT => by cases hT) (fun hF G5 H5 x5 => sb_ext fun xe => sb_nil (E := { nx := fun γ' G' H' => SB _ _ _ γ' G' H' _ }) ?_))
        have ml5 := ml4.ex xd.wf x5
        refine sb_if (fun γ6 G6 H6 => γ6 = [.dat (encGm Gm C c r), .dat (.lst (ns.map .int)), .dat (encL (mWithout l j)), .val (.ref ll), .und, .und, .und] ∧ ML P w G6 H6 ll (acc.map encL)) (ET.tj (et_c (c_eqS (i := "release") (j := "release")) (ee_ixT (ee_var 5) ee_int rfl) ee_str)) (fun hT G6 H6 x6 => sb_ext fun xf => ?_) (fun hF => ?_) ?_
        · exact sb_cons (s_set 2 scServed.nd (EE.vj (ee_call (L2'.mono (by decide)) hr (ea_cons (ee_var 2) (ea_cons (ee_ixT (ee_var 5) ee_int rfl) ea_nil)) ⟨l, j, by omega, rfl, rfl⟩)) fun G7 H7 x7 => sb_forget [4, 5, 6] (sb_nil ⟨rfl, (ml5.ex xe.wf x6).ex xf.wf x7⟩))
        · simp at hF
        · rintro γ6 G6 H6 g6 x6 ⟨rfl, ml6⟩
          refine sb_cons (s_append (d := encL (mWithout l j)) (ev_var 3) (EE.vj (ee_var 2)) ml6 (by rw [List.length_map]; exact Nat.lt_of_le_of_lt (show _ ≤ 1000 by omega) (by decide)) (.inr hn0) fun G7 H7 x7 m7 => sb_nil ⟨mWithout l j, acc ++ [mWithout l j], rfl, hrel j hj, by rw [List.length_append]; simp; omega, by rw [List.map_append]; exact m7, hsv⟩)
      | req n =>
        have hn3 := moves_req hmv
        obtain ⟨rp, erp, hrp⟩ := hreq n hn3
        simp only [erp] at hsv
        refine sb_cons (s_if (ET.tj (et_c c_isN (ee_var 5) ee_non)) (fun hT => by cases hT) (fun hF G5 H5 x5 => sb_ext fun xe => sb_nil (E := { nx := fun γ' G' H' => SB _ _ _ γ' G' H' _ }) ?_))
        have ml5 := ml4.ex xd.wf x5
        refine sb_if (fun γ6 G6 H6 => γ6 = [.dat (encGm Gm C c r), .dat (.lst (ns.map .int)), .dat (encL (mAfter l n rp)), .val (.ref ll), .und, .und, .und] ∧ ML P w G6 H6 ll (acc.map encL)) (ET.tj (et_c (c_eqS (i := "request") (j := "release")) (ee_ixT (ee_var 5) ee_int rfl) ee_str)) (fun hT => ?_) (fun hF G6 H6 x6 => sb_ext fun xf => ?_) ?_
        · exact absurd hT (by decide)
        · refine sb_cons (s_set 6 scServed.nd (EE.vj (ee_meth L3 hr (ee_var 0) (by decide +kernel) (ea_cons (ee_var 2) (ea_cons (ee_ixT (ee_var 5) ee_int rfl) ea_nil)) ⟨c, r, l, n, hc, hl, hn3, rfl, rfl⟩)) fun G7 H7 x7 => sb_ext fun xg => ?_)
          rw [erp]
          refine sb_cons (s_if (ET.tj (et_c c_isN (ee_var 6) ee_non)) (fun hT => by cases hT) (fun hF G8 H8 x8 => sb_ext fun xh => sb_nil (E := { nx := fun γ' G' H' => SB _ _ _ γ' G' H' _ }) ?_))
          exact sb_cons (s_set 2 scServed.nd (EE.vj (ee_call (L4.mono (by decide)) hr (ea_cons (ee_var 2) (ea_cons (ee_ixT (ee_var 5) ee_int rfl) (ea_cons (ee_var 6) ea_nil))) ⟨l, n, rp, by omega, rfl, rfl⟩)) fun G9 H9 x9 => sb_forget [4, 5, 6] (sb_nil ⟨rfl, (((ml5.ex xe.wf x6).ex xf.wf x7).ex xg.wf x8).ex xh.wf x9⟩))
        · rintro γ6 G6 H6 g6 x6 ⟨rfl, ml6⟩
          refine sb_cons (s_append (d := encL (mAfter l n rp)) (ev_var 3) (EE.vj (ee_var 2)) ml6 (by rw [List.length_map]; exact Nat.lt_of_le_of_lt (show _ ≤ 1000 by omega) (by decide)) (.inr hn0) fun G7 H7 x7 m7 => sb_nil ⟨mAfter l n rp, acc ++ [mAfter l n rp], rfl, hrp, by rw [List.length_append]; simp; omega, by rw [List.map_append]; exact m7, hsv⟩)
  · rintro γ' G' H' g' x' ⟨l, acc, rfl, hlU, hacc, ml, hsv⟩
    rw [List.length_map, List.drop_length] at hsv
    have e : acc = out := hsv
    rw [e] at ml
    exact fin _ _ _ rfl ml x'
end
end HG

set_option Elab.async false
set_option linter.all false
set_option maxRecDepth 100000
set_option maxHeartbeats 4000000
/-! The walk: Table, defeated. -/
namespace HG
open PySem L2
def nk2 (p : Lay × Int) : NestedKey := .tup [nk p.1, .num p.2]
theorem nk2_inj {a b : Lay × Int} (h : nk2 a = nk2 b) : a = b := by
  simp only [nk2, NestedKey.tup.injEq, List.cons.injEq, NestedKey.num.injEq] at h
  exact Prod.ext (nk_inj h.1) h.2.1
theorem kd_lay2 (p : Lay × Int) : KD (.tup [encLT p.1, .int p.2]) (nk2 p) := ⟨fun P w G v h => by
  obtain ⟨a, xs, rfl, g1, q1⟩ := dr_tup h
  obtain ⟨v, u, rfl, r1, r2⟩ := drs2 q1
  obtain ⟨b, ys, rfl, g2, q2⟩ := dr_tup r1
  rw [dr_int r2] at g1
  exact ⟨a, rfl, .tup g1 (.cons (.tup g2 (krs_b q2)) (.cons (.num _) .nil))⟩, by
  have := depth_nk p.1
  simp only [nk2, NestedKey.depth, NestedKey.depthAll]
  omega⟩
abbrev encTb (t : Tb) : D := .dic (t.map fun p => nk2 p.1) (t.map fun p => .int p.2)
abbrev encTbl (Tc : Addr) (t : Tbl) : D := .obj Tc ["numbers", "otherwise"] [encTb t.ns, .int t.els]
theorem dlook_tb (t : Tbl) (l : Lay) (n : Int) : (dlook (t.ns.map fun p => nk2 p.1) (t.ns.map fun p => .int p.2) (nk2 (l, n))).getD (.int t.els) = .int (mAsk t l n) := by
  unfold dlook mAsk
  rw [List.zip_map', List.find?_map]
  have e : ((fun p : NestedKey × D => decide (p.1 = nk2 (l, n))) ∘ fun x : (Lay × Int) × Int => (nk2 x.1, D.int x.2)) = fun p : (Lay × Int) × Int => decide (p.1 = (l, n)) := by
    funext p
    simp only [Function.comp, decide_eq_decide]
    exact ⟨fun h => nk2_inj h, fun h => by rw [h]⟩
  rw [e]
  cases t.ns.find? fun p => decide (p.1 = (l, n)) <;> rfl
structure TbF (K : PySem.W.Frag) (C : Addr) : Prop where
  cl : Cls K C
  nN : NoAttr K C "numbers"
  nO : NoAttr K C "otherwise"
section
variable {P : Program} {w : World} {K : PySem.W.Frag} {mg : Str → Option Value} {base : Heap} {T : List Addr}
def rTable (w : World) (ds fds : List D) : Prop := ∃ t : Tbl, (t.ns.map fun p => (nk2 p.1).hash w).Nodup ∧ ds = [encTb t.ns, .int t.els] ∧ fds = [encTb t.ns, .int t.els]
theorem scTableI : FnScope ["self", "numbers", "otherwise"] ["self", "numbers", "otherwise"] (defScope sTableI) := ⟨rfl, rfl, rfl, by decide +kernel, rfl, by decide +kernel, by decide +kernel⟩
theorem ok_tableI {f C : Addr} {fd : FuncData} (F : Fun K "__init__" "Table.__init__" sTableI f fd) (B : Bt mg) (TF : TbF K C) : FnOk P w K mg base CX0 1 f fd ["self", "numbers", "otherwise"] (spI P w T C ["numbers", "otherwise"] (rTable w)) := by
  refine def_okI F scTableI (fun ds fds h => by obtain ⟨c, _, rfl, rfl⟩ := h; exact ⟨rfl, rfl⟩) (fun cdv A outer s H E G Hc a ds fds hr wf h ha m0 => ?_)
  obtain ⟨t, ht, rfl, rfl⟩ := h
  refine sb_cons (s_fld (fun _ _ => ev_var 0) (EE.vj (ee_dict (ee_var 1) B.dict hr.units (by rw [List.map_map]; exact ht))) m0 TF.cl TF.nN (by decide) (by decide) (.inr ha) fun G1 H1 x1 m1 => ?_)
  exact sb_one (s_fld (fun _ _ => ev_var 0) (EE.vj (ee_var 2)) m1 TF.cl TF.nO (show _ ∉ (["numbers"] : List Str) by decide) (show 1 < 1000 by decide) (.inr ha) fun G2 H2 x2 m2 => m2)

def rTReply (Tc C : Addr) (ds : List D) (d : D) : Prop := ∃ (c : Ctr) (t : Tbl) (l : Lay) (n : Int), Cok c ∧ Sml l ∧ n ∈ mReqable c l ∧ ds = [encTbl Tc t, encC C c, encL l, .int n] ∧ d = encRO (mTReply c t l n)
theorem scTReply : FnScope ["self", "contract", "layout", "length", "found", "number"] ["self", "contract", "layout", "length"] (defScope sTReply) := ⟨rfl, rfl, rfl, by decide +kernel, rfl, by decide +kernel, by decide +kernel⟩
theorem ok_tReply {f C Tc : Addr} {fd : FuncData} (F : Fun K "reply" "Table.reply" sTReply f fd) (B : Bt mg) (TF : TbF K Tc) (L1 : Dk P w K mg base T 5 "replies" (rReplies C)) : FnOk P w K mg base CX0 6 f fd ["self", "contract", "layout", "length"] (spR P w T (rTReply Tc C)) := by
  refine def_ok F scTReply (fun ds d h => by obtain ⟨c, r, l, n, _, _, _, rfl, _⟩ := h; rfl) (fun cdv A outer s H E G ds d hr wf h => ?_)
  obtain ⟨c, t, l, n, hc, hl, hn, rfl, rfl⟩ := h
  refine sb_cons (s_set 4 scTReply.nd (EE.vj (ee_call L1 hr (ea_cons (ee_var 1) (ea_cons (ee_var 2) (ea_cons (ee_var 3) ea_nil))) ⟨c, l, n, hc, hl, hn, rfl, rfl⟩)) fun G1 H1 x1 => ?_)
  by_cases hne : mReplies c l n = []
  · refine sb_cons (s_if (ET.tj (et_not (et_lst (ee_var 4)))) (fun hT G4 H4 x4 => sb_one (s_ret (EE.vj ee_non) fun v G5 H5 x5 r5 => ?_)) (fun hF => ?_))
    · unfold mTReply
      rw [hne]; exact r5
    · rw [hne] at hF; cases hF
  · refine sb_cons (s_if (ET.tj (et_not (et_lst (ee_var 4)))) (fun hT => ?_) (fun hF G4 H4 x4 => sb_nil (E := { nx := fun γ' G' H' => SB _ _ _ γ' G' H' _ }) ?_))
    · rw [isEmpty_map'] at hT
      cases e : mReplies c l n with
      | nil => exact absurd e hne
      | cons y ys => rw [e] at hT; cases hT
    · have hp : 0 < (mReplies c l n).length := List.length_pos_iff.mpr hne
      obtain ⟨h1, h2⟩ := mod_ix (mAsk t l n) hne
      have ask : ∀ {X : Cx} {γ : List SV} {e1 e2 e3 : Expr}, True := fun {_ _ _ _ _} => trivial
      refine sb_cons (s_set 5 scTReply.nd (d := .int (mAsk t l n)) (EE.vj (dlook_tb t l n ▸ ee_get2 (k := nk2 (l, n)) hr.units (ee_fld (ee_var 0) TF.cl TF.nN rfl) (ee_tup (ea_cons (ee_tuple (ee_var 2) B.tuple) (ea_cons (ee_var 3) ea_nil)) l2) (ee_fld (ee_var 0) TF.cl TF.nO rfl) (kd_lay2 (l, n)))) fun G5 H5 x5 => ?_)
      refine sb_one (s_ret (EE.vj (ee_ixL (ee_var 4) (ee_mod (ee_intI (ee_var 5) B.int) (ee_lenM (ee_var 4) B.len) (by omega)) (at_nat (d := encRep ((mReplies c l n)[(mAsk t l n % ((mReplies c l n).length : Int)).toNat])) h1 (by rw [List.getElem?_map, List.getElem?_eq_getElem h2]; rfl)))) fun v G6 H6 x6 r6 => ?_)
      unfold mTReply
      rw [List.getElem?_eq_getElem h2]
      exact r6

def rDefeated (Gm Tc C : Addr) (ds : List D) (d : D) : Prop := ∃ (c : Ctr) (r : Rk) (t : Tbl) (k : Nat) (out : Option Int), Cok c ∧ mDf c r t k [] 0 = some out ∧ ds = [encGm Gm C c r, encTbl Tc t] ∧ d = encO out
theorem scDefeated : FnScope ["game", "table", "layout", "count", "move", "reply"] ["game", "table"] (defScope sDefeated) := ⟨rfl, rfl, rfl, by decide +kernel, rfl, by decide +kernel, by decide +kernel⟩
theorem prog_req {c : Ctr} {r : Rk} {l : Lay} {n : Int} (h : mProg c r l = some (.req n)) : n ∈ mReqable c l := by
  unfold mProg at h
  split at h
  · cases h
  · split at h
    · cases h
    · rename_i k hk _ hf
      cases e : (mReqable c l).find? fun n => (mReplies c l n).all fun rp => mBelow r (mAfter l n rp) k with
      | none => rw [e] at h; cases h
      | some m =>
        rw [e] at h
        cases h
        exact List.mem_of_find?_eq_some e
theorem isNon_encMO (o : Option Mv) : isNon (encMO o) = o.isNone := by
  cases o with
  | none => rfl
  | some m => cases m <;> rfl
theorem df_some {c : Ctr} {r : Rk} {t : Tbl} {m : Nat} {l : Lay} {cnt : Int} {out : Option Int} (h : mDf c r t m l cnt = some out) : ∃ k, m = k + 1 ∧ Sml l ∧ (match mProg c r l with
    | none => some none
    | some (.rel i) => mDf c r t k (mWithout l i) (cnt + 1)
    | some (.req n) => match mTReply c t l n with
      | none => some (some (cnt + 1))
      | some rp => mDf c r t k (mAfter l n rp) (cnt + 1)) = some out := by
  cases m with
  | zero => cases h
  | succ k =>
    unfold mDf at h
    split at h
    case isTrue hs => exact ⟨k, rfl, sml_of hs, h⟩
    case isFalse => cases h
theorem ok_defeated {f C Gm Tc : Addr} {fd : FuncData} (F : Fun K "defeated" "defeated" sDefeated f fd) (GF : GmF K Gm) (L1 : Mk2 P w K mg base T 6 Gm "program_move" (rProg Gm C)) (L2' : Dk P w K mg base T 1 "without" rWithout) (L3 : Mk2 P w K mg base T 6 Tc "reply" (rTReply Tc C)) (L4 : Dk P w K mg base T 3 "after_reply" rAfter) :
    FnOk P w K mg base CX0 7 f fd ["game", "table"] (spR P w T (rDefeated Gm Tc C)) := by
  refine def_ok F scDefeated (fun ds d h => by obtain ⟨c, r, t, k, out, _, _, rfl, _⟩ := h; rfl) (fun cdv A outer s H E G ds d hr wf h => ?_)
  obtain ⟨c, r, t, k, out, hc, hk, rfl, rfl⟩ := h
  obtain ⟨_, _, hs0, _⟩ := df_some hk
  refine sb_cons (s_set 2 scDefeated.nd (EE.vj (d := encL []) (ee_lst ea_nil (Nat.zero_le _))) fun G1 H1 x1 => ?_)
  refine sb_cons (s_set 3 scDefeated.nd (EE.vj ee_int) fun G2 H2 x2 => ?_)
  refine sb_cons (s_set 4 scDefeated.nd (EE.vj (ee_meth L1 hr (ee_var 0) (by decide +kernel) (ea_cons (ee_var 2) ea_nil) ⟨c, r, [], hc, hs0, rfl, rfl⟩)) fun G3 H3 x3 => ?_)
  refine sb_cons (s_while (fun m γ' G' H' => ∃ (l : Lay) (cnt : Int), γ' = [.dat (encGm Gm C c r), .dat (encTbl Tc t), .dat (encL l), .dat (.int cnt), .dat (encMO (mProg c r l)), .und] ∧ mDf c r t m l cnt = some out) k ⟨[], 0, rfl, hk⟩ ?_)
  rintro m γ' G' H' g' x' ⟨l, cnt, rfl, hdf⟩
  obtain ⟨m', rfl, hl, hd⟩ := df_some hdf
  have hll := hl.len
  refine ⟨!(mProg c r l).isNone, isNon_encMO (mProg c r l) ▸ ET.tj (et_c c_notN (ee_var 4) ee_non), fun hT G4 H4 x4 => ?_, fun hF G4 H4 x4 => ?_⟩
  · cases hp : mProg c r l with
    | none => rw [hp] at hT; cases hT
    | some mv =>
    rw [hp] at hd
    refine sb_cons (s_inc 3 scDefeated.nd rfl ee_int fun G5 H5 x5 => ?_)
    cases mv with
    | rel i =>
      have hd' : mDf c r t m' (mWithout l i) (cnt + 1) = some out := hd
      obtain ⟨_, _, hl', _⟩ := df_some hd'
      refine sb_if (fun γ6 G6 H6 => γ6 = [.dat (encGm Gm C c r), .dat (encTbl Tc t), .dat (encL (mWithout l i)), .dat (.int (cnt + 1)), .und, .und]) (ET.tj (et_c (c_eqS (i := "release") (j := "release")) (ee_ixT (ee_var 4) ee_int rfl) ee_str)) (fun hT2 G6 H6 x6 => ?_) (fun hF2 => ?_) ?_
      · exact sb_cons (s_set 2 scDefeated.nd (EE.vj (ee_call (L2'.mono (by decide)) hr (ea_cons (ee_var 2) (ea_cons (ee_ixT (ee_var 4) ee_int rfl) ea_nil)) ⟨l, i, by omega, rfl, rfl⟩)) fun G7 H7 x7 => sb_forget [4, 5] (sb_nil rfl))
      · simp at hF2
      · rintro γ6 G6 H6 g6 x6 rfl
        exact sb_cons (s_set 4 scDefeated.nd (EE.vj (ee_meth L1 hr (ee_var 0) (by decide +kernel) (ea_cons (ee_var 2) ea_nil) ⟨c, r, mWithout l i, hc, hl', rfl, rfl⟩)) fun G7 H7 x7 => sb_nil ⟨m', Nat.lt_succ_self m', mWithout l i, cnt + 1, rfl, hd'⟩)
    | req n =>
      have hn3 := prog_req hp
      refine sb_if (fun γ6 G6 H6 => ∃ rp, mDf c r t m' (mAfter l n rp) (cnt + 1) = some out ∧ γ6 = [.dat (encGm Gm C c r), .dat (encTbl Tc t), .dat (encL (mAfter l n rp)), .dat (.int (cnt + 1)), .und, .und]) (ET.tj (et_c (c_eqS (i := "request") (j := "release")) (ee_ixT (ee_var 4) ee_int rfl) ee_str)) (fun hT2 => absurd hT2 (by decide)) (fun hF2 G6 H6 x6 => ?_) ?_
      · refine sb_cons (s_set 5 scDefeated.nd (EE.vj (ee_meth L3 hr (ee_var 1) (by decide +kernel) (ea_cons (ee_fld (ee_var 0) GF.cl GF.nC rfl) (ea_cons (ee_var 2) (ea_cons (ee_ixT (ee_var 4) ee_int rfl) ea_nil))) ⟨c, t, l, n, hc, hl, hn3, rfl, rfl⟩)) fun G7 H7 x7 => ?_)
        cases hrp : mTReply c t l n with
        | none =>
          have e : some (some (cnt + 1)) = some out := by
            have hd2 : (match mTReply c t l n with
              | none => some (some (cnt + 1))
              | some rp => mDf c r t m' (mAfter l n rp) (cnt + 1)) = some out := hd
            rw [hrp] at hd2; exact hd2
          refine sb_cons (s_if (ET.tj (et_c c_isN (ee_var 5) ee_non)) (fun hT3 G8 H8 x8 => sb_one (s_ret (EE.vj (ee_var 3)) fun v G9 H9 x9 r9 => ?_)) (fun hF3 => by cases hF3))
          rw [← Option.some.inj e]; exact r9
        | some rp =>
          have hd' : mDf c r t m' (mAfter l n rp) (cnt + 1) = some out := by
            have hd2 : (match mTReply c t l n with
              | none => some (some (cnt + 1))
              | some rp => mDf c r t m' (mAfter l n rp) (cnt + 1)) = some out := hd
            rw [hrp] at hd2; exact hd2
          refine sb_cons (s_if (ET.tj (et_c c_isN (ee_var 5) ee_non)) (fun hT3 => by cases hT3) (fun hF3 G8 H8 x8 => sb_nil (E := { nx := fun γ' G' H' => SB _ _ _ γ' G' H' _ }) ?_))
          exact sb_cons (s_set 2 scDefeated.nd (EE.vj (ee_call (L4.mono (by decide)) hr (ea_cons (ee_var 2) (ea_cons (ee_ixT (ee_var 4) ee_int rfl) (ea_cons (ee_var 5) ea_nil))) ⟨l, n, rp, by omega, rfl, rfl⟩)) fun G9 H9 x9 => sb_forget [4, 5] (sb_nil ⟨rp, hd', rfl⟩))
      · rintro γ6 G6 H6 g6 x6 ⟨rp, hd', rfl⟩
        obtain ⟨_, _, hl', _⟩ := df_some hd'
        exact sb_cons (s_set 4 scDefeated.nd (EE.vj (ee_meth L1 hr (ee_var 0) (by decide +kernel) (ea_cons (ee_var 2) ea_nil) ⟨c, r, mAfter l n rp, hc, hl', rfl, rfl⟩)) fun G7 H7 x7 => sb_nil ⟨m', Nat.lt_succ_self m', mAfter l n rp, cnt + 1, rfl, hd'⟩)
  · have hp : mProg c r l = none := by simpa using hF
    rw [hp] at hd
    have e : none = out := Option.some.inj hd
    refine sb_one (s_ret (EE.vj ee_non) fun v G5 H5 x5 r5 => ?_)
    rw [← e]; exact r5
end
end HG

set_option Elab.async false
set_option linter.all false
set_option maxRecDepth 100000
set_option maxHeartbeats 4000000
/-! The walk: the law's own, first part. -/
namespace HG
open PySem L2
abbrev sLLive : Stmt := topS 38
abbrev sApart : Stmt := topS 39
abbrev sLPos : Stmt := topS 40
abbrev sLAllowed : Stmt := topS 41
theorem fm_spec (ns : List Int) : ∀ i, i ≤ ns.length → ((PyProof.Rows.firstMet (fun i => ns.getD i 0) i).length ≤ i) ∧ ((PyProof.Rows.firstMet (fun i => ns.getD i 0) i).length = i ↔ (ns.take i).Nodup)
  | 0, _ => ⟨by simp [PyProof.Rows.firstMet_zero], by simp [PyProof.Rows.firstMet_zero]⟩
  | i + 1, hi => by
    obtain ⟨h1, h2⟩ := fm_spec ns i (by omega)
    have e2 : ns.take (i + 1) = ns.take i ++ [ns[i]] := by rw [List.take_add_one, List.getElem?_eq_getElem hi] <;> rfl
    have e1 : ns.getD i 0 = ns[i] := by rw [List.getD_eq_getElem?_getD, List.getElem?_eq_getElem hi] <;> rfl
    have em : (PyProof.Rows.firstMet (fun i => ns.getD i 0) i).any (· == ns[i]) = decide (ns[i] ∈ ns.take i) := by
      rw [PyProof.Rows.firstMet_any]
      have e3 : (List.range i).map (fun i => ns.getD i 0) = ns.take i := by
        apply List.ext_getElem?
        intro j
        rw [List.getElem?_map, List.getElem?_take]
        by_cases hj : j < i
        · rw [List.getElem?_range hj, if_pos hj, List.getElem?_eq_getElem (by omega)]
          simp only [Option.map_some]
          rw [List.getD_eq_getElem?_getD, List.getElem?_eq_getElem (by omega)]; rfl
        · rw [if_neg hj, List.getElem?_eq_none (by simpa using hj)]; rfl
      rw [e3, List.any_beq']
      simp
    rw [PyProof.Rows.firstMet_succ, e2]
    unfold PyProof.Rows.step_dedup
    rw [e1, em]
    by_cases hm : ns[i] ∈ ns.take i
    · rw [if_pos (by simpa using hm)]
      refine ⟨by omega, ⟨fun h => by omega, fun h => ?_⟩⟩
      exact absurd rfl ((List.nodup_append.mp h).2.2 _ hm _ (by simp))
    · rw [if_neg (by simpa using hm), List.length_append, List.length_singleton]
      refine ⟨by omega, ⟨fun h => ?_, fun h => ?_⟩⟩
      · refine List.nodup_append.mpr ⟨h2.mp (by omega), by simp, fun a ha b hb => ?_⟩
        rw [List.mem_singleton.mp hb]
        exact fun e => hm (e ▸ ha)
      · have := h2.mpr (List.nodup_append.mp h).1
        omega
section
variable {T : List Addr} {X : Cx} {γ : List SV} {a b e : Expr} {p p2 q pos : Pos}
def dcount (ns : List Int) : Nat := (PyProof.Rows.firstMet (fun i => ns.getD i 0) ns.length).length
theorem dcount_nd (ns : List Int) : decide ((ns.length : Int) = (dcount ns : Int)) = decide ns.Nodup := by
  obtain ⟨h1, h2⟩ := fm_spec ns ns.length (Nat.le_refl _)
  rw [List.take_length] at h2
  rw [decide_eq_decide, ← h2]
  unfold dcount
  omega
theorem ee_lenSet {ns : List Int} (h : EE T X a γ (.lst (ns.map .int))) (hz : ns.length ≤ 4000) (hm : X.mg "len" = none) (hm2 : X.mg "set" = none) (hc : X.calm = true := by rfl) (hg : Gl X "len" := by rfl) (hg2 : Gl X "set" := by rfl)
    (na : starEach [a] X.env = (false, eval a X.env) :: starEach [] X.env := by rfl) : EE T X (.Call (.Name "len" p) [.Call (.Name "set" p2) [a] [] q] [] pos) γ (.int (dcount ns)) := fun σ G H Q wf env k pins s I => by
  refine PyProof.Rows.Call_ (ld_blt I hg hm PySem.boot_len ?_)
  refine PyProof.Rows.callWith_builtin1 (PyProof.Rows.args_cons ?_ rfl) rfl rfl
  refine PyProof.Rows.Call_ (ld_blt I hg2 hm2 (show bootBuiltins "set" = some (.type "set") by decide +kernel) ?_)
  refine PyProof.Rows.callWith_type1 (PyProof.Rows.args_cons (thn (h σ G H (fun v H1 => ∃ G1, Ext T [] G H G1 H1 ∧ DR X.prog X.w G1 v (.lst (ns.map .int))) wf env (fun v G1 H1 x1 r1 => ⟨G1, x1, r1⟩) pins s I) fun v s1 ⟨x, H1, I1, r1, G1, x1, q1⟩ => PyProof.Rows.args_nil ?_) na) na rfl
  obtain ⟨l, vs, rfl, g1, q2⟩ := dr_lst q1
  have e := drs_ints q2
  subst e
  obtain rfl : v = Value.ref l := r1
  obtain ⟨its, r, pl, hz2⟩ := I1.list (SqL.of (x1.wf.sub _ _ g1))
  have hlen : its.toArray.size = ns.length := by rw [List.size_toArray, ← r.length, List.length_map]
  refine PySem.call_set_list (I1.ok.hd hc) pl.isList (by simpa using RZ.intsAre_vals r) (by rw [hlen]; unfold scanBound; omega) fun h' tk hS hk => ?_
  refine PyProof.Rows.args_nil ?_
  rw [hlen] at hS
  obtain ⟨o, es, ep, t, ho, hex, hd, _, _, _, hf, hn⟩ := hS
  have I2 : Inv X pins σ H1 { s1 with heap := h', toks := tk } := I1.kept fun b o e => hk b o (Heap.lt_size e) e
  have hle := (fm_spec ns ns.length (Nat.le_refl _)).1
  exact PySem.call_len_set ho hex hd hf (by rw [hn] <;> omega) ⟨.int (dcount ns), H1, I2.tok _, ⟨_, by rw [hn]; rfl⟩, k _ G1 H1 x1 (.int _)⟩
theorem ee_listRg {i j : Int} (ha : EE T X a γ (.int i)) (hb : EE T X b γ (.int j)) (hm : X.mg "list" = none) (hm2 : X.mg "range" = none) (hok : L2.RgOk i j) (hc : X.calm = true := by rfl) (hg : Gl X "list" := by rfl) (hg2 : Gl X "range" := by rfl)
    (na : starEach [a, b] X.env = (false, eval a X.env) :: starEach [b] X.env := by rfl) (nb : starEach [b] X.env = (false, eval b X.env) :: starEach [] X.env := by rfl) (hp : (backTo q (starEach [b] X.env)).any (·.1) = false := by rfl)
    (nc : starEach [.Call (.Name "range" p2) [a, b] [] q] X.env = (false, eval (.Call (.Name "range" p2) [a, b] [] q) X.env) :: starEach [] X.env := by rfl) : EE T X (.Call (.Name "list" p) [.Call (.Name "range" p2) [a, b] [] q] [] pos) γ (.lst ((rngI i j).map .int)) := fun σ G H Q wf env k =>
  we_of (L2.pe_listRg hc hg hm (L2.prg_2 hg2 hm2 pe_w pe_w na nb hp) nc) (ha σ G H _ wf env fun v G1 H1 x1 r1 => hb σ G1 H1 _ x1.wf (env.up x1.g) fun u G2 H2 x2 r2 => by
    refine ⟨i, j, dr_int r1, dr_int r2, hok, fun q hq => ?_⟩
    have e : L2.rgV i j = (rngI i j).map V.int := by
      unfold L2.rgV rngI
      rw [List.map_map]; rfl
    rw [e]
    exact k _ _ _ ((x1.tr x2).tr (Ext.newG x2.wf hq)) (dr_newL x2.wf hq of_ints))

theorem at_map {α : Type} {xs : List α} {enc : α → D} {i : Nat} {x : α} (h : xs[i]? = some x) : atI (xs.map enc) (i : Int) = some (enc x) := at_nat (by omega) (by rw [List.getElem?_map]; simp [h])
/-- an item of a list that changes -/
theorem vj_ixM {G H : Hp} {l : Addr} {ds : List D} {d : D} {i : Int} {o : Expr} (ho : ∀ G' H', EV X o γ G' H' (.ref l)) (hi : EE T X b γ (.int i)) (hm : ML X.prog X.w G H l ds) (hat : atI ds i = some d) (hs : PlainIx b := by exact fun _ _ => rfl) : VJ T X (.Subscript o b pos) γ G H d := fun σ Q wf env k =>
  we_of (pe_ix ix_list pe_w pe_w hs) (ho G H σ _ env (hi σ G H _ wf env fun u G2 H2 x2 r2 => by
    obtain ⟨g2, vs, hl, q1⟩ := hm.ex wf x2
    have hlen := q1.length
    unfold atI at hat
    rw [← hlen] at hat
    cases e : ixN vs.length i with
    | none => rw [e] at hat; cases hat
    | some j =>
      rw [e] at hat
      obtain ⟨y, hy, ry⟩ := q1.get (i := j) hat
      exact ⟨l, vs, i, y, rfl, dr_int r2, SqL.of hl, by unfold atI; rw [e]; exact hy, k _ _ _ x2 ry⟩))
end
section
variable {P : Program} {w : World} {K : PySem.W.Frag} {mg : Str → Option Value} {base : Heap} {T : List Addr}
theorem scLLive : FnScope ["_law_layout", "_law_block"] ["_law_layout"] (defScope sLLive) := ⟨rfl, rfl, rfl, by decide +kernel, rfl, by decide +kernel, by decide +kernel⟩
theorem ok_lLive {f : Addr} {fd : FuncData} (F : Fun K "_law_live" "_law_live" sLLive f fd) (B : Bt mg) : FnOk P w K mg base CX0 1 f fd ["_law_layout"] (spR P w T rLive) := by
  refine def_ok F scLLive (fun ds d h => by obtain ⟨l, _, rfl, _⟩ := h; rfl) (fun cdv A outer s H E G ds d hr wf h => ?_)
  obtain ⟨l, hl, rfl, rfl⟩ := h
  exact sb_one (s_ret (EE.vj (ee_sum (ns := l.map Prod.snd) (ee_lc (xs := l) encB _ _ (fun _ => true) (fun b => .int b.2) rfl scLLive.nd (blkOk_by (N := ["_law_layout", "_law_block"]) (sc := defScope sLLive) (own := [("_law_block", 1)]) (by decide +kernel)) (src_lst (ee_var 0)) (by decide)
    (fun _ _ _ _ _ x _ => gt_name 1 scLLive.nd) (fun _ _ _ _ _ x _ => ets_nil) (fun _ _ _ _ _ x _ _ => ee_ixT (ee_var 1) ee_int rfl) (line1000 hl) (by rw [filter_yes, List.map_map]; rfl)) rfl B.sum)) fun v G' H' x r => r)

def rApart (ds : List D) (d : D) : Prop := ∃ (size : Int) (bl : Lay), bl.length ≤ 8 ∧ (∀ b ∈ bl, 0 ≤ b.1 ∧ b.1 ≤ 10 ∧ 1 ≤ b.2 ∧ b.2 ≤ 3) ∧ ds = [.int size, encL bl] ∧ d = .bl (mApart size bl)
theorem scApart : FnScope ["_law_size", "_law_blocks", "_law_cells", "_law_start", "_law_length", "_law_cell_here"] ["_law_size", "_law_blocks"] (defScope sApart) := ⟨rfl, rfl, rfl, by decide +kernel, rfl, by decide +kernel, by decide +kernel⟩
theorem ok_apart {f : Addr} {fd : FuncData} (F : Fun K "_law_apart" "_law_apart" sApart f fd) (B : Bt mg) : FnOk P w K mg base CX0 1 f fd ["_law_size", "_law_blocks"] (spR P w T rApart) := by
  refine def_ok F scApart (fun ds d h => by obtain ⟨s, l, _, _, rfl, _⟩ := h; rfl) (fun cdv A outer s H E G ds d hr wf h => ?_)
  obtain ⟨size, bl, hl, hb, rfl, rfl⟩ := h
  have clen : ∀ i, ((bl.take i).flatMap fun b => rngI b.1 (b.1 + b.2)).length ≤ 24 := fun i => by
    have h1 := flatMap_le (xs := bl.take i) (f := fun b => rngI b.1 (b.1 + b.2)) (k := 3) fun b hb' => by
      have := hb b (List.mem_of_mem_take hb')
      rw [rngI_len]; omega
    rw [List.length_take] at h1
    omega
  refine sb_cons (s_set 2 scApart.nd (EE.vj (d := .lst (([] : List Int).map .int)) (ee_lst ea_nil (Nat.zero_le _))) fun G1 H1 x1 => ?_)
  refine sb_cons (s_for rfl (src_lst (ee_var 1)) (fun i γ' _ _ => γ' = [.dat (.int size), .dat (encL bl), .dat (.lst (((bl.take i).flatMap fun b => rngI b.1 (b.1 + b.2)).map .int)), .und, .und, .und]) (fun G' H' x' => rfl) ?_ ?_)
  · rintro i d γ' G' H' hd g' x' rfl G2 H2 x2
    rw [List.getElem?_map] at hd
    cases hbi : bl[i]? with
    | none => rw [hbi] at hd; cases hd
    | some b =>
      rw [hbi] at hd
      cases hd
      have hb' := hb b (List.mem_of_getElem? hbi)
      have c1 := clen i
      have e : bl.take (i + 1) = bl.take i ++ [b] := by rw [List.take_add_one, hbi]; rfl
      refine ⟨_, _, gt_pair rfl (gt_name 3 scApart.nd) (gt_name 4 scApart.nd), sb_cons (s_set 2 scApart.nd (EE.vj (ee_cat (ee_var 2) (ee_listRg (ee_var 3) (ee_add (ee_var 3) (ee_var 4)) B.list B.range (by unfold RgOk; omega)) (line1000 (by simp only [List.length_map, rngI_len]; omega)))) fun G3 H3 x3 => sb_forget [3, 4] (sb_nil ?_))⟩
      rw [e, List.flatMap_append, List.map_append]
      simp only [List.flatMap_cons, List.flatMap_nil, List.append_nil]
      rfl
  · rintro γ' G' H' g' x' rfl
    rw [List.length_map, List.take_length]
    have c1 := clen bl.length
    rw [List.take_length] at c1
    unfold mApart
    generalize (bl.flatMap fun b => rngI b.1 (b.1 + b.2)) = cells at *
    have en : ∀ ns : List Int, flatD (.lst (ns.map .int)) = true ∧ (pd (.lst (ns.map .int))).canLay0 = true ∧ (pd (.lst (ns.map .int))).depth ≤ 60 := fun ns => by
      refine ⟨flat_is ns, ?_, ?_⟩
      · show PyData.canLayAll0 (pds (ns.map .int)) = true
        rw [pds_ints]
        exact canAll _ (fun x => by simp [PyData.canLay0]) ns
      · show (PyData.list (pds (ns.map .int))).depth ≤ 60
        rw [pds_ints]
        simp [PyData.depth, PySem.W.depth_ints]
    refine sb_one (s_ret (EE.vj (ee_and (b1 := decide ((cells.length : Int) = (dcount cells : Int))) (b2 := ((cells.filter fun x => !(decide (0 ≤ x) && decide (x < size))).map D.int).isEmpty) (ee_c c_eq (ee_lenM (ee_var 2) B.len) (ee_lenSet (ee_var 2) (by omega) B.len B.set)) fun _ => ee_c (c_eqNil hr.units (en _)) (ee_lc (xs := cells) D.int _ _ (fun x => !(decide (0 ≤ x) && decide (x < size))) D.int rfl scApart.nd (blkOk_by (N := ["_law_size", "_law_blocks", "_law_cells", "_law_start", "_law_length", "_law_cell_here"]) (sc := defScope sApart) (own := [("_law_cell_here", 5)]) (by decide +kernel)) (src_lst (ee_var 2)) (by decide)
      (fun _ _ _ _ _ x _ => gt_name 5 scApart.nd) (fun _ _ _ _ _ x _ => ets_one (et_not (et_chain (r := fun _ _ _ _ => True) (r' := fun _ _ _ _ => True) c_le c_lt ee_int (ee_var 5) (ee_var 0)))) (fun _ _ _ _ _ x _ _ => ee_var 5) (line1000 (by omega)) rfl) (ee_lst ea_nil (Nat.zero_le _)))) fun v G3 H3 x3 r3 => ?_)
    rw [dcount_nd, isEmpty_map'] at r3
    exact r3

theorem scLAllowed : FnScope ["_law_contract_here", "_law_layout", "_law_length"] ["_law_contract_here", "_law_layout"] (defScope sLAllowed) := ⟨rfl, rfl, rfl, by decide +kernel, rfl, by decide +kernel, by decide +kernel⟩
theorem ok_lAllowed {f C : Addr} {fd : FuncData} (F : Fun K "_law_allowed" "_law_allowed" sLAllowed f fd) (CF : CtrF K C) (L : Dk P w K mg base T 1 "_law_live" rLive) : FnOk P w K mg base CX0 2 f fd ["_law_contract_here", "_law_layout"] (spR P w T (rReqable C)) := by
  refine def_ok F scLAllowed (fun ds d h => by obtain ⟨c, l, _, _, rfl, _⟩ := h; rfl) (fun cdv A outer s H E G ds d hr wf h => ?_)
  obtain ⟨c, l, hl, hc, rfl, rfl⟩ := h
  exact sb_one (s_ret (EE.vj (ee_lc (xs := c.lens) D.int _ _ _ _ rfl scLAllowed.nd (blkOk_by (N := ["_law_contract_here", "_law_layout", "_law_length"]) (sc := defScope sLAllowed) (own := [("_law_length", 2)]) (by decide +kernel)) (src_lst (ee_fld (ee_var 0) CF.cl CF.nLens rfl)) (by decide)
    (fun _ _ _ _ _ x _ => gt_name 2 scLAllowed.nd) (fun _ _ _ _ _ x _ => ets_one (et_c c_le (ee_add (ee_call L hr (ea_cons (ee_var 1) ea_nil) ⟨l, hl, rfl, rfl⟩) (ee_var 2)) (ee_fld (ee_var 0) CF.cl CF.nLimit rfl))) (fun _ _ _ _ _ x _ _ => ee_var 2) (line1000 hc) rfl)) fun v G' H' x r => r)

def rLPos (C : Addr) (ds : List D) (d : D) : Prop := ∃ (c : Ctr) (ps : List Lay), Cok c ∧ mLPos c = some ps ∧ ds = [encC C c] ∧ d = .lst (ps.map encL)
theorem scLPos : FnScope ["_law_contract_here", "_law_found", "_law_place", "_law_layout", "_law_end", "_law_start", "_law_length"] ["_law_contract_here"] (defScope sLPos) := ⟨rfl, rfl, rfl, by decide +kernel, rfl, by decide +kernel, by decide +kernel⟩
theorem ok_lPos {f C : Addr} {fd : FuncData} (F : Fun K "_law_positions" "_law_positions" sLPos f fd) (B : Bt mg) (CF : CtrF K C) (L1 : Dk P w K mg base T 1 "_law_live" rLive) : FnOk P w K mg base CX0 2 f fd ["_law_contract_here"] (spR P w T (rLPos C)) := by
  refine def_ok F scLPos (fun ds d h => by obtain ⟨s, l, _, _, rfl, _⟩ := h; rfl) (fun cdv A outer s H E G ds d hr wf h => ?_)
  obtain ⟨c, ps, hc, hps, rfl, rfl⟩ := h
  have hs1 := hc.s1
  have hs2 := hc.s2
  unfold mLPos at hps
  cases hout : mLPosGo c 60 0 [[]] with
  | none => rw [hout] at hps; cases hps
  | some out =>
  rw [hout] at hps
  have hps' : isort leL out = ps := Option.some.inj hps
  refine sb_cons (s_newL 1 scLPos.nd (ea_cons (ee_lst ea_nil (Nat.zero_le _)) ea_nil) l1 fun a G1 H1 hn1 ha0 x1 m1 => sb_ext fun xa => ?_)
  refine sb_cons (s_set 2 scLPos.nd (EE.vj ee_int) fun G2 H2 x2 => ?_)
  refine sb_cons (s_while (fun m γ' G' H' => ∃ (i : Nat) (fo : List Lay), γ' = [.dat (encC C c), .val (.ref a), .dat (.int (i : Int)), .und, .und, .und, .und] ∧ ML P w G' H' a (fo.map encL) ∧ mLPosGo c m i fo = some out) 60 ⟨0, [[]], rfl, m1.ex xa.wf x2, hout⟩ ?_)
  rintro m γ' G' H' g' x' ⟨i, fo, rfl, mf, hgo⟩
  refine ⟨decide ((i : Int) < (fo.length : Int)), tj_ml 1 rfl x'.wf mf (et_c c_lt (ee_var 2) (ee_lenM (ee_var 1) B.len)), fun hT G3 H3 x3 => ?_, fun hF G3 H3 x3 => ?_⟩
  · have hi : i < fo.length := by
      have : (i : Int) < (fo.length : Int) := by simpa using hT
      omega
    cases m with
    | zero => cases hgo
    | succ m =>
    unfold mLPosGo at hgo
    rw [List.getElem?_eq_getElem hi] at hgo
    generalize hlx : fo[i] = l at *
    simp only [Bool.and_eq_true, decide_eq_true_eq] at hgo
    split at hgo
    case isFalse => cases hgo
    case isTrue hgd =>
    obtain ⟨hg1, hg3⟩ := hgd
    have hl := sml_of hg3
    have hll := hl.len
    obtain ⟨he1, he2⟩ := sml_end hl
    have mf3 := mf.ex x'.wf x3
    refine sb_ext fun xc => sb_cons (s_set 3 scLPos.nd (d := encL l) (vj_ixM (fun _ _ => ev_var 1) (ee_var 2) mf3 (at_map (by rw [List.getElem?_eq_getElem hi, hlx]))) fun G4 H4 x4 => sb_ext fun xd => ?_)
    have mf4 := mf3.ex xc.wf x4
    refine sb_cons (s_set 2 scLPos.nd (EE.vj (ee_add (ee_var 2) ee_int)) fun G5 H5 x5 => sb_ext fun xe => ?_)
    have mf5 := mf4.ex xd.wf x5
    refine sb_cons (s_set 4 scLPos.nd (EE.vj ee_int) fun G6 H6 x6 => sb_ext fun xf => ?_)
    have m6 := mf5.ex xe.wf x6
    refine sb_if (fun γ7 G7 H7 => γ7 = [.dat (encC C c), .val (.ref a), .dat (.int ((i : Int) + 1)), .dat (encL l), .dat (.int (mEnd l)), .und, .und] ∧ ML P w G7 H7 a (fo.map encL)) (ET.tj (et_lst (ee_var 3))) (fun hT2 G7 H7 x7 => ?_) (fun hF2 G7 H7 x7 => ?_) ?_
    · have hne : l ≠ [] := fun e => by rw [e] at hT2; cases hT2
      obtain ⟨q, hq⟩ : ∃ q, l.getLast? = some q := by
        cases e : l.getLast? with
        | none => exact absurd (List.getLast?_eq_none_iff.mp e) hne
        | some q => exact ⟨q, rfl⟩
      refine sb_ext fun xg => sb_cons (s_set 4 scLPos.nd (EE.vj (ee_add (ee_ixT (ee_ixL (ee_var 3) (ee_neg ee_int) (at_last hq)) ee_int rfl) (ee_ixT (ee_ixL (ee_var 3) (ee_neg ee_int) (at_last hq)) ee_int rfl))) fun G8 H8 x8 => sb_nil ⟨?_, ?_⟩)
      · rw [mEnd_last hq]; rfl
      · exact (m6.ex xf.wf x7).ex xg.wf x8
    · have hne : l = [] := by
        cases l with
        | nil => rfl
        | cons _ _ => cases hF2
      subst hne
      exact sb_nil ⟨rfl, m6.ex xf.wf x7⟩
    · rintro γ7 G7 H7 g7 x7 ⟨rfl, mb7⟩
      have hmap : (mExt c l).map encL = (rngI (mEnd l) c.size).flatMap fun s => (c.lens.flatMap fun n => (mExt1 c l s n).map encL) := by
        unfold mExt
        simp only [List.map_flatMap]
      have hlen : (fo.map encL).length + ((rngI (mEnd l) c.size).flatMap fun s => (c.lens.flatMap fun n => (mExt1 c l s n).map encL)).length ≤ 1000 := by
        rw [← hmap, List.length_map, List.length_map]
        omega
      refine sb_cons (s_forApp (xs := rngI (mEnd l) c.size) D.int _ _ (fun s => c.lens.flatMap fun n => (mExt1 c l s n).map encL) (fun _ _ => True) 1000 rfl (src_rng2 (ea_cons (ee_var 4) (ea_cons (ee_fld (ee_var 0) CF.cl CF.nSize rfl) ea_nil)) B.range (by omega)) (fun _ _ _ _ _ _ _ => trivial) trivial mb7 hlen x7.wf (fun x _ => gt_name 5 scLPos.nd) ?_ ?_)
      · intro s0 hs0 acc G8 H8 g8 x8 _ m8 hacc
        refine sb_cons (s_forApp (xs := c.lens) D.int _ _ (fun n => (mExt1 c l s0 n).map encL) (fun _ _ => True) 1000 rfl (src_lst (ee_fld (ee_var 0) CF.cl CF.nLens rfl)) (fun _ _ _ _ _ _ _ => trivial) trivial m8 hacc x8.wf (fun x _ => gt_name 6 scLPos.nd) ?_ ?_)
        · intro n hn acc2 G9 H9 g9 x9 _ m9 hacc2
          refine sb_one (s_if (ET.tj (et_and (et_c c_le (ee_add (ee_var 5) (ee_var 6)) (ee_fld (ee_var 0) CF.cl CF.nSize rfl)) fun _ => et_c c_le (ee_add (ee_call L1 hr (ea_cons (ee_var 3) ea_nil) ⟨l, by omega, rfl, rfl⟩) (ee_var 6)) (ee_fld (ee_var 0) CF.cl CF.nLimit rfl))) (fun hT3 G10 H10 x10 => ?_) (fun hF3 G10 H10 x10 => ?_))
          · have e : mExt1 c l s0 n = [l ++ [(s0, n)]] := by unfold mExt1; rw [if_pos hT3]
            refine sb_cons (s_append (d := encL (l ++ [(s0, n)])) (ev_var 1) (EE.vj (ee_snocM (xs := l) (x := (s0, n)) (enc := encB) (ee_var 3) (ee_tup (ea_cons (ee_var 5) (ea_cons (ee_var 6) ea_nil)) l2) (by omega))) (m9.ex x9.wf x10) (line100 hacc2) (.inr ha0) fun G11 H11 x11 m11 => sb_forget [6] (sb_nil ⟨rfl, trivial, ?_⟩))
            rw [e]; exact m11
          · have e : mExt1 c l s0 n = [] := by unfold mExt1; rw [if_neg (by rw [hF3]; exact Bool.false_ne_true)]
            refine sb_forget [6] (sb_nil ⟨rfl, trivial, ?_⟩)
            rw [e, List.map_nil, List.append_nil]
            exact m9.ex x9.wf x10
        · intro G9 H9 g9 x9 _ m9
          exact sb_forget [5, 6] (sb_nil ⟨rfl, trivial, m9⟩)
      · intro G8 H8 g8 x8 _ m8
        refine sb_forget [3, 4, 5, 6] (sb_nil ⟨m, Nat.lt_succ_self m, i + 1, fo ++ mExt c l, rfl, ?_, hgo⟩)
        rw [List.map_append, hmap]
        exact m8
  · have hi : ¬ i < fo.length := by
      have : ¬ (i : Int) < (fo.length : Int) := by simpa using hF
      omega
    cases m with
    | zero => cases hgo
    | succ m =>
    unfold mLPosGo at hgo
    rw [List.getElem?_eq_none (by omega)] at hgo
    have e : fo = out := Option.some.inj hgo
    subst e
    refine sb_frz 1 rfl (mf.ex x'.wf x3) ha0 fun vs hv => sb_one (s_ret (EE.vj (ee_sortL (ee_var 1) B.sorted hr.units)) fun v G4 H4 x4 r4 => ?_)
    rw [hps'] at r4
    exact r4
end
end HG

set_option Elab.async false
set_option linter.all false
set_option maxRecDepth 100000
set_option maxHeartbeats 4000000
/-! The walk: the law's replies, after, without, forced. -/
namespace HG
open PySem L2
abbrev sLReplies : Stmt := topS 42
abbrev sLAfter : Stmt := topS 43
abbrev sLWithout : Stmt := topS 44
abbrev sLForced : Stmt := topS 47
theorem lstep1_le (c : Ctr) (b : Int × Int) (rl : Row) (s : Int) : (mLStep1 c b rl s).length ≤ 1 := by
  unfold mLStep1
  by_cases h : rl.2 + b.2 * (if s = b.1 then 0 else 1) ≤ c.budget
  · rw [if_pos h]; simp
  · rw [if_neg h]; simp
theorem lstep_le {c : Ctr} {rows : List Row} {b : Int × Int} (hs : c.size ≤ 3) : (mLStep c rows b).length ≤ rows.length * 3 := by
  unfold mLStep
  refine flatMap_le fun rl _ => ?_
  have h := flatMap_le (xs := rngI 0 c.size) (f := fun s => mLStep1 c b rl s) (k := 1) fun p _ => lstep1_le c b rl p
  rw [rngI_len] at h
  omega
theorem lrows_le' {c : Ctr} (hs : c.size ≤ 3) : ∀ {l : Lay} {rows : List Row}, (l.foldl (mLStep c) rows).length ≤ rows.length * 3 ^ l.length
  | [], rows => by simp
  | b :: l, rows => by
    have h1 := lstep_le (rows := rows) (b := b) hs
    have h2 := lrows_le' hs (l := l) (rows := mLStep c rows b)
    rw [List.foldl_cons, List.length_cons, Nat.pow_succ]
    have h3 : (mLStep c rows b).length * 3 ^ l.length ≤ rows.length * 3 * 3 ^ l.length := Nat.mul_le_mul_right _ h1
    have e : rows.length * 3 * 3 ^ l.length = rows.length * (3 ^ l.length * 3) := by rw [Nat.mul_assoc, Nat.mul_comm 3]
    omega
theorem lrows_le {c : Ctr} {l : Lay} (hs : c.size ≤ 3) (h : Sml l) (i : Nat) : (mLRows c (l.take i)).length ≤ 27 := by
  have h1 := lrows_le' hs (l := l.take i) (rows := [([], 0)])
  have h2 : (l.take i).length ≤ 3 := by rw [List.length_take]; have := h.len; omega
  have h3 := pow3 h2
  unfold mLRows
  simp only [List.length_singleton, Nat.one_mul] at h1
  omega
theorem lrows_snoc {c : Ctr} {l : Lay} {i : Nat} {b : Int × Int} (h : l[i]? = some b) : mLRows c (l.take (i + 1)) = mLStep c (mLRows c (l.take i)) b := by
  have e : l.take (i + 1) = l.take i ++ [b] := by rw [List.take_add_one, h]; rfl
  unfold mLRows
  rw [e, List.foldl_append]; rfl
theorem mem_rng {lo hi x : Int} (h : x ∈ rngI lo hi) : lo ≤ x ∧ x < hi := by
  unfold rngI at h
  obtain ⟨i, hi', rfl⟩ := List.mem_map.mp h
  have := List.mem_range.mp hi'
  omega
theorem lrows_ok {c : Ctr} (l : Lay) : ∀ r ∈ mLRows c l, r.1.length = l.length ∧ ∀ x ∈ r.1, 0 ≤ x ∧ x < c.size := by
  have key : ∀ (l : Lay) (rows : List Row) (n : Nat), (∀ r ∈ rows, r.1.length = n ∧ ∀ x ∈ r.1, 0 ≤ x ∧ x < c.size) → ∀ r ∈ l.foldl (mLStep c) rows, r.1.length = n + l.length ∧ ∀ x ∈ r.1, 0 ≤ x ∧ x < c.size := by
    intro l
    induction l with
    | nil => intro rows n h r hr; exact h r hr
    | cons b l ih =>
      intro rows n h r hr
      have := ih (mLStep c rows b) (n + 1) (fun r hr => ?_) r hr
      · rw [List.length_cons]; exact ⟨by have := this.1; omega, this.2⟩
      · unfold mLStep at hr
        obtain ⟨rl, hrl, hr⟩ := List.mem_flatMap.mp hr
        obtain ⟨p, hp, hr⟩ := List.mem_flatMap.mp hr
        have hh := h rl hrl
        have hp' := mem_rng hp
        unfold mLStep1 at hr
        by_cases hcb : rl.2 + b.2 * (if p = b.1 then 0 else 1) ≤ c.budget
        · rw [if_pos hcb] at hr
          rw [List.mem_singleton.mp hr]
          refine ⟨by simp [hh.1], fun x hx => ?_⟩
          rcases List.mem_append.mp hx with z | z
          · exact hh.2 x z
          · rw [List.mem_singleton.mp z]; exact hp'
        · rw [if_neg hcb] at hr; cases hr
  intro r hr
  have := key l [([], 0)] 0 (by simp) r hr
  exact ⟨by have := this.1; omega, this.2⟩
theorem range_placed {l : Lay} {rs : List Int} (h : rs.length = l.length) : ((List.range l.length).map fun k => ((rs.getD k 0, (l.getD k (0, 0)).2) : Int × Int)) = mPlaced l rs := by
  unfold mPlaced
  apply List.ext_getElem?
  intro k
  rw [List.getElem?_map, List.getElem?_zipWith]
  by_cases hk : k < l.length
  · rw [List.getElem?_range hk, List.getElem?_eq_getElem (show k < rs.length by omega), List.getElem?_eq_getElem hk]
    simp only [Option.map_some]
    rw [List.getD_eq_getElem?_getD, List.getD_eq_getElem?_getD, List.getElem?_eq_getElem (show k < rs.length by omega), List.getElem?_eq_getElem hk]; rfl
  · rw [List.getElem?_eq_none (by simpa using hk), List.getElem?_eq_none (show rs.length ≤ k by omega)]; rfl
theorem range_getD {α : Type} (d : α) : ∀ xs : List α, (List.range xs.length).map (fun k => xs.getD k d) = xs := by
  intro xs
  apply List.ext_getElem?
  intro k
  rw [List.getElem?_map]
  by_cases hk : k < xs.length
  · rw [List.getElem?_range hk, List.getElem?_eq_getElem hk]
    simp only [Option.map_some]
    rw [List.getD_eq_getElem?_getD, List.getElem?_eq_getElem hk]; rfl
  · rw [List.getElem?_eq_none (by simpa using hk), List.getElem?_eq_none (by omega)]; rfl
theorem range_without {α : Type} (d : α) : ∀ (xs : List α) (i : Nat), (((List.range xs.length).filter fun (k : Nat) => !decide ((k : Int) = (i : Int))).map fun (k : Nat) => xs.getD k d) = xs.take i ++ xs.drop (i + 1)
  | [], i => by simp
  | x :: xs, i => by
    rw [List.length_cons, List.range_succ_eq_map, List.filter_cons]
    cases i with
    | zero =>
      simp only [decide_true, Bool.not_true, Bool.false_eq_true, if_false, List.take_zero, List.nil_append, List.drop_succ_cons, List.drop_zero]
      rw [List.filter_map, List.map_map]
      have e : (List.range xs.length).filter ((fun k : Nat => !decide ((k : Int) = ((0 : Nat) : Int))) ∘ Nat.succ) = List.range xs.length := by
        apply List.filter_eq_self.mpr
        intro k _
        simp [Function.comp]
        omega
      rw [e]
      exact range_getD d xs
    | succ j =>
      have e0 : (!decide (((0 : Nat) : Int) = ((j + 1 : Nat) : Int))) = true := by simp; omega
      rw [if_pos e0, List.map_cons, List.filter_map, List.map_map, List.take_succ_cons, List.drop_succ_cons]
      have e : ((fun k : Nat => !decide ((k : Int) = ((j + 1 : Nat) : Int))) ∘ Nat.succ) = fun k : Nat => !decide ((k : Int) = (j : Int)) := by
        funext k
        simp only [Function.comp]
        congr 1
        rw [decide_eq_decide]
        omega
      rw [e]
      have ih := range_without d xs j
      rw [List.cons_append, ← ih]; rfl
theorem lfound_le {c : Ctr} {l : Lay} {n : Int} {rl : Row} (hc : Cok c) : (mLFound c l n rl).length ≤ 3 := by
  unfold mLFound
  refine Nat.le_trans (flatMap_le (k := 1) fun s _ => ?_) ?_
  · split <;> simp
  · rw [rngI_len]
    have := hc.s2
    omega
theorem lreplies_le {c : Ctr} {l : Lay} {n : Int} (hc : Cok c) (hl : Sml l) : (mLReplies c l n).length ≤ 81 := by
  unfold mLReplies
  rw [List.length_map, (isort_perm leT _).length_eq]
  refine Nat.le_trans (flatMap_le (k := 3) fun st _ => lfound_le hc) ?_
  have h := lrows_le hc.s2 hl l.length
  rw [List.take_length] at h
  omega
theorem lreplies_row {c : Ctr} {l : Lay} {n : Int} {r : Rep} (h : r ∈ mLReplies c l n) : r.1.length = l.length := by
  unfold mLReplies at h
  obtain ⟨t, ht, rfl⟩ := List.mem_map.mp h
  obtain ⟨rl, hrl, ht⟩ := List.mem_flatMap.mp ((isort_perm leT _).mem_iff.mp ht)
  unfold mLFound at ht
  obtain ⟨s, _, ht⟩ := List.mem_flatMap.mp ht
  split at ht
  · rw [List.mem_singleton.mp ht]
    exact (lrows_ok l rl hrl).1
  · cases ht
section
variable {P : Program} {w : World} {K : PySem.W.Frag} {mg : Str → Option Value} {base : Heap} {T : List Addr}
def rLReplies (C : Addr) (ds : List D) (d : D) : Prop := ∃ (c : Ctr) (l : Lay) (n : Int), Cok c ∧ Sml l ∧ n ∈ mReqable c l ∧ ds = [encC C c, encL l, .int n] ∧ d = .lst ((mLReplies c l n).map encRep)
abbrev nLR : List Str := ["_law_contract_here", "_law_layout", "_law_length", "_law_rows", "_law_block", "_law_longer", "_law_row_here", "_law_start", "_law_price", "_law_found", "_law_blocks", "_law_k", "_law_reply"]
theorem scLReplies : FnScope ["_law_contract_here", "_law_layout", "_law_length", "_law_rows", "_law_block", "_law_longer", "_law_row_here", "_law_start", "_law_price", "_law_found", "_law_blocks", "_law_k", "_law_reply"] ["_law_contract_here", "_law_layout", "_law_length"] (defScope sLReplies) := ⟨rfl, rfl, rfl, by decide +kernel, rfl, by decide +kernel, by decide +kernel⟩
theorem ok_lReplies {f C : Addr} {fd : FuncData} (F : Fun K "_law_replies" "_law_replies" sLReplies f fd) (B : Bt mg) (CF : CtrF K C) (L1 : Dk P w K mg base T 1 "_law_apart" rApart) : FnOk P w K mg base CX0 2 f fd ["_law_contract_here", "_law_layout", "_law_length"] (spR P w T (rLReplies C)) := by
  refine def_ok F scLReplies (fun ds d h => by obtain ⟨s, l, n, _, _, _, rfl, _⟩ := h; rfl) (fun cdv A outer s H E G ds d hr wf h => ?_)
  obtain ⟨c, l, n, hc, hl, hn, rfl, rfl⟩ := h
  obtain ⟨hn1, hn3⟩ := mem_reqable hc hn
  have hs1 := hc.s1
  have hs2 := hc.s2
  have hll := hl.len
  refine sb_cons (s_set 3 scLReplies.nd (EE.vj (d := .lst ((mLRows c (l.take 0)).map encRow)) (ee_lst (ea_cons (ee_tup (ea_cons (ee_lst ea_nil (Nat.zero_le _)) (ea_cons ee_int ea_nil)) l2) ea_nil) l1)) fun G1 H1 x1 => ?_)
  refine sb_cons (s_for rfl (src_lst (ee_var 1)) (fun i γ' _ _ => γ' = [.dat (encC C c), .dat (encL l), .dat (.int n), .dat (.lst ((mLRows c (l.take i)).map encRow)), .und, .und, .und, .und, .und, .und, .und, .und, .und]) (fun G' H' x' => rfl) ?_ ?_)
  · rintro i d γ' G' H' hd g' x' rfl G2 H2 x2
    rw [List.getElem?_map] at hd
    cases hb : l[i]? with
    | none => rw [hb] at hd; cases hd
    | some b =>
      rw [hb] at hd
      cases hd
      obtain ⟨hb1, hb2, hb3, hb4⟩ := hl.bl b (List.mem_of_getElem? hb)
      have hle := lrows_le hs2 hl i
      have hle2 := lstep_le (rows := mLRows c (l.take i)) (b := b) hs2
      refine ⟨_, _, gt_name 4 scLReplies.nd, ?_⟩
      refine sb_cons (s_newL 5 scLReplies.nd ea_nil (Nat.zero_le _) fun a G3 H3 hnn hn0 x3 m3 => sb_ext fun xa => ?_)
      refine sb_cons (s_forApp (xs := mLRows c (l.take i)) encRow _ _ (fun rl => ((rngI 0 c.size).flatMap fun s => (mLStep1 c b rl s).map encRow)) (fun _ _ => True) 1000 rfl (src_lst (ee_var 3)) (fun _ _ _ _ _ _ _ => trivial) trivial m3 ?_ xa.wf (fun x _ => gt_name 6 scLReplies.nd) ?_ ?_)
      · have e : ((mLRows c (l.take i)).flatMap fun rl => (rngI 0 c.size).flatMap fun s => (mLStep1 c b rl s).map encRow) = (mLStep c (mLRows c (l.take i)) b).map encRow := by
          unfold mLStep
          simp only [List.map_flatMap]
        rw [e, List.length_map]
        show 0 + _ ≤ 1000
        omega
      · intro rl hrl acc G4 H4 g4 x4 _ m4 hacc
        have hrow : rl.1.length ≤ 1000 := by
          have h1 := (lrows_ok (l.take i) rl hrl).1
          rw [List.length_take] at h1
          omega
        refine sb_cons (s_forApp (xs := rngI 0 c.size) D.int _ _ (fun s => (mLStep1 c b rl s).map encRow) (fun _ _ => True) 1000 rfl (src_rng1 (ea_cons (ee_fld (ee_var 0) CF.cl CF.nSize rfl) ea_nil) B.range (by omega) (by omega)) (fun _ _ _ _ _ _ _ => trivial) trivial m4 hacc x4.wf (fun x _ => gt_name 7 scLReplies.nd) ?_ ?_)
        · intro p hp acc2 G5 H5 g5 x5 _ m5 hacc2
          have eif : (if (!decide (p = b.1)) = true then (1 : Int) else 0) = if p = b.1 then 0 else 1 := by
            by_cases h : p = b.1 <;> simp [h]
          refine sb_ext fun xb => sb_cons (s_set 8 scLReplies.nd (d := .int (rl.2 + b.2 * (if p = b.1 then 0 else 1))) (EE.vj (eif ▸ ee_add (ee_ixT (ee_var 6) ee_int rfl) (ee_mul (ee_ixT (ee_var 4) ee_int rfl) (ee_intB (ee_c c_ne (ee_var 7) (ee_ixT (ee_var 4) ee_int rfl)) B.int) (.inl (by omega))))) fun G6 H6 x6 => sb_ext fun xc => ?_)
          have m6 := m5.ex xb.wf x6
          refine sb_one (s_if (ET.tj (et_c c_le (ee_var 8) (ee_fld (ee_var 0) CF.cl CF.nBudget rfl))) (fun hT G7 H7 x7 => ?_) (fun hF G7 H7 x7 => ?_))
          · have e : mLStep1 c b rl p = [(rl.1 ++ [p], rl.2 + b.2 * (if p = b.1 then 0 else 1))] := by unfold mLStep1; rw [if_pos (by simpa using hT)]
            refine sb_cons (s_append (d := encRow (rl.1 ++ [p], rl.2 + b.2 * (if p = b.1 then 0 else 1))) (ev_var 5) (EE.vj (ee_tup (ea_cons (ee_snocM (ee_ixT (ee_var 6) ee_int rfl) (ee_var 7) hrow) (ea_cons (ee_var 8) ea_nil)) l2)) (m6.ex xc.wf x7) (line100 hacc2) (.inr hn0) fun G8 H8 x8 m8 => sb_forget [7, 8] (sb_nil ⟨rfl, trivial, ?_⟩))
            rw [e]; exact m8
          · have e : mLStep1 c b rl p = [] := by unfold mLStep1; rw [if_neg (by simpa using hF)]
            refine sb_forget [7, 8] (sb_nil ⟨rfl, trivial, ?_⟩)
            rw [e, List.map_nil, List.append_nil]
            exact m6.ex xc.wf x7
        · intro G5 H5 g5 x5 _ m5
          exact sb_forget [6, 7, 8] (sb_nil ⟨rfl, trivial, m5⟩)
      · intro G4 H4 g4 x4 _ m4
        refine sb_forget [6, 7, 8] (sb_frz 5 rfl m4 hn0 fun vs hv => sb_cons (s_set 3 scLReplies.nd (EE.vj (ee_var 5)) fun G5 H5 x5 => sb_forget [4, 5, 6, 7, 8] (sb_nil ?_)))
        rw [lrows_snoc hb]
        unfold mLStep
        simp only [List.map_flatMap]
        rfl
  · rintro γ' G' H' g' x' rfl
    rw [List.length_map, List.take_length]
    have hle := lrows_le hs2 hl l.length
    rw [List.take_length] at hle
    refine sb_cons (s_newL 9 scLReplies.nd ea_nil (Nat.zero_le _) fun a G3 H3 hnn hn0 x3 m3 => sb_ext fun xa => ?_)
    refine sb_cons (s_forApp (xs := mLRows c l) encRow _ _ (fun rl => (mLFound c l n rl).map enc3) (fun _ _ => True) 1000 rfl (src_lst (ee_var 3)) (fun _ _ _ _ _ _ _ => trivial) trivial m3 ?_ xa.wf (fun x _ => gt_name 6 scLReplies.nd) ?_ ?_)
    · have h1 := flatMap_le (xs := mLRows c l) (f := fun rl => (mLFound c l n rl).map enc3) (k := 3) fun st _ => by rw [List.length_map]; exact lfound_le hc
      show 0 + _ ≤ 1000
      omega
    · intro rl hrl acc G4 H4 g4 x4 _ m4 hacc
      obtain ⟨hr1, hr2⟩ := lrows_ok l rl hrl
      have eir : (rngI 0 (l.length : Int)).map D.int = (List.range l.length).map (fun (i : Nat) => D.int (i : Int)) := by rw [rng_nat, List.map_map]; rfl
      refine sb_ext fun xb => sb_cons (s_setLc (xs := List.range l.length) 10 (fun (i : Nat) => D.int (i : Int)) _ _ (fun _ => true) (fun k => encB (rl.1.getD k 0, (l.getD k (0, 0)).2)) rfl scLReplies.nd (blkOk_by (N := nLR) (sc := defScope sLReplies) (own := [("_law_k", 11)]) (by decide +kernel)) rfl rfl
        (show Src _ _ _ _ _ _ from eir ▸ src_rng1 (ea_cons (ee_lenM (ee_var 1) B.len) ea_nil) B.range (by omega) (by omega)) (by decide) (fun _ _ _ _ _ x _ => gt_name 11 scLReplies.nd) (fun _ _ _ _ _ x _ => ets_nil)
        (fun _ _ _ _ _ k hk _ => by
          have hk' := List.mem_range.mp hk
          exact ee_tup (ea_cons (ee_ixL (ee_ixT (ee_var 6) ee_int rfl) (ee_var 11) (at_map (by rw [List.getD_eq_getElem?_getD, List.getElem?_eq_getElem (show k < rl.1.length by omega)]; rfl))) (ea_cons (ee_ixT (ee_ixL (ee_var 1) (ee_var 11) (at_map (x := l.getD k (0, 0)) (by rw [List.getD_eq_getElem?_getD, List.getElem?_eq_getElem hk']; rfl))) ee_int rfl) ea_nil)) l2) (line1000 (by rw [List.length_range]; omega)) (ys := (mPlaced l rl.1).map encB) (by
          rw [filter_yes, ← range_placed hr1, List.map_map]; rfl) fun G5 H5 x5 => sb_ext fun xc => ?_)
      have m5 := m4.ex xb.wf x5
      have e0 : (mLFound c l n rl).map enc3 = (rngI 0 c.size).flatMap fun s => if mApart c.size (mPlaced l rl.1 ++ [(s, n)]) then [enc3 (rl.2, rl.1, s)] else [] := by
        unfold mLFound
        rw [List.map_flatMap]
        congr 1
        funext s
        split <;> rfl
      rw [e0] at hacc ⊢
      refine sb_cons (s_forApp (xs := rngI 0 c.size) D.int _ _ (fun s => if mApart c.size (mPlaced l rl.1 ++ [(s, n)]) then [enc3 (rl.2, rl.1, s)] else []) (fun _ _ => True) 1000 rfl (src_rng1 (ea_cons (ee_fld (ee_var 0) CF.cl CF.nSize rfl) ea_nil) B.range (by omega) (by omega)) (fun _ _ _ _ _ _ _ => trivial) trivial m5 hacc xc.wf (fun x _ => gt_name 7 scLReplies.nd) ?_ ?_)
      · intro s0 hs0 acc2 G6 H6 g6 x6 _ m6 hacc2
        have hs0' := mem_rng hs0
        have hpl : (mPlaced l rl.1).length ≤ 3 := by unfold mPlaced; rw [List.length_zipWith]; omega
        have hap : ∀ b ∈ mPlaced l rl.1 ++ [(s0, n)], 0 ≤ b.1 ∧ b.1 ≤ 10 ∧ 1 ≤ b.2 ∧ b.2 ≤ 3 := fun b hb => by
          rcases List.mem_append.mp hb with z | z
          · unfold mPlaced at z
            obtain ⟨k, hk⟩ := List.mem_iff_getElem?.mp z
            rw [List.getElem?_zipWith] at hk
            cases e1 : rl.1[k]? with
            | none => rw [e1] at hk; cases hk
            | some x =>
              cases e2 : l[k]? with
              | none => rw [e1, e2] at hk; cases hk
              | some y =>
                rw [e1, e2] at hk
                cases hk
                have q1 := hr2 x (List.mem_of_getElem? e1)
                have q2 := hl.bl y (List.mem_of_getElem? e2)
                dsimp only
                omega
          · rw [List.mem_singleton.mp z]
            dsimp only
            omega
        refine sb_one (s_if (b := mApart c.size (mPlaced l rl.1 ++ [(s0, n)])) (ET.tj (et_ee (ee_call L1 hr (ea_cons (ee_fld (ee_var 0) CF.cl CF.nSize rfl) (ea_cons (ee_snocM (xs := mPlaced l rl.1) (x := (s0, n)) (enc := encB) (ee_var 10) (ee_tup (ea_cons (ee_var 7) (ea_cons (ee_var 2) ea_nil)) l2) (by omega)) ea_nil)) ⟨c.size, mPlaced l rl.1 ++ [(s0, n)], by rw [List.length_append, List.length_singleton]; omega, hap, rfl, rfl⟩))) (fun hT G7 H7 x7 => ?_) (fun hF G7 H7 x7 => ?_))
        · refine sb_cons (s_append (d := enc3 (rl.2, rl.1, s0)) (ev_var 9) (EE.vj (ee_tup (ea_cons (ee_ixT (ee_var 6) ee_int rfl) (ea_cons (ee_ixT (ee_var 6) ee_int rfl) (ea_cons (ee_var 7) ea_nil))) l3)) (m6.ex x6.wf x7) (line100 hacc2) (.inr hn0) fun G8 H8 x8 m8 => sb_forget [7] (sb_nil ⟨rfl, trivial, ?_⟩))
          rw [if_pos hT]; exact m8
        · refine sb_forget [7] (sb_nil ⟨rfl, trivial, ?_⟩)
          rw [if_neg (by rw [hF]; exact Bool.false_ne_true), List.append_nil]
          exact m6.ex x6.wf x7
      · intro G6 H6 g6 x6 _ m6
        exact sb_forget [6, 7, 10] (sb_nil ⟨rfl, trivial, m6⟩)
    · intro G4 H4 g4 x4 _ m4
      refine sb_frz 9 rfl m4 hn0 fun vs hv => sb_one (s_ret (EE.vj (ee_lc (xs := isort leT ((mLRows c l).flatMap (mLFound c l n))) enc3 _ _ (fun _ => true) (fun t => encRep (t.2.1, t.2.2, t.1)) rfl scLReplies.nd (blkOk_by (N := nLR) (sc := defScope sLReplies) (own := [("_law_reply", 12)]) (by decide +kernel)) (src_lst (ee_sort3 (xs := (mLRows c l).flatMap (mLFound c l n)) (by rw [List.map_flatMap]; exact ee_var 9) B.sorted hr.units)) (by decide)
        (fun _ _ _ _ _ x _ => gt_name 12 scLReplies.nd) (fun _ _ _ _ _ x _ => ets_nil) (fun _ _ _ _ _ x _ _ => ee_tup (ea_cons (ee_ixT (ee_var 12) ee_int rfl) (ea_cons (ee_ixT (ee_var 12) ee_int rfl) (ea_cons (ee_ixT (ee_var 12) ee_int rfl) ea_nil))) l3) (line1000 (by
          have h1 := lreplies_le (n := n) hc hl
          unfold mLReplies at h1
          rw [List.length_map] at h1
          omega)) (ys := (mLReplies c l n).map encRep) (by rw [filter_yes]; unfold mLReplies; rw [List.map_map]; rfl))) fun v G5 H5 x5 r5 => r5)
end
end HG

set_option Elab.async false
set_option linter.all false
set_option maxRecDepth 100000
set_option maxHeartbeats 4000000
/-! The walk: the law's after, without, forced, ways, ranks. -/
namespace HG
open PySem L2
abbrev sLWays : Stmt := topS 45
abbrev sLRanks : Stmt := topS 46
/-! ### hide what stood still for a while -/
def hide (l : Addr) (G : Hp) : Hp := fun b => if b = l then none else G b
mutual
theorem DR.hide {P : Program} {w : World} {G : Hp} {l : Addr} (h1 : ∀ xs, G l ≠ some (.lst xs)) (h2 : ∀ xs, G l ≠ some (.tup xs)) : ∀ (d : D) (v : V), flatD d = true → DR P w G v d → DR P w (hide l G) v d
  | .non, _, _, h => by cases h; exact .non
  | .bl b, _, _, h => by cases h; exact .bl b
  | .int b, _, _, h => by cases h; exact .int b
  | .str b, _, _, h => by cases h; exact .str b
  | .lst ds, _, f, h => by
    cases h with
    | lst q1 q2 =>
      rename_i a xs
      have ne : a ≠ l := fun e => h1 _ (e ▸ q1)
      exact .lst (show HG.hide l G a = _ by unfold HG.hide; rw [if_neg ne]; exact q1) (DRs.hide h1 h2 ds _ (by simpa [flatD] using f) q2)
  | .tup ds, _, f, h => by
    cases h with
    | tup q1 q2 =>
      rename_i a xs
      have ne : a ≠ l := fun e => h2 _ (e ▸ q1)
      exact .tup (show HG.hide l G a = _ by unfold HG.hide; rw [if_neg ne]; exact q1) (DRs.hide h1 h2 ds _ (by simpa [flatD] using f) q2)
  | .obj _ _ _, _, f, _ => by simp [flatD] at f
  | .dic _ _, _, f, _ => by simp [flatD] at f
  | .scr _ _, _, f, _ => by simp [flatD] at f
theorem DRs.hide {P : Program} {w : World} {G : Hp} {l : Addr} (h1 : ∀ xs, G l ≠ some (.lst xs)) (h2 : ∀ xs, G l ≠ some (.tup xs)) : ∀ (ds : List D) (vs : List V), flatDs ds = true → DRs P w G vs ds → DRs P w (hide l G) vs ds
  | [], _, _, h => by cases h; exact .nil
  | d :: ds, _, f, h => by
    cases h with
    | cons q1 q2 =>
      have f' : flatD d = true ∧ flatDs ds = true := by simpa [flatDs] using f
      exact .cons (DR.hide h1 h2 d _ f'.1 q1) (DRs.hide h1 h2 ds _ f'.2 q2)
end
theorem ext_hide {T : List Addr} {G H G2 H2 : Hp} {l : Addr} {o : HO} (wf : WF T G H) (hg : G l = none) (x : Ext T [] (upd G l o) H G2 H2) : Ext T [] G H (hide l G2) H2 := by
  refine ⟨fun b u e => ?_, x.keep, fun b u e => ?_, x.there, ⟨fun b u e => ?_, x.wf.tab, fun b z => ?_⟩⟩
  · have ne : b ≠ l := fun z => by rw [z, hg] at e; cases e
    unfold HG.hide
    rw [if_neg ne]
    exact x.g _ _ (by rw [upd_ne ne]; exact e)
  · unfold HG.hide at e
    split at e
    · cases e
    · rename_i ne
      rcases x.new _ _ e with q | q
      · rw [upd_ne ne] at q; exact .inl q
      · exact .inr q
  · unfold HG.hide at e
    split at e
    · cases e
    · exact x.wf.sub _ _ e
  · unfold HG.hide
    split
    · rfl
    · exact x.wf.tn b z
/-- x = [.. for ..], asked while the dict at l stands still -/
theorem s_setLcF {α : Type} {N : En} {X : Cx} {γ γ1 : List SV} {G H : Hp} {E : EndD} {pos : Pos} {xs : List α} {y : Str} {py : Pos} {elt tg iter : Expr} {ifs : List Expr} {scope : Scope} {own : List (Str × Nat)} {pos' : Pos} {l : Addr} {ob : Obj} (i : Nat) (hg0 : G l = none) (hl : H l = some (objHO l ob)) (env1 : ∀ σ, EnvR X.prog X.w G σ γ → EnvR X.prog X.w (upd G l (objHO l ob)) σ γ1)
    (enc : α → D) (js : List Nat) (B : α → List SV) (f : α → Bool) (g : α → D) (hc : X.calm = true) (hN : X.N.Nodup) (ok : BlkOk X.N X.env.scope scope own)
    (hyl : X.env.scope.names.lookup y = some .local) (hsw : swapsWith (.ListComp elt [⟨tg, iter, ifs, 0⟩] scope pos') (some (.Name y py)) pos.line X.env = pure true) (hi : Src N.T X tg iter γ1 (xs.map enc)) (hjs : ∀ j ∈ js, j ∈ own.map (·.2))
    (hg : ∀ (s0 : Shared) (H0 : Hp) (C : Addr) (cl : List (Str × Addr)) (fp : List Addr) (x : α), x ∈ xs → GT N.T (X.blk s0 H0 scope (compEnvC scope cl C X.env) fp) tg js (enc x) (undefs γ1 (own.map (·.2))) (B x))
    (ht : ∀ (s0 : Shared) (H0 : Hp) (C : Addr) (cl : List (Str × Addr)) (fp : List Addr) (x : α), x ∈ xs → ETs N.T (X.blk s0 H0 scope (compEnvC scope cl C X.env) fp) ifs (B x) (f x))
    (he : ∀ (s0 : Shared) (H0 : Hp) (C : Addr) (cl : List (Str × Addr)) (fp : List Addr) (x : α), x ∈ xs → f x = true → EE N.T (X.blk s0 H0 scope (compEnvC scope cl C X.env) fp) elt (B x) (g x))
    (hz : xs.length ≤ sizeLine) {ys : List D} (hys : (xs.filter f).map g = ys) (hfl : flatD (.lst ys) = true) (k : ∀ G' H', Ext N.T [] G H G' H' → E.nx (γ.set i (.dat (.lst ys))) G' H') (hy : X.N[i]? = some y := by rfl) (hs : ∀ x, foldedSetIterable iter X.env x = pure x := by intro _; rfl) :
    S1 N X (.Assign [.Name y py] (.ListComp elt [⟨tg, iter, ifs, 0⟩] scope pos') pos) γ G H E := fun σ x0 env =>
  ws_of (ps_setLc (i := i) (own := own) (g := bG X scope tg) (tt := bTs X scope ifs) (te := bE X scope elt) hc hN hy hyl hsw pi_w ok (fun s0 H0 C cl fp => ⟨fun pins s σ H v u Q I r h => h s0 H0 C cl fp pins s u I r⟩) (fun s0 H0 C cl fp => ⟨fun pins s σ H Q I h => h s0 H0 C cl fp pins s I⟩)
    (fun s0 H0 C cl fp => ⟨fun pins s σ H Q I h => h s0 H0 C cl fp pins s I⟩) hs) (lc_read (own := own) enc js B f g hi hjs hg ht he hz (x0.wf.frz hl (fun ps z => by cases z)) (env1 σ env) fun v G1 H1 x1 r1 => by
    rw [hys] at r1
    have x2 := ext_hide x0.wf hg0 x1
    have hd : G1 l = some (objHO l ob) := x1.g _ _ upd_same
    have r2 := DR.hide (l := l) (fun xs e => by rw [hd] at e; cases e) (fun xs e => by rw [hd] at e; cases e) _ _ hfl r1
    exact ⟨_, _, x2.g, x0.tr x2, (env.up x2.g).setD r2, k _ H1 x2⟩)

section
variable {P : Program} {w : World} {K : PySem.W.Frag} {mg : Str → Option Value} {base : Heap} {T : List Addr}
def rLAfter (ds : List D) (d : D) : Prop := ∃ (l : Lay) (n : Int) (r : Rep), l.length ≤ 100 ∧ r.1.length = l.length ∧ ds = [encL l, .int n, encRep r] ∧ d = encL (mLAfter l n r)
theorem scLAfter : FnScope ["_law_layout", "_law_length", "_law_reply", "_law_blocks", "_law_k"] ["_law_layout", "_law_length", "_law_reply"] (defScope sLAfter) := ⟨rfl, rfl, rfl, by decide +kernel, rfl, by decide +kernel, by decide +kernel⟩
theorem ok_lAfter {f : Addr} {fd : FuncData} (F : Fun K "_law_after" "_law_after" sLAfter f fd) (B : Bt mg) : FnOk P w K mg base CX0 1 f fd ["_law_layout", "_law_length", "_law_reply"] (spR P w T rLAfter) := by
  refine def_ok F scLAfter (fun ds d h => by obtain ⟨s, l, n, _, _, rfl, _⟩ := h; rfl) (fun cdv A outer s H E G ds d hr wf h => ?_)
  obtain ⟨l, n, r, hl, hrl, rfl, rfl⟩ := h
  have eir : (rngI 0 (l.length : Int)).map D.int = (List.range l.length).map (fun (i : Nat) => D.int (i : Int)) := by rw [rng_nat, List.map_map]; rfl
  refine sb_cons (s_setLc (xs := List.range l.length) 3 (fun (i : Nat) => D.int (i : Int)) _ _ (fun _ => true) (fun k => encB (r.1.getD k 0, (l.getD k (0, 0)).2)) rfl scLAfter.nd (blkOk_by (N := ["_law_layout", "_law_length", "_law_reply", "_law_blocks", "_law_k"]) (sc := defScope sLAfter) (own := [("_law_k", 4)]) (by decide +kernel)) rfl rfl
    (show Src _ _ _ _ _ _ from eir ▸ src_rng1 (ea_cons (ee_lenM (ee_var 0) B.len) ea_nil) B.range (by omega) (by omega)) (by decide) (fun _ _ _ _ _ x _ => gt_name 4 scLAfter.nd) (fun _ _ _ _ _ x _ => ets_nil)
    (fun _ _ _ _ _ k hk _ => by
      have hk' := List.mem_range.mp hk
      exact ee_tup (ea_cons (ee_ixL (ee_ixT (ee_var 2) ee_int rfl) (ee_var 4) (at_map (by rw [List.getD_eq_getElem?_getD, List.getElem?_eq_getElem (show k < r.1.length by omega)]; rfl))) (ea_cons (ee_ixT (ee_ixL (ee_var 0) (ee_var 4) (at_map (x := l.getD k (0, 0)) (by rw [List.getD_eq_getElem?_getD, List.getElem?_eq_getElem hk']; rfl))) ee_int rfl) ea_nil)) l2) (line1000 (by rw [List.length_range]; omega)) (ys := (mPlaced l r.1).map encB) (by
      rw [filter_yes, ← range_placed hrl, List.map_map]; rfl) fun G5 H5 x5 => ?_)
  have hpl : (mPlaced l r.1).length ≤ 100 := by unfold mPlaced; rw [List.length_zipWith]; omega
  exact sb_one (s_ret (EE.vj (ee_sortB (ee_snocM (xs := mPlaced l r.1) (x := (r.2.1, n)) (enc := encB) (ee_var 3) (ee_tup (ea_cons (ee_ixT (ee_var 2) ee_int rfl) (ea_cons (ee_var 1) ea_nil)) l2) (by omega)) B.sorted hr.units)) fun v G6 H6 x6 r6 => r6)

def rLWithout (ds : List D) (d : D) : Prop := ∃ (l : Lay) (i : Nat), l.length ≤ 100 ∧ ds = [encL l, .int (i : Int)] ∧ d = encL (mWithout l i)
theorem scLWithout : FnScope ["_law_layout", "_law_index", "_law_k"] ["_law_layout", "_law_index"] (defScope sLWithout) := ⟨rfl, rfl, rfl, by decide +kernel, rfl, by decide +kernel, by decide +kernel⟩
theorem ok_lWithout {f : Addr} {fd : FuncData} (F : Fun K "_law_without" "_law_without" sLWithout f fd) (B : Bt mg) : FnOk P w K mg base CX0 1 f fd ["_law_layout", "_law_index"] (spR P w T rLWithout) := by
  refine def_ok F scLWithout (fun ds d h => by obtain ⟨s, l, _, rfl, _⟩ := h; rfl) (fun cdv A outer s H E G ds d hr wf h => ?_)
  obtain ⟨l, i, hl, rfl, rfl⟩ := h
  have eir : (rngI 0 (l.length : Int)).map D.int = (List.range l.length).map (fun (i : Nat) => D.int (i : Int)) := by rw [rng_nat, List.map_map]; rfl
  refine sb_one (s_ret (EE.vj (ee_lc (xs := List.range l.length) (fun (i : Nat) => D.int (i : Int)) _ _ (fun (k : Nat) => !decide ((k : Int) = (i : Int))) (fun k => encB (l.getD k (0, 0))) rfl scLWithout.nd (blkOk_by (N := ["_law_layout", "_law_index", "_law_k"]) (sc := defScope sLWithout) (own := [("_law_k", 2)]) (by decide +kernel))
    (show Src _ _ _ _ _ _ from eir ▸ src_rng1 (ea_cons (ee_lenM (ee_var 0) B.len) ea_nil) B.range (by omega) (by omega)) (by decide) (fun _ _ _ _ _ x _ => gt_name 2 scLWithout.nd) (fun _ _ _ _ _ x _ => ets_one (et_c c_ne (ee_var 2) (ee_var 1)))
    (fun _ _ _ _ _ k hk _ => by
      have hk' := List.mem_range.mp hk
      exact ee_ixL (ee_var 0) (ee_var 2) (at_map (by rw [List.getD_eq_getElem?_getD, List.getElem?_eq_getElem hk']; rfl))) (line1000 (by rw [List.length_range]; omega)) (ys := (mWithout l i).map encB) (by
      unfold mWithout
      rw [← range_without (0, 0) l i, List.map_map]; rfl))) fun v G6 H6 x6 r6 => r6)

abbrev encWay (o : Opt) : D := .tup [.lst (o.1.map encLT), .lst (o.2.map fun ls => .lst (ls.map encLT))]
def rLForced (ds : List D) (d : D) : Prop := ∃ (o : Opt) (won : List Lay) (vs : List D), o.1.length ≤ 1000 ∧ o.2.length ≤ 1000 ∧ (∀ ls ∈ o.2, ls.length ≤ 1000) ∧ ds = [encWay o, .dic (won.map nk) vs] ∧ d = .bl (mForced o won)
theorem scLForced : FnScope ["_law_way", "_law_won", "_law_key", "_law_row_here"] ["_law_way", "_law_won"] (defScope sLForced) := ⟨rfl, rfl, rfl, by decide +kernel, rfl, by decide +kernel, by decide +kernel⟩
theorem ok_ltss (lss : List (List Lay)) : flatD (.lst (lss.map fun ls => .lst (ls.map encLT))) = true ∧ (pd (.lst (lss.map fun ls => .lst (ls.map encLT)))).canLay0 = true ∧ (pd (.lst (lss.map fun ls => .lst (ls.map encLT)))).depth ≤ 60 := by
  refine ⟨?_, ?_, ?_⟩
  · exact flatDs_map _ (fun ls => (ok_lts ls).1) lss
  · show PyData.canLayAll0 (pds (lss.map fun ls => .lst (ls.map encLT))) = true
    rw [pds_map, List.map_map]
    exact canAll _ (fun ls => (ok_lts ls).2.1) lss
  · show (PyData.list (pds (lss.map fun ls => .lst (ls.map encLT)))).depth ≤ 60
    rw [pds_map, List.map_map]
    have := depthAll_map (pd ∘ fun ls : List Lay => D.lst (ls.map encLT)) 11 (fun ls => (ok_lts ls).2.2) lss
    simp only [PyData.depth]
    omega
theorem ok_lForced {f : Addr} {fd : FuncData} (F : Fun K "_law_forced" "_law_forced" sLForced f fd) : FnOk P w K mg base CX0 1 f fd ["_law_way", "_law_won"] (spR P w T rLForced) := by
  refine def_ok F scLForced (fun ds d h => by obtain ⟨s, l, n, _, _, _, rfl, _⟩ := h; rfl) (fun cdv A outer s H E G ds d hr wf h => ?_)
  obtain ⟨o, won, vs, hz1, hz2, hz, rfl, rfl⟩ := h
  have nkf : ∀ ls : List Lay, (ls.filter fun l => decide (nk l ∈ won.map nk)) = ls.filter fun l => decide (l ∈ won) := fun ls => by simp only [nk_mem]
  refine sb_cons (s_if (b := !((o.1.filter fun l => decide (nk l ∈ won.map nk)).map encLT).isEmpty) (ET.tj (et_lst (ee_lc (xs := o.1) encLT _ _ (fun l => decide (nk l ∈ won.map nk)) encLT rfl scLForced.nd (blkOk_by (N := ["_law_way", "_law_won", "_law_key", "_law_row_here"]) (sc := defScope sLForced) (own := [("_law_key", 2)]) (by decide +kernel)) (src_lst (ee_ixT (ee_var 0) ee_int rfl)) (by decide)
    (fun _ _ _ _ _ x _ => gt_name 2 scLForced.nd) (fun _ _ _ _ _ x _ => ets_one (et_c (c_inN hr.units (kd_lay x)) (ee_var 2) (ee_var 1))) (fun _ _ _ _ _ x _ _ => ee_var 2) (line1000 hz1) rfl))) (fun hT G3 H3 x3 => ?_) (fun hF G3 H3 x3 => sb_nil (E := { nx := fun γ' G' H' => SB _ _ _ γ' G' H' _ }) ?_))
  · refine sb_one (s_ret (EE.vj ee_bl) fun v G4 H4 x4 r4 => ?_)
    have e : mForced o won = true := by
      rw [nkf, isEmpty_map'] at hT
      unfold mForced
      rw [Bool.or_eq_true, List.any_eq_true]
      cases hf : o.1.filter fun l => decide (l ∈ won) with
      | nil => rw [hf] at hT; cases hT
      | cons y ys =>
        have hm : y ∈ o.1.filter fun l => decide (l ∈ won) := by rw [hf]; simp
        exact .inl ⟨y, (List.mem_filter.mp hm).1, (List.mem_filter.mp hm).2⟩
    rw [e]; exact r4
  · have e1 : o.1.any (fun l => decide (l ∈ won)) = false := by
      rw [nkf, isEmpty_map'] at hF
      rw [List.any_eq_false]
      intro x hx hxx
      have hm : x ∈ o.1.filter fun l => decide (l ∈ won) := List.mem_filter.mpr ⟨hx, hxx⟩
      cases hf : o.1.filter fun l => decide (l ∈ won) with
      | nil => rw [hf] at hm; cases hm
      | cons y ys => rw [hf] at hF; cases hF
    have hrow : ∀ ls : List Lay, (((ls.filter fun l => !decide (nk l ∈ won.map nk)).map encLT).isEmpty) = ls.all fun l => decide (l ∈ won) := fun ls => by
      rw [isEmpty_map']
      simp only [nk_mem]
      induction ls with
      | nil => rfl
      | cons y ys ih =>
        rw [List.filter_cons, List.all_cons]
        cases h : decide (y ∈ won) with
        | true => simpa using ih
        | false => rfl
    refine sb_one (s_ret (EE.vj (ee_c (c_neNil hr.units (ok_ltss _)) (ee_lc (xs := o.2) (fun ls => .lst (ls.map encLT)) _ _ (fun ls => ((ls.filter fun l => !decide (nk l ∈ won.map nk)).map encLT).isEmpty) (fun ls => .lst (ls.map encLT)) rfl scLForced.nd (blkOk_by (N := ["_law_way", "_law_won", "_law_key", "_law_row_here"]) (sc := defScope sLForced) (own := [("_law_row_here", 3)]) (by decide +kernel)) (src_lst (ee_ixT (ee_var 0) ee_int rfl)) (by decide)
      (fun _ _ _ _ _ x _ => gt_name 3 scLForced.nd) (fun _ _ _ _ _ ls hls => ets_one (et_c (c_eqNil hr.units (by obtain ⟨q1, q2, q3⟩ := ok_lts (ls.filter fun l => !decide (nk l ∈ won.map nk)); exact ⟨q1, q2, by omega⟩)) (ee_lc (xs := ls) encLT _ _ (fun l => !decide (nk l ∈ won.map nk)) encLT rfl scLForced.nd (blkOk_by (N := ["_law_way", "_law_won", "_law_key", "_law_row_here"]) (sc := { kind := .function, names := [(".0", .local), ("_law_row_here", .local), ("_law_won", .cell)], isGenerator := false, isCoroutine := false }) (own := [("_law_key", 2)]) (by decide +kernel)) (src_lst (ee_var 3)) (by decide)
        (fun _ _ _ _ _ x _ => gt_name 2 scLForced.nd) (fun _ _ _ _ _ x _ => ets_one (et_c (c_notInN hr.units (kd_lay x)) (ee_var 2) (ee_var 1))) (fun _ _ _ _ _ x _ _ => ee_var 2) (line1000 (hz ls hls)) rfl) (ee_lst ea_nil (Nat.zero_le _)))) (fun _ _ _ _ _ x _ _ => ee_var 3) (line1000 hz2) rfl) (ee_lst ea_nil (Nat.zero_le _)))) fun v G4 H4 x4 r4 => ?_)
    have e : (!((o.2.filter fun ls => ((ls.filter fun l => !decide (nk l ∈ won.map nk)).map encLT).isEmpty).map fun ls => D.lst (ls.map encLT)).isEmpty) = mForced o won := by
      rw [isEmpty_map']
      simp only [hrow]
      unfold mForced
      rw [e1, Bool.false_or]
      generalize o.2 = lss
      induction lss with
      | nil => rfl
      | cons y ys ih =>
        rw [List.filter_cons, List.any_cons]
        cases h : y.all fun l => decide (l ∈ won) with
        | true => rfl
        | false => simpa using ih
    rw [e] at r4
    exact r4
end
end HG

set_option Elab.async false
set_option linter.all false
set_option maxRecDepth 100000
set_option maxHeartbeats 4000000
/-! The walk: the law's ways, ranks. -/
namespace HG
open PySem L2
theorem lopts_le {c : Ctr} {l : Lay} (hc : Cok c) (hl : Sml l) : (mLOpt c l).1.length ≤ 1000 ∧ (mLOpt c l).2.length ≤ 1000 ∧ ∀ ls ∈ (mLOpt c l).2, ls.length ≤ 1000 := by
  have hll := hl.len
  have hrl := reqable_le (l := l) hc
  refine ⟨?_, ?_, fun ls h => ?_⟩
  · unfold mLOpt; rw [List.length_map, List.length_range]; omega
  · unfold mLOpt; rw [List.length_map]; omega
  · unfold mLOpt at h
    obtain ⟨n, hn, rfl⟩ := List.mem_map.mp h
    have := lreplies_le (n := n) hc hl
    rw [List.length_map]
    omega
theorem nodup_len {α : Type} [DecidableEq α] : ∀ {l m : List α}, l.Nodup → (∀ x ∈ l, x ∈ m) → l.length ≤ m.length
  | [], _, _, _ => Nat.zero_le _
  | x :: xs, m, h, hs => by
    have hx : x ∈ m := hs x (by simp)
    obtain ⟨h1, h2⟩ := List.nodup_cons.mp h
    have ih := nodup_len (m := m.erase x) h2 fun y hy => by
      have ne : y ≠ x := fun e => h1 (e ▸ hy)
      exact (List.mem_erase_of_ne ne).mpr (hs y (List.mem_cons_of_mem _ hy))
    rw [List.length_erase_of_mem hx] at ih
    have : 0 < m.length := List.length_pos_of_mem hx
    rw [List.length_cons]
    omega
theorem fresh_lopts (c : Ctr) (ps : List Lay) (r : Rk) : mFresh (mLOpts c ps) r = ps.filter fun l => !decide (l ∈ mWon r) && mForced (mLOpt c l) (mWon r) := by
  unfold mFresh mLOpts
  rw [List.filter_map, List.map_map]
  exact List.map_id _
section
variable {P : Program} {w : World} {K : PySem.W.Frag} {mg : Str → Option Value} {base : Heap} {T : List Addr}
def rLWays (C : Addr) (ds : List D) (d : D) : Prop := ∃ (c : Ctr) (ps : List Lay), Cok c ∧ mLPos c = some ps ∧ (∀ l ∈ ps, Sml l) ∧ ps.Nodup ∧ ps.length ≤ 500 ∧ ds = [encC C c] ∧ d = .dic (ps.map nk) (ps.map fun l => encWay (mLOpt c l))
theorem scLWays : FnScope ["_law_contract_here", "_law_ways_here", "_law_layout", "_law_released", "_law_k", "_law_answered", "_law_length", "_law_reply"] ["_law_contract_here"] (defScope sLWays) := ⟨rfl, rfl, rfl, by decide +kernel, rfl, by decide +kernel, by decide +kernel⟩
theorem ok_lWays {f C : Addr} {fd : FuncData} (F : Fun K "_law_ways" "_law_ways" sLWays f fd) (B : Bt mg) (L1 : Dk P w K mg base T 2 "_law_positions" (rLPos C)) (L2' : Dk P w K mg base T 1 "_law_without" rLWithout) (L3 : Dk P w K mg base T 2 "_law_allowed" (rReqable C)) (L4 : Dk P w K mg base T 1 "_law_after" rLAfter) (L5 : Dk P w K mg base T 2 "_law_replies" (rLReplies C)) :
    FnOk P w K mg base CX0 3 f fd ["_law_contract_here"] (spR P w T (rLWays C)) := by
  refine def_ok F scLWays (fun ds d h => by obtain ⟨c, l, _, _, _, _, _, rfl, _⟩ := h; rfl) (fun cdv A outer s H E G ds d hr wf h => ?_)
  obtain ⟨c, ps, hc, hps, hsm, hnd, hle, rfl, rfl⟩ := h
  refine sb_cons (s_newD 1 scLWays.nd fun oo H3 ho ho0 x3 mo3 => sb_ext fun xc => ?_)
  refine sb_cons (s_for rfl (src_lst (ee_call L1 hr (ea_cons (ee_var 0) ea_nil) ⟨c, ps, hc, hps, rfl, rfl⟩)) (fun i γ' G' H' => γ' = [.dat (encC C c), .val (.ref oo), .und, .und, .und, .und, .und, .und] ∧ MD P w G' H' oo ((ps.take i).map nk) ((ps.take i).map fun l => encWay (mLOpt c l)))
    (fun G' H' x' => ⟨rfl, mo3.ex xc.wf x'⟩) ?_ ?_)
  · rintro i d γ' G' H' hd g' x' ⟨rfl, mo⟩ G4 H4 x4
    rw [List.getElem?_map] at hd
    cases hb : ps[i]? with
    | none => rw [hb] at hd; cases hd
    | some l =>
      rw [hb] at hd
      cases hd
      have hmem := List.mem_of_getElem? hb
      have hl := hsm l hmem
      have hll := hl.len
      have hcl := hc.ll
      have hrl := reqable_le (l := l) hc
      have et : ps.take (i + 1) = ps.take i ++ [l] := by rw [List.take_add_one, hb]; rfl
      have eir : (rngI 0 (l.length : Int)).map D.int = (List.range l.length).map (fun (i : Nat) => D.int (i : Int)) := by rw [rng_nat, List.map_map]; rfl
      refine ⟨_, _, gt_name 2 scLWays.nd, ?_⟩
      have mo4 := mo.ex x'.wf x4
      refine sb_ext fun xd => sb_cons (s_setLc (xs := List.range l.length) 3 (fun (i : Nat) => D.int (i : Int)) _ _ (fun _ => true) (fun k => encLT (mWithout l k)) rfl scLWays.nd (blkOk_by (N := ["_law_contract_here", "_law_ways_here", "_law_layout", "_law_released", "_law_k", "_law_answered", "_law_length", "_law_reply"]) (sc := defScope sLWays) (own := [("_law_k", 4)]) (by decide +kernel)) rfl rfl
        (show Src _ _ _ _ _ _ from eir ▸ src_rng1 (ea_cons (ee_lenM (ee_var 2) B.len) ea_nil) B.range (by omega) (by omega)) (by decide) (fun _ _ _ _ _ x _ => gt_name 4 scLWays.nd) (fun _ _ _ _ _ x _ => ets_nil)
        (fun _ _ _ _ _ k hk _ => ee_tuple (ee_call (L2'.mono (by decide)) hr (ea_cons (ee_var 2) (ea_cons (ee_var 4) ea_nil)) ⟨l, k, by omega, rfl, rfl⟩) B.tuple) (line1000 (by rw [List.length_range]; omega)) (ys := (mLOpt c l).1.map encLT) (by rw [filter_yes]; unfold mLOpt; rw [List.map_map]; rfl) fun G5 H5 x5 => sb_ext fun xe => ?_)
      have mo5 := mo4.ex xd.wf x5
      refine sb_cons (s_newL 5 scLWays.nd ea_nil (Nat.zero_le _) fun aa G6 H6 hn hn0 x6 ma6 => sb_ext fun xf => ?_)
      have mo6 := mo5.ex xe.wf x6
      have hoa : oo ≠ aa := fun e => by
        obtain ⟨_, _, _, _, e1, _⟩ := mo5
        rw [e, hn] at e1; cases e1
      refine sb_cons (s_forApp (xs := mReqable c l) D.int _ _ (fun n => [D.lst (((mLReplies c l n).map (mLAfter l n)).map encLT)]) (fun G' H' => MD P w G' H' oo ((ps.take i).map nk) ((ps.take i).map fun l => encWay (mLOpt c l))) 1000 rfl (src_lst (ee_call L3 hr (ea_cons (ee_var 0) (ea_cons (ee_var 2) ea_nil)) ⟨c, l, by omega, by omega, rfl, rfl⟩)) (fun _ _ _ _ wf x m => m.ex wf x) mo6 ma6 ?_ xf.wf (fun x _ => gt_name 6 scLWays.nd) ?_ ?_)
      · have h1 := flatMap_le (xs := mReqable c l) (f := fun n => [D.lst (((mLReplies c l n).map (mLAfter l n)).map encLT)]) (k := 1) fun n _ => by simp
        show 0 + _ ≤ 1000
        omega
      · intro n hn3 acc G7 H7 g7 x7 mo7 ma7 hacc
        have hrep := lreplies_le (n := n) hc hl
        exact sb_cons (s_append (d := .lst (((mLReplies c l n).map (mLAfter l n)).map encLT)) (ev_var 5) (EE.vj (ee_lc (xs := mLReplies c l n) encRep _ _ (fun _ => true) (fun r => encLT (mLAfter l n r)) rfl scLWays.nd (blkOk_by (N := ["_law_contract_here", "_law_ways_here", "_law_layout", "_law_released", "_law_k", "_law_answered", "_law_length", "_law_reply"]) (sc := defScope sLWays) (own := [("_law_reply", 7)]) (by decide +kernel)) (src_lst (ee_call L5 hr (ea_cons (ee_var 0) (ea_cons (ee_var 2) (ea_cons (ee_var 6) ea_nil))) ⟨c, l, n, hc, hl, hn3, rfl, rfl⟩)) (by decide)
          (fun _ _ _ _ _ x _ => gt_name 7 scLWays.nd) (fun _ _ _ _ _ x _ => ets_nil) (fun _ _ _ _ _ x hx _ => ee_tuple (ee_call (L4.mono (by decide)) hr (ea_cons (ee_var 2) (ea_cons (ee_var 6) (ea_cons (ee_var 7) ea_nil))) ⟨l, n, x, by omega, lreplies_row hx, rfl, rfl⟩) B.tuple) (line1000 (by omega)) (by rw [filter_yes, List.map_map]; rfl))) ma7 (line100 hacc) (.inr hn0) fun G8 H8 x8 m8 => sb_forget [6] (sb_nil ⟨rfl, MD.ext x7.wf mo7 x8 (by simpa using hoa), m8⟩))
      · rintro G7 H7 g7 x7 mo7 ma7
        have e : [] ++ (mReqable c l).flatMap (fun n => [D.lst (((mLReplies c l n).map (mLAfter l n)).map encLT)]) = ((mLOpt c l).2.map fun ls => D.lst (ls.map encLT)) := by
          unfold mLOpt
          rw [List.map_map, List.nil_append]
          induction (mReqable c l) with
          | nil => rfl
          | cons n ns ih => rw [List.flatMap_cons, ih]; rfl
        rw [e] at ma7
        refine sb_frz 5 rfl ma7 hn0 fun vs hv => sb_ext fun xg => ?_
        have mo8 := mo7.upG (o := .lst vs) ma7.1 hoa
        refine sb_cons (s_dput (k := nk l) (d := encWay (mLOpt c l)) hr.units (fun _ _ _ => ev_var 1) (ee_tuple (ee_var 2) B.tuple) (EE.vj (ee_tup (ea_cons (ee_var 3) (ea_cons (ee_var 5) ea_nil)) l2)) (kd_lay l) mo8 (fun hk => ?_) ?_ (.inr ho0) fun G8 H8 x8 mo8' => sb_forget [2, 3, 5, 6] (sb_nil ⟨rfl, ?_⟩))
        · obtain ⟨y, hy, e⟩ := List.mem_map.mp hk
          rw [nk_inj e] at hy
          have h2 := hnd.sublist (List.take_sublist (i + 1) ps)
          rw [et] at h2
          exact (List.nodup_append.mp h2).2.2 l hy l (by simp) rfl
        · rw [List.length_map, List.length_take]
          exact Nat.lt_of_le_of_lt (Nat.le_trans (Nat.min_le_right _ _) hle) (by decide)
        · rw [et, map_snoc, map_snoc]
          exact mo8'
  · rintro γ' G' H' g' x' ⟨rfl, mo⟩
    rw [List.length_map, List.take_length] at mo
    exact sb_frzD 1 rfl mo ho0 fun ob hob => sb_one (s_ret (EE.vj (ee_var 1)) fun v G4 H4 x4 r4 => r4)

def rLRanks (C : Addr) (ds : List D) (d : D) : Prop := ∃ (c : Ctr) (ps : List Lay), Cok c ∧ mLPos c = some ps ∧ (∀ l ∈ ps, Sml l) ∧ ps.Nodup ∧ ps.length ≤ 500 ∧ ds = [encC C c] ∧ d = encRk (mLRanks (mLOpts c ps))
theorem scLRanks : FnScope ["_law_contract_here", "_law_ways_here", "_law_ranks_here", "_law_number", "_law_fresh", "_law_key"] ["_law_contract_here"] (defScope sLRanks) := ⟨rfl, rfl, rfl, by decide +kernel, rfl, by decide +kernel, by decide +kernel⟩
theorem fresh_nd' {os : List (Lay × Opt)} {r : Rk} (h : (os.map (·.1)).Nodup) : (mFresh os r).Nodup := by
  unfold mFresh
  exact h.sublist (List.Sublist.map _ List.filter_sublist)
theorem ok_lRanks {f C : Addr} {fd : FuncData} (F : Fun K "_law_ranks" "_law_ranks" sLRanks f fd) (B : Bt mg) (L1 : Dk P w K mg base T 3 "_law_ways" (rLWays C)) (L2' : Dk P w K mg base T 1 "_law_forced" rLForced) : FnOk P w K mg base CX0 4 f fd ["_law_contract_here"] (spR P w T (rLRanks C)) := by
  refine def_ok F scLRanks (fun ds d h => by obtain ⟨c, l, _, _, _, _, _, rfl, _⟩ := h; rfl) (fun cdv A outer s H E G ds d hr wf h => ?_)
  obtain ⟨c, ps, hc, hps, hsm, hnd, hle, rfl, rfl⟩ := h
  have hml : (mLOpts c ps).length = ps.length := by unfold mLOpts; rw [List.length_map]
  refine sb_cons (s_set 1 scLRanks.nd (EE.vj (ee_call L1 hr (ea_cons (ee_var 0) ea_nil) ⟨c, ps, hc, hps, hsm, hnd, hle, rfl, rfl⟩)) fun G1 H1 x1 => ?_)
  refine sb_cons (s_newD 2 scLRanks.nd fun rr H3 ho ho0 x3 mr3 => sb_ext fun xc => ?_)
  have hlen2 : ∀ {γ : List SV} {X : Cx} {e : Expr} {p pos : Pos}, True := fun {_ _ _ _ _} => trivial
  have rk0 : ∀ i, ((((rngI 1 ((ps.length : Int) + 2)).take i).foldl (mLRound (mLOpts c ps)) [] : Rk).map (·.1)).Nodup ∧ ∀ l ∈ (((rngI 1 ((ps.length : Int) + 2)).take i).foldl (mLRound (mLOpts c ps)) [] : Rk).map (·.1), l ∈ ps := by
    intro i
    induction i with
    | zero => exact ⟨List.nodup_nil, fun l h => by cases h⟩
    | succ i ih =>
      by_cases hi : i < (rngI 1 ((ps.length : Int) + 2)).length
      · have e : (rngI 1 ((ps.length : Int) + 2)).take (i + 1) = (rngI 1 ((ps.length : Int) + 2)).take i ++ [(rngI 1 ((ps.length : Int) + 2))[i]] := by rw [List.take_add_one, List.getElem?_eq_getElem hi]; rfl
        rw [e, List.foldl_append]
        generalize ((rngI 1 ((ps.length : Int) + 2)).take i).foldl (mLRound (mLOpts c ps)) [] = r at *
        generalize (rngI 1 ((ps.length : Int) + 2))[i] = num
        have e2 : ([num].foldl (mLRound (mLOpts c ps)) r).map (·.1) = r.map (·.1) ++ mFresh (mLOpts c ps) r := by
          show ((r ++ (mFresh (mLOpts c ps) r).map fun l => (l, num)).map (·.1)) = _
          rw [List.map_append, List.map_map]
          congr 1
          exact List.map_id _
        rw [e2]
        refine ⟨List.nodup_append.mpr ⟨ih.1, ?_, fun a ha b hb e => ?_⟩, fun l hl => ?_⟩
        · rw [fresh_lopts]; exact hnd.sublist List.filter_sublist
        · subst e
          exact fresh_sub hb ha
        · rcases List.mem_append.mp hl with z | z
          · exact ih.2 l z
          · rw [fresh_lopts] at z; exact (List.mem_filter.mp z).1
      · have e : (rngI 1 ((ps.length : Int) + 2)).take (i + 1) = (rngI 1 ((ps.length : Int) + 2)).take i := by rw [List.take_of_length_le (by omega), List.take_of_length_le (by omega)]
        rw [e]; exact ih
  refine sb_cons (s_for rfl (src_rng2 (j := (ps.length : Int) + 2) (ea_cons ee_int (ea_cons (ee_add (show EE _ _ _ _ (D.int (ps.length : Int)) from (show ((ps.map nk).length : Int) = (ps.length : Int) by rw [List.length_map]) ▸ ee_lenD (ee_var 1) B.len) ee_int) ea_nil)) B.range (by omega)) (fun i γ' G' H' => γ' = [.dat (encC C c), .dat (.dic (ps.map nk) (ps.map fun l => encWay (mLOpt c l))), .val (.ref rr), .und, .und, .und] ∧
    MD P w G' H' rr ((((rngI 1 ((ps.length : Int) + 2)).take i).foldl (mLRound (mLOpts c ps)) [] : Rk).map fun p => nk p.1) ((((rngI 1 ((ps.length : Int) + 2)).take i).foldl (mLRound (mLOpts c ps)) [] : Rk).map fun p => .int p.2)) (fun G' H' x' => ⟨rfl, mr3.ex xc.wf x'⟩) ?_ ?_)
  · rintro i d γ' G' H' hd g' x' ⟨rfl, mr⟩ G4 H4 x4
    rw [List.getElem?_map] at hd
    cases hb : (rngI 1 ((ps.length : Int) + 2))[i]? with
    | none => rw [hb] at hd; cases hd
    | some num =>
      rw [hb] at hd
      cases hd
      have hrk := rk0 i
      have et : ((rngI 1 ((ps.length : Int) + 2)).take (i + 1)).foldl (mLRound (mLOpts c ps)) [] = mLRound (mLOpts c ps) (((rngI 1 ((ps.length : Int) + 2)).take i).foldl (mLRound (mLOpts c ps)) []) num := by
        rw [List.take_add_one, hb, List.foldl_append]; rfl
      rw [et]
      generalize ((rngI 1 ((ps.length : Int) + 2)).take i).foldl (mLRound (mLOpts c ps)) [] = r at *
      refine ⟨_, _, gt_name 3 scLRanks.nd, ?_⟩
      have mr4 := mr.ex x'.wf x4
      obtain ⟨ob, hob, rdic⟩ := mr4.dr
      have hfn := fresh_lopts c ps r
      have rlen : r.length ≤ 500 := by
        have h1 := hrk.1
        have h2 : (r.map (·.1)).length ≤ ps.length := nodup_len h1 hrk.2
        rw [List.length_map] at h2
        omega
      have ekd : (ps.map nk).map kd = ps.map encLT := by rw [List.map_map]; exact List.map_congr_left fun l _ => kd_nk l
      refine sb_ext fun xd => sb_cons (s_setLcF (xs := ps) 4 (γ1 := [.dat (encC C c), .dat (.dic (ps.map nk) (ps.map fun l => encWay (mLOpt c l))), .dat (encRk r), .dat (.int num), .und, .und]) mr4.1 hob (fun σ env => env_frz (i := 2) env rfl mr4.1 rdic) encLT _ _ (fun l => !decide (nk l ∈ r.map fun p => nk p.1) && mForced (mLOpt c l) (mWon r)) encLT rfl scLRanks.nd (blkOk_by (N := ["_law_contract_here", "_law_ways_here", "_law_ranks_here", "_law_number", "_law_fresh", "_law_key"]) (sc := defScope sLRanks) (own := [("_law_key", 5)]) (by decide +kernel)) rfl rfl
        (show Src _ _ _ _ _ _ from ekd ▸ src_dic (ee_var 1)) (by decide) (fun _ _ _ _ _ x _ => gt_name 5 scLRanks.nd)
        (fun _ _ _ _ _ l hl => ets_one (et_and (et_c (c_notInN hr.units (kd_lay l)) (ee_var 5) (ee_var 2)) fun _ => et_ee (ee_call (L2'.mono (by decide)) hr (ea_cons (ee_ixN hr.units (ee_var 1) (ee_var 5) (kd_lay l) (dlook_map hl)) (ea_cons (ee_var 2) ea_nil)) (by
          obtain ⟨q1, q2, q3⟩ := lopts_le hc (hsm l hl)
          exact ⟨mLOpt c l, mWon r, _, q1, q2, q3, by rw [← rk_won], rfl⟩))))
        (fun _ _ _ _ _ x _ _ => ee_var 5) (line1000 (by omega)) (ys := (mFresh (mLOpts c ps) r).map encLT) (by
          rw [hfn]
          congr 1
          simp only [rk_won, nk_mem]) (ok_lts _).1 fun G5 H5 x5 => sb_ext fun xe => ?_)
      have mr5 := mr4.ex xd.wf x5
      refine sb_cons (s_for rfl (src_lst (ee_var 4)) (fun i γ' G' H' => γ' = [.dat (encC C c), .dat (.dic (ps.map nk) (ps.map fun l => encWay (mLOpt c l))), .val (.ref rr), .dat (.int num), .dat (.lst ((mFresh (mLOpts c ps) r).map encLT)), .und] ∧
        MD P w G' H' rr ((r ++ ((mFresh (mLOpts c ps) r).take i).map fun l => (l, num)).map fun p => nk p.1) ((r ++ ((mFresh (mLOpts c ps) r).take i).map fun l => (l, num)).map fun p => .int p.2)) (fun G' H' x' => ⟨rfl, ?_⟩) ?_ ?_)
      · have q := mr5.ex xe.wf x'
        simpa using q
      · rintro j d γ' G' H' hd g' x' ⟨rfl, mr⟩ G12 H12 x12
        rw [List.getElem?_map] at hd
        cases hb2 : (mFresh (mLOpts c ps) r)[j]? with
        | none => rw [hb2] at hd; cases hd
        | some l =>
          rw [hb2] at hd
          cases hd
          have et2 : (mFresh (mLOpts c ps) r).take (j + 1) = (mFresh (mLOpts c ps) r).take j ++ [l] := by rw [List.take_add_one, hb2]; rfl
          have hfnd : (mFresh (mLOpts c ps) r).Nodup := by rw [hfn]; exact hnd.sublist List.filter_sublist
          have hfle : (mFresh (mLOpts c ps) r).length ≤ 500 := by rw [hfn]; exact Nat.le_trans (List.length_filter_le _ _) hle
          refine ⟨_, _, gt_name 5 scLRanks.nd, ?_⟩
          have mr12 := mr.ex x'.wf x12
          refine sb_ext fun xk => sb_cons (s_dput (k := nk l) hr.units (fun _ _ _ => ev_var 2) (ee_var 5) (EE.vj (ee_var 3)) (kd_lay l) mr12 (fun hk => ?_) ?_ (.inr ho0) fun G13 H13 x13 mr13 => sb_forget [5] (sb_nil ⟨rfl, ?_⟩))
          · rw [rk_won] at hk
            obtain ⟨y, hy, e⟩ := List.mem_map.mp hk
            rw [nk_inj e] at hy
            unfold mWon at hy
            rw [List.map_append, List.map_map] at hy
            rcases List.mem_append.mp hy with z | z
            · exact fresh_sub (List.mem_of_getElem? hb2) z
            · obtain ⟨y2, hy2, e2⟩ := List.mem_map.mp z
              have e3 : y2 = l := e2
              rw [e3] at hy2
              have h2 := hfnd.sublist (List.take_sublist (j + 1) _)
              rw [et2] at h2
              exact (List.nodup_append.mp h2).2.2 l hy2 l (by simp) rfl
          · simp only [List.length_map, List.length_append, List.length_take]
            exact Nat.lt_of_le_of_lt (show _ ≤ 1000 by omega) (by decide)
          · have e4 : r ++ ((mFresh (mLOpts c ps) r).take j ++ [l]).map (fun l => (l, num)) = (r ++ ((mFresh (mLOpts c ps) r).take j).map fun l => (l, num)) ++ [(l, num)] := by rw [List.map_append, ← List.append_assoc]; rfl
            rw [et2, e4, map_snoc, map_snoc]
            exact mr13
      · rintro γ' G' H' g' x' ⟨rfl, mr⟩
        rw [List.length_map, List.take_length] at mr
        exact sb_forget [3, 4, 5] (sb_nil ⟨rfl, mr⟩)
  · rintro γ' G' H' g' x' ⟨rfl, mr⟩
    rw [List.length_map, List.take_length] at mr
    refine sb_frzD 2 rfl mr ho0 fun ob hob => sb_one (s_ret (EE.vj (ee_var 2)) fun v G4 H4 x4 r4 => ?_)
    unfold mLRanks
    rw [hml]
    exact r4
end
end HG

set_option Elab.async false
set_option linter.all false
set_option maxRecDepth 100000
set_option maxHeartbeats 4000000
/-! The walk: the law's cell, row. -/
namespace HG
open PySem L2
abbrev sLCell : Stmt := topS 33
abbrev sLRow : Stmt := topS 34
/-- the script: a list that is known by K or by the heap -/
def SC (K : PySem.W.Frag) (a : Addr) (o : Option HO) (ns : List Int) : Prop := ∀ H : Hp, (∀ u, o = some u → H a = some u) → SqL K H a (ns.map V.int)
theorem dr_scr {P : Program} {w : World} {G : Hp} {v : V} {a : Addr} {o : Option HO} (h : DR P w G v (.scr a o)) : v = .ref a ∧ ∀ u, o = some u → G a = some u := by cases h with | scr h1 => exact ⟨rfl, h1⟩
def mCell (ns : List Int) (k : Int) : Int := if k < (ns.length : Int) then ns.getD k.toNat 0 else 0
def mBigStep (many : Int) (st : Int × List Int) (t : Int) : Int × List Int := if decide (0 < st.1) && decide ((st.2.length : Int) < many) then (st.1 / 1000, st.2 ++ [st.1 % 1000]) else st
def mSeedStep (st : Int × List Int) (t : Int) : Int × List Int := ((st.1 * 16807 + 7 * t + 1) % 2147483647, st.2 ++ [((st.1 * 16807 + 7 * t + 1) % 2147483647) / 997 % 1000])
def mRow1 (c k many : Int) : List Int := if 10 ^ 18 ≤ c then ((rngI 0 60).foldl (mBigStep many) (c, [])).2 else ((rngI 0 many).foldl mSeedStep ((c * 48271 + k * 69621 + 11) % 2147483647, [])).2
def mRow (cell k many : Int) : List Int := mRow1 (if cell < 0 then 1 - 2 * cell else cell) k many
theorem big_len (many : Int) : ∀ (xs : List Int) (st : Int × List Int), (xs.foldl (mBigStep many) st).2.length ≤ st.2.length + xs.length
  | [], st => by simp
  | x :: xs, st => by
    have h := big_len many xs (mBigStep many st x)
    have h2 : (mBigStep many st x).2.length ≤ st.2.length + 1 := by
      unfold mBigStep
      split <;> simp
    rw [List.foldl_cons, List.length_cons]
    omega
theorem seed_len : ∀ (xs : List Int) (st : Int × List Int), (xs.foldl mSeedStep st).2.length ≤ st.2.length + xs.length
  | [], st => by simp
  | x :: xs, st => by
    have h := seed_len xs (mSeedStep st x)
    have h2 : (mSeedStep st x).2.length ≤ st.2.length + 1 := by
      unfold mSeedStep
      simp
    rw [List.foldl_cons, List.length_cons]
    omega
theorem row_len {cell k many : Int} (h : many ≤ 60) : (mRow cell k many).length ≤ 60 := by
  unfold mRow mRow1
  split
  · split
    · have := big_len many (rngI 0 60) (1 - 2 * cell, [])
      rw [rngI_len] at this
      simpa using this
    · have := seed_len (rngI 0 many) (((1 - 2 * cell) * 48271 + k * 69621 + 11) % 2147483647, [])
      rw [rngI_len] at this
      simp at this
      omega
  · split
    · have := big_len many (rngI 0 60) (cell, [])
      rw [rngI_len] at this
      simpa using this
    · have := seed_len (rngI 0 many) ((cell * 48271 + k * 69621 + 11) % 2147483647, [])
      rw [rngI_len] at this
      simp at this
      omega
section
variable {T : List Addr} {X : Cx} {γ : List SV} {a b e : Expr} {p p2 q pos : Pos}
theorem ee_lenScr {ad : Addr} {o : Option HO} {ns : List Int} (h : EE T X e γ (.scr ad o)) (hs : SC X.K ad o ns) (hm : X.mg "len" = none) (hg : Gl X "len" := by rfl) (he : starEach [e] X.env = (false, eval e X.env) :: starEach [] X.env := by rfl) (hpl : (backTo pos (starEach [] X.env)).any (·.1) = false := by rfl) :
    EE T X (.Call (.Name "len" p) [e] [] pos) γ (.int ns.length) :=
  ee_callB call_len_seq hm PySem.boot_len (ea_cons h ea_nil he) (fun vs G H Q wf r k => by
    obtain ⟨v, rfl, rr⟩ := drs1 r
    obtain ⟨rfl, h1⟩ := dr_scr rr
    exact ⟨ad, _, rfl, .inl (hs H fun u e => wf.sub _ _ (h1 u e)), k _ _ _ (Ext.refl wf) (by rw [List.length_map]; exact .int _)⟩) hg (by decide) (by decide) he hpl
theorem ee_ixScr {ad : Addr} {o : Option HO} {ns : List Int} {i x : Int} (ha : EE T X a γ (.scr ad o)) (hsc : SC X.K ad o ns) (hb : EE T X b γ (.int i)) (h0 : 0 ≤ i) (hi : ns[i.toNat]? = some x) (hs : PlainIx b := by exact fun _ _ => rfl) : EE T X (.Subscript a b pos) γ (.int x) := fun σ G H Q wf env k =>
  we_of (pe_ix ix_list pe_w pe_w hs) (ha σ G H _ wf env fun v G1 H1 x1 r1 => hb σ G1 H1 _ x1.wf (env.up x1.g) fun u G2 H2 x2 r2 => by
    obtain ⟨rfl, h1⟩ := dr_scr r1
    have hl := (List.getElem?_eq_some_iff.mp hi).1
    refine ⟨ad, _, i, .int x, rfl, dr_int r2, hsc H2 fun u e => x2.wf.sub _ _ (x2.g _ _ (h1 u e)), ?_, k _ _ _ (x1.tr x2) (.int _)⟩
    unfold atI
    have e : ixN (ns.map V.int).length i = some i.toNat := by
      unfold ixN
      rw [List.length_map, if_pos h0, if_pos (by omega)]
    rw [e]
    show (ns.map V.int)[i.toNat]? = _
    rw [List.getElem?_map, hi]; rfl)
end
section
variable {P : Program} {w : World} {K : PySem.W.Frag} {mg : Str → Option Value} {base : Heap} {T : List Addr}
def rLCell (K : PySem.W.Frag) (ds : List D) (d : D) : Prop := ∃ (a : Addr) (o : Option HO) (ns : List Int) (k : Int), SC K a o ns ∧ 0 ≤ k ∧ ds = [.scr a o, .int k] ∧ d = .int (mCell ns k)
theorem scLCell : FnScope ["_law_script", "_law_k"] ["_law_script", "_law_k"] (defScope sLCell) := ⟨rfl, rfl, rfl, by decide +kernel, rfl, by decide +kernel, by decide +kernel⟩
theorem ok_lCell {f : Addr} {fd : FuncData} (F : Fun K "_law_cell" "_law_cell" sLCell f fd) (B : Bt mg) : FnOk P w K mg base CX0 1 f fd ["_law_script", "_law_k"] (spR P w T (rLCell K)) := by
  refine def_ok F scLCell (fun ds d h => by obtain ⟨s, l, n, k, _, _, rfl, _⟩ := h; rfl) (fun cdv A outer s H E G ds d hr wf h => ?_)
  obtain ⟨a, o, ns, k, hsc, hk, rfl, rfl⟩ := h
  refine sb_cons (s_if (ET.tj (et_c c_lt (ee_var 1) (ee_lenScr (ee_var 0) hsc B.len))) (fun hT G3 H3 x3 => ?_) (fun hF G3 H3 x3 => sb_nil (E := { nx := fun γ' G' H' => SB _ _ _ γ' G' H' _ }) ?_))
  · have hk2 : k < (ns.length : Int) := by simpa using hT
    have hk3 : k.toNat < ns.length := by omega
    refine sb_one (s_ret (EE.vj (ee_ixScr (x := ns[k.toNat]) (ee_var 0) hsc (ee_var 1) hk (List.getElem?_eq_getElem hk3))) fun v G4 H4 x4 r4 => ?_)
    unfold mCell
    rw [if_pos hk2, List.getD_eq_getElem?_getD, List.getElem?_eq_getElem hk3]
    exact r4
  · have hk2 : ¬ k < (ns.length : Int) := by simpa using hF
    refine sb_one (s_ret (EE.vj ee_int) fun v G4 H4 x4 r4 => ?_)
    unfold mCell
    rw [if_neg hk2]
    exact r4

def rLRow (ds : List D) (d : D) : Prop := ∃ (cell k many : Int), 0 ≤ many ∧ many ≤ 60 ∧ ds = [.int cell, .int k, .int many] ∧ d = .lst ((mRow cell k many).map .int)
theorem scLRow : FnScope ["_law_cell_here", "_law_k", "_law_many", "_law_row_here", "_law_turn", "_law_seed"] ["_law_cell_here", "_law_k", "_law_many"] (defScope sLRow) := ⟨rfl, rfl, rfl, by decide +kernel, rfl, by decide +kernel, by decide +kernel⟩
theorem ok_lRow {f : Addr} {fd : FuncData} (F : Fun K "_law_row" "_law_row" sLRow f fd) (B : Bt mg) : FnOk P w K mg base CX0 1 f fd ["_law_cell_here", "_law_k", "_law_many"] (spR P w T rLRow) := by
  refine def_ok F scLRow (fun ds d h => by obtain ⟨s, l, n, _, _, rfl, _⟩ := h; rfl) (fun cdv A outer s H E G ds d hr wf h => ?_)
  obtain ⟨cell, k, many, hm0, hm1, rfl, rfl⟩ := h
  unfold mRow
  refine sb_cons (s_newL 3 scLRow.nd ea_nil (Nat.zero_le _) fun a G1 H1 hn hn0 x1 m1 => sb_ext fun xa => ?_)
  refine sb_if (fun γ2 G2 H2 => γ2 = [.dat (.int (if cell < 0 then 1 - 2 * cell else cell)), .dat (.int k), .dat (.int many), .val (.ref a), .und, .und] ∧ ML P w G2 H2 a []) (ET.tj (et_c c_lt (ee_var 0) ee_int)) (fun hT G2 H2 x2 => sb_ext fun xb => ?_) (fun hF G2 H2 x2 => ?_) ?_
  · have hc : cell < 0 := by simpa using hT
    rw [if_pos hc]
    exact sb_cons (s_set 0 scLRow.nd (EE.vj (ee_sub ee_int (ee_mul ee_int (ee_var 0) (.inl (by omega))))) fun G3 H3 x3 => sb_nil ⟨rfl, (m1.ex xa.wf x2).ex xb.wf x3⟩)
  · have hc : ¬ cell < 0 := by simpa using hF
    rw [if_neg hc]
    exact sb_nil ⟨rfl, m1.ex xa.wf x2⟩
  · generalize (if cell < 0 then 1 - 2 * cell else cell) = c
    rintro γ2 G2 H2 g2 x2 ⟨rfl, m2⟩
    unfold mRow1
    refine sb_cons (s_if (ET.tj (et_c c_ge (ee_var 0) (ee_pow ee_int ee_int (by unfold CPow; decide)))) (fun hT G3 H3 x3 => ?_) (fun hF G3 H3 x3 => sb_nil (E := { nx := fun γ' G' H' => SB _ _ _ γ' G' H' _ }) ?_))
    · have hc : 10 ^ 18 ≤ c := by simpa using hT
      rw [if_pos hc]
      have m3 := m2.ex x2.wf x3
      refine sb_ext fun xc => sb_cons (s_for rfl (src_rng1 (ea_cons ee_int ea_nil) B.range (by decide) (by decide)) (fun i γ' G' H' => γ' = [.dat (.int (((rngI 0 60).take i).foldl (mBigStep many) (c, [])).1), .dat (.int k), .dat (.int many), .val (.ref a), .und, .und] ∧ ML P w G' H' a ((((rngI 0 60).take i).foldl (mBigStep many) (c, [])).2.map .int)) (fun G' H' x' => ⟨rfl, m3.ex xc.wf x'⟩) ?_ ?_)
      · rintro i d γ' G' H' hd g' x' ⟨rfl, ml⟩ G4 H4 x4
        rw [List.getElem?_map] at hd
        cases hb : (rngI 0 60)[i]? with
        | none => rw [hb] at hd; cases hd
        | some t =>
          rw [hb] at hd
          cases hd
          have et : ((rngI 0 60).take (i + 1)).foldl (mBigStep many) (c, []) = mBigStep many (((rngI 0 60).take i).foldl (mBigStep many) (c, [])) t := by
            rw [List.take_add_one, hb, List.foldl_append]; rfl
          have hlen : (((rngI 0 60).take i).foldl (mBigStep many) (c, [])).2.length ≤ 60 := by
            have := big_len many ((rngI 0 60).take i) (c, [])
            rw [List.length_take, rngI_len] at this
            have e6 : (60 - 0 : Int).toNat = 60 := by decide
            rw [e6] at this
            simp only [List.length_nil] at this
            omega
          rw [et]
          generalize ((rngI 0 60).take i).foldl (mBigStep many) (c, []) = st at *
          refine ⟨_, _, gt_name 4 scLRow.nd, ?_⟩
          have ml4 := ml.ex x'.wf x4
          refine sb_ext fun xd => sb_one (s_if (b := decide (0 < st.1) && decide ((st.2.length : Int) < many)) ?_ (fun hT2 G5 H5 x5 => sb_ext fun xe => ?_) (fun hF2 G5 H5 x5 => ?_))
          · exact tj_ml 3 rfl xd.wf ml4 (et_and (et_c c_gt (ee_var 0) ee_int) fun _ => et_c c_lt (ee_lenM (ee_var 3) B.len) (ee_var 2))
          · have e : mBigStep many st t = (st.1 / 1000, st.2 ++ [st.1 % 1000]) := by unfold mBigStep; rw [if_pos hT2]
            refine sb_cons (s_append (d := .int (st.1 % 1000)) (ev_var 3) (EE.vj (ee_mod (ee_intI (ee_var 0) B.int) ee_int (by decide))) (ml4.ex xd.wf x5) (by rw [List.length_map]; exact Nat.lt_of_le_of_lt (show _ ≤ 1000 by omega) (by decide)) (.inr hn0) fun G6 H6 x6 m6 => sb_ext fun xf => ?_)
            refine sb_cons (s_set 0 scLRow.nd (EE.vj (ee_fdiv (ee_var 0) ee_int (by unfold CDiv; decide))) fun G7 H7 x7 => sb_forget [4, 5] (sb_nil ⟨?_, ?_⟩))
            · rw [e]; rfl
            · rw [e, map_snoc]; exact m6.ex xf.wf x7
          · have e : mBigStep many st t = st := by unfold mBigStep; rw [if_neg (by rw [hF2]; exact Bool.false_ne_true)]
            rw [e]
            exact sb_forget [4, 5] (sb_nil ⟨rfl, ml4.ex xd.wf x5⟩)
      · rintro γ' G' H' g' x' ⟨rfl, ml⟩
        rw [List.length_map, List.take_length] at *
        exact sb_frz 3 rfl ml hn0 fun vs hv => sb_one (s_ret (EE.vj (ee_var 3)) fun v G5 H5 x5 r5 => r5)
    · have hc : ¬ 10 ^ 18 ≤ c := by simpa using hF
      rw [if_neg hc]
      have m3 := m2.ex x2.wf x3
      refine sb_ext fun xc => sb_cons (s_set 5 scLRow.nd (EE.vj (ee_mod (ee_intI (ee_add (ee_add (ee_mul (ee_var 0) ee_int (.inr (by omega))) (ee_mul (ee_var 1) ee_int (.inr (by omega)))) ee_int) B.int) ee_int (by decide))) fun G4 H4 x4 => sb_ext fun xd => ?_)
      have m4 := m3.ex xc.wf x4
      refine sb_cons (s_for rfl (src_rng1 (ea_cons (ee_var 2) ea_nil) B.range (by omega) (by omega)) (fun i γ' G' H' => γ' = [.dat (.int c), .dat (.int k), .dat (.int many), .val (.ref a), .und, .dat (.int (((rngI 0 many).take i).foldl mSeedStep ((c * 48271 + k * 69621 + 11) % 2147483647, [])).1)] ∧ ML P w G' H' a ((((rngI 0 many).take i).foldl mSeedStep ((c * 48271 + k * 69621 + 11) % 2147483647, [])).2.map .int)) (fun G' H' x' => ⟨rfl, m4.ex xd.wf x'⟩) ?_ ?_)
      · rintro i d γ' G' H' hd g' x' ⟨rfl, ml⟩ G5 H5 x5
        rw [List.getElem?_map] at hd
        cases hb : (rngI 0 many)[i]? with
        | none => rw [hb] at hd; cases hd
        | some t =>
          rw [hb] at hd
          cases hd
          have et : ((rngI 0 many).take (i + 1)).foldl mSeedStep ((c * 48271 + k * 69621 + 11) % 2147483647, []) = mSeedStep (((rngI 0 many).take i).foldl mSeedStep ((c * 48271 + k * 69621 + 11) % 2147483647, [])) t := by
            rw [List.take_add_one, hb, List.foldl_append]; rfl
          have hlen : (((rngI 0 many).take i).foldl mSeedStep ((c * 48271 + k * 69621 + 11) % 2147483647, [])).2.length ≤ 60 := by
            have := seed_len ((rngI 0 many).take i) ((c * 48271 + k * 69621 + 11) % 2147483647, [])
            rw [List.length_take, rngI_len] at this
            simp only [List.length_nil] at this
            omega
          rw [et]
          generalize ((rngI 0 many).take i).foldl mSeedStep ((c * 48271 + k * 69621 + 11) % 2147483647, []) = st at *
          refine ⟨_, _, gt_name 4 scLRow.nd, ?_⟩
          have ml5 := ml.ex x'.wf x5
          refine sb_ext fun xe => sb_cons (s_set 5 scLRow.nd (EE.vj (ee_mod (ee_intI (ee_add (ee_add (ee_mul (ee_var 5) ee_int (.inr (by omega))) (ee_mul ee_int (ee_var 4) (.inl (by omega)))) ee_int) B.int) ee_int (by decide))) fun G6 H6 x6 => sb_ext fun xf => ?_)
          have ml6 := ml5.ex xe.wf x6
          refine sb_cons (s_append (d := .int (((st.1 * 16807 + 7 * t + 1) % 2147483647) / 997 % 1000)) (ev_var 3) (EE.vj (ee_mod (ee_intI (ee_fdiv (ee_var 5) ee_int (by unfold CDiv; decide)) B.int) ee_int (by decide))) ml6 (by rw [List.length_map]; exact Nat.lt_of_le_of_lt (show _ ≤ 1000 by omega) (by decide)) (.inr hn0) fun G7 H7 x7 m7 => sb_forget [4] (sb_nil ⟨rfl, ?_⟩))
          unfold mSeedStep
          rw [map_snoc]
          exact m7
      · rintro γ' G' H' g' x' ⟨rfl, ml⟩
        rw [List.length_map, List.take_length] at *
        exact sb_frz 3 rfl ml hn0 fun vs hv => sb_one (s_ret (EE.vj (ee_var 3)) fun v G5 H5 x5 r5 => r5)
end
end HG

set_option Elab.async false
set_option linter.all false
set_option maxRecDepth 100000
set_option maxHeartbeats 400000
/-! The walk: the law's box, draw, contract. -/
namespace HG
open PySem L2
abbrev sLBox : Stmt := topS 35
abbrev sLDraw : Stmt := topS 36
abbrev sLCtr : Stmt := topS 37
def mBox (ns : List Int) : List Int := (rngI 0 12).foldl (fun row k => row ++ mRow (mCell ns k) k 12) []
def mDraw (row : List Int) (at_ : Nat) (many : Int) : Int := if at_ < row.length then row.getD at_ 0 % many else ((at_ : Int) * 7 + 3) % many
theorem draw_lt {row : List Int} {at_ : Nat} {many : Int} (h : 0 < many) : 0 ≤ mDraw row at_ many ∧ mDraw row at_ many < many := by
  unfold mDraw
  split
  · exact ⟨Int.emod_nonneg _ (by omega), Int.emod_lt_of_pos _ h⟩
  · exact ⟨Int.emod_nonneg _ (by omega), Int.emod_lt_of_pos _ h⟩
def mCtr (row : List Int) (at_ : Nat) (most : Int) : Ctr := ⟨1 + mDraw row (at_ + 1) most, mDraw row (at_ + 1 + 1) (most + 1), lensOf.getD (mDraw row at_ 8).toNat [], mDraw row (at_ + 1 + 1 + 1) 3⟩
abbrev boxD (row : List Int) (at_ : Nat) : List D := [.lst (row.map .int), .int (at_ : Int)]
structure DkS (P : Program) (w : World) (K : PySem.W.Frag) (mg : Str → Option Value) (base : Heap) (k : Nat) (x : Str) (sp : Sp) : Prop where
  ex : ∃ (f : Addr) (fd : FuncData) (ps : List Str), FnOk P w K mg base CX0 k f fd ps sp ∧ mg x = some (.ref f) ∧ PySem.W.keepIn K (.ref f) = true ∧ Binds K fd ps []
theorem DkS.mono {P : Program} {w : World} {K : PySem.W.Frag} {mg : Str → Option Value} {base : Heap} {j k : Nat} {x : Str} {sp : Sp} (F : DkS P w K mg base j x sp) (h : j ≤ k) : DkS P w K mg base k x sp := by
  obtain ⟨f, fd, ps, a, b, c, d⟩ := F.ex
  exact ⟨f, fd, ps, a.mono h, b, c, d⟩
def spB (P : Program) (w : World) (T : List Addr) (K : PySem.W.Frag) : Sp := fun vs H Q _ => ∃ (a : Addr) (o : Option HO) (ns : List Int) (G : Hp), SC K a o ns ∧ WF T G H ∧ DRs P w G vs [.scr a o, .int 0, .int 12] ∧
  ∀ b G' H', Ext T [] G H G' H' → H b = none → ML P w G' H' b (boxD (mBox ns) 0) → Q (.ref b) H'
def spD (P : Program) (w : World) (T : List Addr) : Sp := fun vs H Q _ => ∃ (b : Addr) (G : Hp) (row : List Int) (at_ : Nat) (many : Int), vs = [.ref b, .int many] ∧ WF T G H ∧ ML P w G H b (boxD row at_) ∧ 0 < many ∧
  ∀ G' H', Ext T [b] G H G' H' → ML P w G' H' b (boxD row (at_ + 1)) → Q (.int (mDraw row at_ many)) H'
def spCt (P : Program) (w : World) (T : List Addr) (C : Addr) : Sp := fun vs H Q _ => ∃ (b : Addr) (G : Hp) (row : List Int) (at_ : Nat) (most : Int), vs = [.ref b, .int most] ∧ WF T G H ∧ ML P w G H b (boxD row at_) ∧ 0 < most ∧
  ∀ v G' H', Ext T [b] G H G' H' → ML P w G' H' b (boxD row (at_ + 1 + 1 + 1 + 1)) → DR P w G' v (encC C (mCtr row at_ most)) → Q v H'
section
variable {N : En} {X : Cx} {γ : List SV} {G H : Hp} {E : EndD} {e o ie : Expr} {es : List Expr} {pos pos' p : Pos} {d : D}
theorem s_retL {pl : Pos} {ds : List D} (ha : EA N.T X es γ ds) (hz : ds.length ≤ sizeLine) (k : ∀ l G' H', H l = none → N.H0 l = none → Ext N.T [] G H G' H' → ML X.prog X.w G' H' l ds → E.rt (.ref l) G' H') : S1 N X (.Return (some (.List es pl)) pos) γ G H E := fun σ x0 env =>
  ws_of (ps_ret (pe_lst pa_w)) (ha σ G H _ x0.wf env fun vs G1 H1 x1 r1 => ⟨by rw [r1.length]; exact hz, fun l hl => by
    have x2 := x1.tr (Ext.newH (o := .lst vs) x1.wf hl)
    have hl0 : H l = none := by
      cases q : H l with
      | none => rfl
      | some u => exact absurd hl (x1.there l (by rw [q]; exact fun z => by cases z))
    have hl00 : N.H0 l = none := by
      cases q : N.H0 l with
      | none => rfl
      | some u => exact absurd hl0 (x0.there l (by rw [q]; exact fun z => by cases z))
    exact ⟨G1, x1.g, x0.tr x2, k l G1 _ hl0 hl00 x2 ⟨x1.wf.gn hl, vs, upd_same, r1⟩⟩⟩)
theorem drs_set {P : Program} {w : World} {G : Hp} : ∀ {vs : List V} {ds : List D} {i : Nat} {v : V} {d : D}, DRs P w G vs ds → DR P w G v d → DRs P w G (vs.set i v) (ds.set i d)
  | _, [], _, _, _, h, _ => by cases h; exact .nil
  | _, x :: xs, 0, _, _, h, q => by
    cases h with
    | cons h1 h2 => exact .cons q h2
  | _, x :: xs, i + 1, _, _, h, q => by
    cases h with
    | cons h1 h2 => exact .cons h1 (drs_set h2 q)
theorem s_setIx {l : Addr} {ds : List D} {i : Int} (ho : ∀ G' H', EV X o γ G' H' (.ref l)) (hi : EE N.T X ie γ (.int i)) (he : VJ N.T X e γ G H d) (hm : ML X.prog X.w G H l ds) (h0 : 0 ≤ i) (hlt : i.toNat < ds.length) (hM : l ∈ N.M ∨ N.H0 l = none)
    (k : ∀ G' H', Ext N.T [l] G H G' H' → ML X.prog X.w G' H' l (ds.set i.toNat d) → E.nx γ G' H')
    (hs : swapsWithSole [.Subscript o ie pos'] e pos.line X.env = pure false := by rfl) (hw : swappedStores [.Subscript o ie pos'] e X.env = pure none := by rfl) (h1 : (assignEach [.Subscript o ie pos'] X.env).map (·.2) = [assign (.Subscript o ie pos') X.env] := by rfl)
    (ha : ∀ v, assign (.Subscript o ie pos') X.env v = (do
      let ov ← holding [v] (eval o X.env)
      let iv ← holding [v, ov] (eval ie X.env)
      standAt pos'
      holding [v, ov, iv] (setItem ov iv v)
      release [v, ov, iv] []) := by intro _; rfl) : S1 N X (.Assign [.Subscript o ie pos'] e pos) γ G H E := fun σ x0 env => by
  refine ws_of (ps_asg pe_w (pg_sub pe_w pe_w set_list ha) hs hw h1) (he σ _ x0.wf env fun v G1 H1 x1 r1 => ?_)
  refine ho G1 H1 σ _ (env.up x1.g) ?_
  refine hi σ G1 H1 _ x1.wf (env.up x1.g) fun u G2 H2 x2 r2 => ?_
  have x12 := x1.tr x2
  obtain ⟨gl, vs, hl, rd⟩ := hm.ex x0.wf x12
  have hlen := rd.length
  refine ⟨l, vs, i, i.toNat, rfl, dr_int r2, hl, ?_, ?_⟩
  · unfold ixN
    rw [if_pos h0, if_pos (by omega)]
  · have nT := x2.wf.notT hl (fun ps z => by cases z)
    have x3 := (x12.mono (M' := [l]) (by simp)).trans (Ext.mut (o := .lst (vs.set i.toNat v)) x2.wf gl nT) (fun m hm => .inl hm)
    exact ⟨γ, G2, x3.g, x0.trans x3 (fun m hm => by rw [List.mem_singleton.mp hm]; exact hM), (env.up x1.g).up x2.g, k G2 _ x3 ⟨gl, _, upd_same, drs_set rd (r1.up x2.g)⟩⟩
theorem vj_ml {T : List Addr} {l : Addr} {ds : List D} (i : Nat) (hγ : γ[i]? = some (.val (.ref l))) (wf : WF T G H) (hm : ML X.prog X.w G H l ds) (h : EE T X e (γ.set i (.dat (.lst ds))) d) (hd : scalD d = true) : VJ T X e γ G H d := by
  obtain ⟨gl, vs, hl, r⟩ := hm
  exact vj_frz (sub_upd gl) (wf.frz hl (fun ps z => by cases z)) (fun σ env => env_frz env hγ gl (.lst upd_same (r.up (sub_upd gl)))) h hd
end

/-! ### values that draw from the box -/
def VM (T : List Addr) (X : Cx) (b : Addr) (row : List Int) (e : Expr) (γ : List SV) (i j : Nat) (d : D) : Prop :=
  ∀ (σ : St) (G H : Hp) (Q : VK), WF T G H → EnvR X.prog X.w G σ γ → ML X.prog X.w G H b (boxD row i) → (∀ v G' H', Ext T [b] G H G' H' → ML X.prog X.w G' H' b (boxD row j) → DR X.prog X.w G' v d → Q v H') → wE X e σ H Q
def VMA (T : List Addr) (X : Cx) (b : Addr) (row : List Int) (es : List Expr) (γ : List SV) (i j : Nat) (ds : List D) : Prop :=
  ∀ (σ : St) (G H : Hp) (Q : List V → Hp → Prop), WF T G H → EnvR X.prog X.w G σ γ → ML X.prog X.w G H b (boxD row i) → (∀ vs G' H', Ext T [b] G H G' H' → ML X.prog X.w G' H' b (boxD row j) → DRs X.prog X.w G' vs ds → Q vs H') → wA X es σ H Q
theorem Ext.trb {T : List Addr} {b : Addr} {G H G1 H1 G2 H2 : Hp} (x : Ext T [b] G H G1 H1) (y : Ext T [b] G1 H1 G2 H2) : Ext T [b] G H G2 H2 := x.trans y fun m hm => .inl hm
section
variable {T : List Addr} {X : Cx} {b : Addr} {row : List Int} {γ : List SV} {e a c : Expr} {es : List Expr} {i j k' : Nat} {d : D} {p pos : Pos}
theorem vm_ee (h : EE T X e γ d) : VM T X b row e γ i i d := fun σ G H Q wf env m k => h σ G H Q wf env fun v G' H' x r => k v G' H' (x.mono (by simp)) (m.ex wf x) r
theorem vma_nil : VMA T X b row [] γ i i [] := fun σ G H Q wf env m k => wa_of pa_nil (k _ _ _ ((Ext.refl (M := []) wf).mono (by simp)) m .nil)
theorem vma_cons {ds : List D} (h : VM T X b row e γ i j d) (hr : VMA T X b row es γ j k' ds) (hs : starEach (e :: es) X.env = (false, eval e X.env) :: starEach es X.env := by rfl) : VMA T X b row (e :: es) γ i k' (d :: ds) := fun σ G H Q wf env m k =>
  wa_of (pa_cons pe_w pa_w hs) (h σ G H _ wf env m fun v G1 H1 x1 m1 r1 => hr σ G1 H1 _ x1.wf (env.up x1.g) m1 fun vs G2 H2 x2 m2 r2 => k _ G2 H2 (x1.trb x2) m2 (.cons (r1.up x2.g) r2))
theorem vm_add {x y : Int} (ha : EE T X a γ (.int x)) (hc : VM T X b row c γ i j (.int y)) : VM T X b row (.BinOp a .Add c pos) γ i j (.int (x + y)) := fun σ G H Q wf env m k =>
  we_of (pe_op op_add pe_w pe_w) (ha σ G H _ wf env fun v G1 H1 x1 r1 => hc σ G1 H1 _ x1.wf (env.up x1.g) (m.ex wf x1) fun u G2 H2 x2 m2 r2 => ⟨x, y, dr_int r1, dr_int r2, k _ G2 H2 ((x1.mono (by simp)).trb x2) m2 (.int _)⟩)
theorem vm_ixL {ds : List D} {n : Int} {d : D} (ha : EE T X a γ (.lst ds)) (hc : VM T X b row c γ i j (.int n)) (hi : atI ds n = some d) (hs : PlainIx c := by exact fun _ _ => rfl) : VM T X b row (.Subscript a c pos) γ i j d := fun σ G H Q wf env m k =>
  we_of (pe_ix ix_list pe_w pe_w hs) (ha σ G H _ wf env fun v G1 H1 x1 r1 => hc σ G1 H1 _ x1.wf (env.up x1.g) (m.ex wf x1) fun u G2 H2 x2 m2 r2 => by
    obtain ⟨l, vs, rfl, g1, q1⟩ := dr_lst r1
    have hl := q1.length
    unfold atI at hi
    rw [← hl] at hi
    cases e : ixN vs.length n with
    | none => rw [e] at hi; cases hi
    | some jj =>
      rw [e] at hi
      obtain ⟨y, hy, ry⟩ := q1.get (i := jj) hi
      exact ⟨l, vs, n, y, rfl, dr_int r2, SqL.of (x2.wf.sub _ _ (x2.g _ _ g1)), by unfold atI; rw [e]; exact hy, k _ _ _ ((x1.mono (by simp)).trb x2) m2 (ry.up x2.g)⟩)
theorem vm_draw {n : Nat} {bx : Expr} {many : Int} (F : DkS X.prog X.w X.K X.mg X.base n "_law_draw" (spD X.prog X.w T)) (hr : Room n X.A) (hb0 : ∀ G H, EV X bx γ G H (.ref b)) (he : EE T X e γ (.int many)) (hm0 : 0 < many) (hg : Gl X "_law_draw" := by rfl) (hs : starEach [e] X.env = (false, eval e X.env) :: starEach [] X.env := by rfl)
    (hst : starEach [bx, e] X.env = (false, eval bx X.env) :: starEach [e] X.env := by rfl) (hpl : (backTo pos (starEach [e] X.env)).any (·.1) = false := by rfl) : VM T X b row (.Call (.Name "_law_draw" p) [bx, e] [] pos) γ i (i + 1) (.int (mDraw row i many)) := fun σ G H Q wf env m k => by
  obtain ⟨f, fd, ps, Fo, hm, hk, hb⟩ := F.ex
  refine we_of (pe_call Fo hr hg hm hk hb .nil (pass0 (X := X)) (pa_cons pe_w (pa_cons pe_w pa_nil hs) hst) (by decide) hst hpl) (hb0 G H σ _ env (he σ G H _ wf env fun v G1 H1 x1 r1 => ?_))
  rw [dr_int r1]
  show spD X.prog X.w T [V.ref b, V.int many] H1 Q E0
  exact ⟨b, G1, row, i, many, rfl, x1.wf, m.ex wf x1, hm0, fun G2 H2 x2 m2 => k _ G2 H2 ((x1.mono (by simp)).trb x2) m2 (.int _)⟩
theorem vm_call {x : Str} {n : Nat} {R : List D → D → Prop} {ds : List D} {d : D} (F : Dk X.prog X.w X.K X.mg X.base T n x R) (hr : Room n X.A) (ha : VMA T X b row (e :: es) γ i j ds) (h : R ds d) (hg : Gl X x := by rfl) (hdb : (x == ("__debug__" : Str)) = false := by decide)
    (he : starEach (e :: es) X.env = (false, eval e X.env) :: starEach es X.env := by rfl) (hpl : (backTo pos (starEach es X.env)).any (·.1) = false := by rfl) : VM T X b row (.Call (.Name x p) (e :: es) [] pos) γ i j d := fun σ G H Q wf env m kk => by
  obtain ⟨f, fd, ps, Fo, hm, hk, hb⟩ := F.ex
  refine we_of (pe_call Fo hr hg hm hk hb .nil (pass0 (X := X)) pa_w hdb he hpl) (ha σ G H _ wf env m fun vs G1 H1 x1 m1 r1 => ?_)
  rw [List.append_nil]
  exact ⟨ds, d, G1, h, x1.wf, r1, fun v G2 H2 x2 r2 => kk v G2 H2 (x1.tr x2) (m1.ex x1.wf x2) r2⟩
theorem vm_make {x : Str} {n : Nat} {C : Addr} {ns : List Str} {R : List D → List D → Prop} {ds fds : List D} (F : Ck X.prog X.w X.K X.mg X.base T n x C ns R) (hr : Room (n + 1) X.A) (ha : VMA T X b row (e :: es) γ i j ds) (h : R ds fds) (hg : Gl X x := by rfl) (hdb : (x == ("__debug__" : Str)) = false := by decide)
    (he : starEach (e :: es) X.env = (false, eval e X.env) :: starEach es X.env := by rfl) (hpl : (backTo pos (starEach es X.env)).any (·.1) = false := by rfl) : VM T X b row (.Call (.Name x p) (e :: es) [] pos) γ i j (.obj C ns fds) := fun σ G H Q wf env m kk => by
  obtain ⟨f, fd, ps, Fo, hM, hm, hb⟩ := F.ex
  refine we_of (pe_make hM Fo hr hg hm hb .nil (pass0 (X := X)) pa_w hdb he hpl) (ha σ G H _ wf env m fun vs G1 H1 x1 m1 r1 => ?_)
  intro y dy hy hdy ne
  rw [List.append_nil]
  exact ⟨ds, fds, G1, H1, y, dy, vs, rfl, h, x1.wf, r1, hy, hdy, ne, rfl, fun G2 H2 x2 r2 => ⟨rfl, kk _ G2 H2 (x1.tr x2) (m1.ex x1.wf x2) r2⟩⟩
end
section
variable {N : En} {X : Cx} {γ : List SV} {G H : Hp} {E : EndD} {e : Expr} {pos pos' : Pos} {d : D} {b : Addr} {row : List Int} {i j : Nat}
theorem s_setM {x : Str} (n : Nat) (hN : X.N.Nodup) (he : VM N.T X b row e γ i j d) (m : ML X.prog X.w G H b (boxD row i)) (h0 : b ∈ N.M ∨ N.H0 b = none) (k : ∀ G' H', Ext N.T [b] G H G' H' → ML X.prog X.w G' H' b (boxD row j) → E.nx (γ.set n (.dat d)) G' H') (hi : X.N[n]? = some x := by rfl) (hx : Loc X.env.scope x := by first | exact Or.inl rfl | exact Or.inr rfl)
    (hs : swapsWith e (some (.Name x pos')) pos.line X.env = pure false := by rfl) (hf : X.fn x = true ∨ X.env.scope.names.lookup x = some .local := by first | exact .inl rfl | exact .inr rfl | assumption) : S1 N X (.Assign [.Name x pos'] e pos) γ G H E := fun σ x0 env =>
  ws_of (ps_set hN hi hx pe_w hs hf) (he σ G H _ x0.wf env m fun v G1 H1 x1 m1 r1 => ⟨_, G1, x1.g, x0.trans x1 (fun m hm => by rw [List.mem_singleton.mp hm]; exact h0), (env.up x1.g).setD r1, k G1 H1 x1 m1⟩)
theorem s_retM (he : VM N.T X b row e γ i j d) (m : ML X.prog X.w G H b (boxD row i)) (h0 : b ∈ N.M ∨ N.H0 b = none) (k : ∀ v G' H', Ext N.T [b] G H G' H' → ML X.prog X.w G' H' b (boxD row j) → DR X.prog X.w G' v d → E.rt v G' H') : S1 N X (.Return (some e) pos) γ G H E := fun σ x0 env =>
  ws_of (ps_ret pe_w) (he σ G H _ x0.wf env m fun v G1 H1 x1 m1 r1 => ⟨G1, x1.g, x0.trans x1 (fun m hm => by rw [List.mem_singleton.mp hm]; exact h0), k v G1 H1 x1 m1 r1⟩)
end
section
variable {P : Program} {w : World} {K : PySem.W.Frag} {mg : Str → Option Value} {base : Heap} {T : List Addr}
/-- a def by its body, any promise -/
theorem def_okS {x qual : Str} {st : Stmt} {f : Addr} {fd : FuncData} {N ps : List Str} {k : Nat} {sp : Sp} (F : Fun K x qual st f fd) (S : FnScope N ps (defScope st)) (len : ∀ vs H Q E, sp vs H Q E → vs.length = ps.length)
    (body : ∀ (cdv : Value) (A : Around) (outer : List Env) (s : Shared) (H : Hp) (E : XK) (vs : List V) (Q : VK), Room k (A.deeper (PyProof.Rows.envOfC qual (defScope st) s.heap.objs.size f cdv)) → sp vs H Q E →
      ∃ (M : List Addr) (γ : List SV) (G : Hp), WF T G H ∧ EnvR P w G (L2.start N vs) γ ∧ SB ⟨T, M, G, H⟩ (cxOf CX0 P w K mg base N qual (defScope st) f cdv A outer s H E).nox (defBody st) γ G H { nx := fun _ _ _ => False, rt := fun v _ H' => Q v H' }) :
    FnOk P w K mg base CX0 (k + 1) f fd ps sp := by
  refine F.ok S len (fun cdv A outer s H vs Q E hr h => ?_)
  obtain ⟨M, γ, G, wf, env, sb⟩ := body cdv A outer s H E vs Q hr h
  refine ⟨_, pb_w, ?_⟩
  refine wb_mono (sb (L2.start N vs) (Ext.refl wf) env) (fun σ' H' q => ?_) (fun v H' q => ?_) (fun σ' H' q => ?_) (fun σ' H' q => ?_)
  · obtain ⟨γ', G', g', x', env', e⟩ := q
    exact e.elim
  · obtain ⟨G', g', x', q⟩ := q
    exact q
  · obtain ⟨γ', G', g', x', env', e⟩ := q
    exact e.elim
  · obtain ⟨γ', G', g', x', env', e⟩ := q
    exact e.elim
theorem scLBox : FnScope ["_law_script", "_law_first", "_law_last", "_law_row_here", "_law_k"] ["_law_script", "_law_first", "_law_last"] (defScope sLBox) := ⟨rfl, rfl, rfl, by decide +kernel, rfl, by decide +kernel, by decide +kernel⟩
theorem ok_lBox {f : Addr} {fd : FuncData} (F : Fun K "_law_box" "_law_box" sLBox f fd) (B : Bt mg) (L1 : Dk P w K mg base T 1 "_law_row" rLRow) (L2' : Dk P w K mg base T 1 "_law_cell" (rLCell K)) : FnOk P w K mg base CX0 2 f fd ["_law_script", "_law_first", "_law_last"] (spB P w T K) := by
  refine def_okS (T := T) F scLBox (fun vs H Q E h => ?_) (fun cdv A outer s H E vs Q hr h => ?_)
  · obtain ⟨a, o, ns, G, _, _, h3, _⟩ := h
    exact h3.length
  obtain ⟨a, o, ns, G, hsc, wf, h3, kq⟩ := h
  refine ⟨[], _, G, wf, startEnv h3, ?_⟩
  have blen : ∀ i, (((rngI 0 12).take i).foldl (fun row k => row ++ mRow (mCell ns k) k 12) ([] : List Int)).length ≤ 60 * i := by
    intro i
    induction i with
    | zero => simp
    | succ i ih =>
      by_cases hi : i < (rngI 0 12).length
      · have e : (rngI 0 12).take (i + 1) = (rngI 0 12).take i ++ [(rngI 0 12)[i]] := by rw [List.take_add_one, List.getElem?_eq_getElem hi]; rfl
        rw [e, List.foldl_append]
        simp only [List.foldl_cons, List.foldl_nil, List.length_append]
        have := row_len (cell := mCell ns (rngI 0 12)[i]) (k := (rngI 0 12)[i]) (many := 12) (by omega)
        omega
      · rw [List.take_of_length_le (show (rngI 0 12).length ≤ i + 1 by omega)]
        rw [List.take_of_length_le (show (rngI 0 12).length ≤ i by omega)] at ih
        omega
  refine sb_cons (s_set 3 scLBox.nd (EE.vj (d := .lst (([] : List Int).map .int)) (ee_lst ea_nil (Nat.zero_le _))) fun G1 H1 x1 => ?_)
  refine sb_cons (s_for rfl (src_rng2 (ea_cons (ee_var 1) (ea_cons (ee_var 2) ea_nil)) B.range (by decide)) (fun i γ' _ _ => γ' = [.dat (.scr a o), .dat (.int 0), .dat (.int 12), .dat (.lst ((((rngI 0 12).take i).foldl (fun row k => row ++ mRow (mCell ns k) k 12) ([] : List Int)).map .int)), .und]) (fun G' H' x' => rfl) ?_ ?_)
  · rintro i d γ' G' H' hd g' x' rfl G2 H2 x2
    rw [List.getElem?_map] at hd
    cases hb : (rngI 0 12)[i]? with
    | none => rw [hb] at hd; cases hd
    | some k =>
      rw [hb] at hd
      cases hd
      have hk := mem_rng (List.mem_of_getElem? hb)
      have hi : i < 12 := by
        have := (List.getElem?_eq_some_iff.mp hb).1
        rw [rngI_len] at this
        omega
      have bl := blen i
      have rl := row_len (cell := mCell ns k) (k := k) (many := 12) (by omega)
      have et : ((rngI 0 12).take (i + 1)).foldl (fun row k => row ++ mRow (mCell ns k) k 12) ([] : List Int) = ((rngI 0 12).take i).foldl (fun row k => row ++ mRow (mCell ns k) k 12) [] ++ mRow (mCell ns k) k 12 := by
        rw [List.take_add_one, hb, List.foldl_append]; rfl
      refine ⟨_, _, gt_name 4 scLBox.nd, sb_cons (s_set 3 scLBox.nd (EE.vj (ee_cat (ee_var 3) (ee_call L1 hr (ea_cons (ee_call L2' hr (ea_cons (ee_var 0) (ea_cons (ee_var 4) ea_nil)) ⟨a, o, ns, k, hsc, hk.1, rfl, rfl⟩) (ea_cons (ee_var 4) (ea_cons ee_int ea_nil))) ⟨mCell ns k, k, 12, by omega, by omega, rfl, rfl⟩) (line1000 (by rw [List.length_map, List.length_map]; omega)))) fun G3 H3 x3 => sb_forget [4] (sb_nil ?_))⟩
      rw [et, List.map_append]
      rfl
  · rintro γ' G' H' g' x' rfl
    rw [List.length_map, List.take_length]
    exact sb_ext fun xz => sb_one (s_retL (ea_cons (ee_var 3) (ea_cons ee_int ea_nil)) l2 fun l G3 H3 hl hl0 x3 m3 => kq l G3 H3 (xz.tr x3) hl0 m3)

theorem scLDraw : FnScope ["_law_box_here", "_law_many", "_law_at"] ["_law_box_here", "_law_many"] (defScope sLDraw) := ⟨rfl, rfl, rfl, by decide +kernel, rfl, by decide +kernel, by decide +kernel⟩
theorem ok_lDraw {f : Addr} {fd : FuncData} (F : Fun K "_law_draw" "_law_draw" sLDraw f fd) (B : Bt mg) : FnOk P w K mg base CX0 1 f fd ["_law_box_here", "_law_many"] (spD P w T) := by
  refine def_okS (T := T) F scLDraw (fun vs H Q E h => ?_) (fun cdv A outer s H E vs Q hr h => ?_)
  · obtain ⟨b, G, row, at_, many, rfl, _⟩ := h
    rfl
  obtain ⟨b, G, row, at_, many, rfl, wf, m, hm0, kq⟩ := h
  refine ⟨[b], _, G, wf, startEnvI (DRs.one (DR.int many)), ?_⟩
  have hat1 : atI (boxD row at_) 1 = some (.int (at_ : Int)) := rfl
  refine sb_cons (s_set 2 scLDraw.nd (d := .int (at_ : Int)) (vj_ixM (fun _ _ => ev_var 0) ee_int m hat1) fun G1 H1 x1 => sb_ext fun xa => ?_)
  have m1 := m.ex wf x1
  refine sb_cons (s_setIx (fun _ _ => ev_var 0) ee_int (EE.vj (ee_add (ee_var 2) ee_int)) m1 (by decide) (show 1 < 2 by decide) (.inl (by simp)) fun G2 H2 x2 m2 => sb_ext fun xb => ?_)
  have m2' : ML P w G2 H2 b (boxD row (at_ + 1)) := m2
  refine sb_cons (s_if (b := decide ((at_ : Int) < (row.length : Int))) (tj_ml 0 rfl xb.wf m2' (et_c c_lt (ee_var 2) (ee_lenM (ee_ixL (ee_var 0) ee_int rfl) B.len))) (fun hT G3 H3 x3 => sb_ext fun xc => ?_) (fun hF G3 H3 x3 => sb_nil (E := { nx := fun γ' G' H' => SB _ _ _ γ' G' H' _ }) (sb_ext fun xc => ?_)))
  · have ha : at_ < row.length := by
      have : (at_ : Int) < (row.length : Int) := by simpa using hT
      omega
    have m3 := m2'.ex xb.wf x3
    refine sb_one (s_ret (d := .int (row.getD at_ 0 % many)) (vj_ml 0 rfl xc.wf m3 (ee_mod (ee_intI (ee_ixL (ee_ixL (ee_var 0) ee_int rfl) (ee_var 2) (at_map (by rw [List.getD_eq_getElem?_getD, List.getElem?_eq_getElem ha]; rfl))) B.int) (ee_var 1) hm0) rfl) fun v G4 H4 x4 r4 => ?_)
    rw [dr_int r4]
    have e : mDraw row at_ many = row.getD at_ 0 % many := by unfold mDraw; rw [if_pos ha]
    rw [← e]
    exact kq G4 H4 (xc.tr x4) (m3.ex xc.wf x4)
  · have ha : ¬ at_ < row.length := by
      have : ¬ (at_ : Int) < (row.length : Int) := by simpa using hF
      omega
    have m3 := m2'.ex xb.wf x3
    refine sb_one (s_ret (EE.vj (ee_mod (ee_intI (ee_add (ee_mul (ee_var 2) ee_int (.inr (by omega))) ee_int) B.int) (ee_var 1) hm0)) fun v G4 H4 x4 r4 => ?_)
    rw [dr_int r4]
    have e : mDraw row at_ many = ((at_ : Int) * 7 + 3) % many := by unfold mDraw; rw [if_neg ha]
    rw [← e]
    exact kq G4 H4 (xc.tr x4) (m3.ex xc.wf x4)

end
end HG

set_option Elab.async false
set_option linter.all false
set_option maxRecDepth 100000
set_option maxHeartbeats 100000
/-! The walk: the law's contract. -/
namespace HG
open PySem L2
section
variable {T : List Addr} {X : Cx} {γ : List SV} {es elts : List Expr} {d : D} {ds : List D} {pl pos : Pos} {i : Int} {j : Nat}
theorem ea_consC (hr : EA T X es γ ds) : EA T X (.Constant (.int i) j pos :: es) γ (.int i :: ds) := ea_cons ee_int hr rfl
theorem ea_consL (h : EE T X (.List elts pl) γ d) (hr : EA T X es γ ds) : EA T X (.List elts pl :: es) γ (d :: ds) := ea_cons h hr rfl
end
section
variable {T : List Addr} {X : Cx} {γ : List SV} {es elts : List Expr} {d : D} {ds : List D} {pl pos p1 p2 p3 p4 p5 p6 p7 p8 : Pos} {i i1 i2 i3 : Int} {j j1 j2 j3 : Nat} {x1 x2 x3 x4 x5 x6 x7 x8 : List Expr} {d1 d2 d3 d4 d5 d6 d7 d8 : D}
theorem ee_i1 : EE T X (.List [.Constant (.int i1) j1 p1] pos) γ (.lst [.int i1]) := ee_lst (ea_consC ea_nil) l1
theorem ee_i2 : EE T X (.List [.Constant (.int i1) j1 p1, .Constant (.int i2) j2 p2] pos) γ (.lst [.int i1, .int i2]) := ee_lst (ea_consC (ea_consC ea_nil)) l2
theorem ee_i3 : EE T X (.List [.Constant (.int i1) j1 p1, .Constant (.int i2) j2 p2, .Constant (.int i3) j3 p3] pos) γ (.lst [.int i1, .int i2, .int i3]) := ee_lst (ea_consC (ea_consC (ea_consC ea_nil))) l3
theorem ee_lst8 (h1 : EE T X (.List x1 p1) γ d1) (h2 : EE T X (.List x2 p2) γ d2) (h3 : EE T X (.List x3 p3) γ d3) (h4 : EE T X (.List x4 p4) γ d4) (h5 : EE T X (.List x5 p5) γ d5) (h6 : EE T X (.List x6 p6) γ d6) (h7 : EE T X (.List x7 p7) γ d7) (h8 : EE T X (.List x8 p8) γ d8) :
    EE T X (.List [.List x1 p1, .List x2 p2, .List x3 p3, .List x4 p4, .List x5 p5, .List x6 p6, .List x7 p7, .List x8 p8] pos) γ (.lst [d1, d2, d3, d4, d5, d6, d7, d8]) :=
  ee_lst (ea_consL h1 (ea_consL h2 (ea_consL h3 (ea_consL h4 (ea_consL h5 (ea_consL h6 (ea_consL h7 (ea_consL h8 ea_nil)))))))) (line1000 (show 8 ≤ 1000 by decide))
end
def lensDs : List D := [D.lst [.int 1], D.lst [.int 2], D.lst [.int 1, .int 2], D.lst [.int 1, .int 2], D.lst [.int 1, .int 3], D.lst [.int 2, .int 3], D.lst [.int 1, .int 2, .int 3], D.lst [.int 3]]
def eLens : Expr := match defBody sLCtr with
  | (.Assign _ (.Subscript a _ _) _) :: _ => a
  | _ => .Constant .none 0 ⟨0, 0, 0, 0⟩
theorem lens_any {T : List Addr} {X : Cx} {γ : List SV} {e : Expr} (he : eLens = e) : EE T X e γ (.lst lensDs) := by
  subst he
  refine ee_lst (ds := lensDs) ?_ ?_
  case refine_2 => exact line1000 (show lensDs.length ≤ 1000 by decide)
  unfold lensDs
  refine ea_consL ?_ ?_
  · exact ee_i1
  refine ea_consL ?_ ?_
  · exact ee_i1
  refine ea_consL ?_ ?_
  · exact ee_i2
  refine ea_consL ?_ ?_
  · exact ee_i2
  refine ea_consL ?_ ?_
  · exact ee_i2
  refine ea_consL ?_ ?_
  · exact ee_i2
  refine ea_consL ?_ ?_
  · exact ee_i3
  refine ea_consL ?_ ?_
  · exact ee_i1
  exact ea_nil
theorem lens_at (row : List Int) (at_ : Nat) : atI lensDs (mDraw row at_ 8) = some (.lst ((lensOf.getD (mDraw row at_ 8).toNat []).map D.int)) := by
  obtain ⟨h1, h2⟩ := draw_lt (row := row) (at_ := at_) (many := 8) (by decide)
  generalize mDraw row at_ 8 = n at *
  have : n = 0 ∨ n = 1 ∨ n = 2 ∨ n = 3 ∨ n = 4 ∨ n = 5 ∨ n = 6 ∨ n = 7 := by omega
  rcases this with e | e | e | e | e | e | e | e <;> subst e <;> rfl
section
variable {P : Program} {w : World} {K : PySem.W.Frag} {mg : Str → Option Value} {base : Heap} {T : List Addr}
theorem scLCtr : FnScope ["_law_box_here", "_law_most", "_law_lengths"] ["_law_box_here", "_law_most"] (defScope sLCtr) := ⟨rfl, rfl, rfl, by decide +kernel, rfl, by decide +kernel, by decide +kernel⟩
theorem ok_lCtr {f C : Addr} {fd : FuncData} (F : Fun K "_law_contract" "_law_contract" sLCtr f fd) (L1 : DkS P w K mg base 1 "_law_draw" (spD P w T)) (L2' : Ck P w K mg base T 1 "Contract" C ["size", "limit", "lengths", "budget"] rContract) : FnOk P w K mg base CX0 3 f fd ["_law_box_here", "_law_most"] (spCt P w T C) := by
  refine def_okS (T := T) F scLCtr (fun vs H Q E h => ?_) (fun cdv A outer s H E vs Q hr h => ?_)
  · obtain ⟨b, G, row, at_, most, rfl, _⟩ := h
    rfl
  obtain ⟨b, G, row, at_, most, rfl, wf, m, hmo, kq⟩ := h
  refine ⟨[b], _, G, wf, startEnvI (DRs.one (DR.int most)), ?_⟩
  have hr1 := hr.mono (j := 1) (by decide)
  have hat := lens_at row at_
  refine sb_cons ?_
  change S1 _ _ (.Assign [_] (.Subscript eLens _ _) _) _ _ _ _
  generalize he : eLens = e
  refine s_setM 2 scLCtr.nd (vm_ixL (lens_any he) (vm_draw L1 hr1 (fun _ _ => ev_var 0) ee_int (by decide)) hat) m (.inl (by simp)) fun G1 H1 x1 m1 => sb_ext fun xa => ?_
  have hR : rContract [D.int (1 + mDraw row (at_ + 1) most), .int (mDraw row (at_ + 1 + 1) (most + 1)), .lst ((lensOf.getD (mDraw row at_ 8).toNat []).map D.int), .int (mDraw row (at_ + 1 + 1 + 1) 3)] [D.int (1 + mDraw row (at_ + 1) most), .int (mDraw row (at_ + 1 + 1) (most + 1)), .lst ((lensOf.getD (mDraw row at_ 8).toNat []).map D.int), .int (mDraw row (at_ + 1 + 1 + 1) 3)] := ⟨mCtr row at_ most, rfl, rfl⟩
  refine sb_one (s_retM (vm_make L2' (hr.mono (by decide)) (vma_cons (vm_add ee_int (vm_draw L1 hr1 (fun _ _ => ev_var 0) (ee_var 1) hmo)) (vma_cons (vm_draw L1 hr1 (fun _ _ => ev_var 0) (ee_add (ee_var 1) ee_int) (by omega)) (vma_cons (vm_ee (ee_var 2)) (vma_cons (vm_draw L1 hr1 (fun _ _ => ev_var 0) ee_int (by decide)) vma_nil)))) hR) m1 (.inl (by simp)) fun v G2 H2 x2 m2 r2 => kq v G2 H2 (xa.trb x2) m2 r2)
end
end HG

set_option Elab.async false
set_option linter.all false
set_option maxRecDepth 100000
set_option maxHeartbeats 400000
/-! numbers drawn in a comprehension -/
namespace HG
open PySem L2
section
variable {T : List Addr} {X : Cx} {γ : List SV} {elt tg iter : Expr} {scope : Scope} {own : List (Str × Nat)} {pos : Pos} {b : Addr} {row : List Int} {i0 i1 : Nat}
theorem lc_readM {xs : List Int} (enc : Int → D) (js : List Nat) (B : Int → List SV) (g : Nat → D) (hi : ∀ (σ : L2.St) (G H : Hp) (R : It → Hp → Prop), WF T G H → EnvR X.prog X.w G σ γ → ML X.prog X.w G H b (boxD row i0) → (∀ J G' H', Ext T [b] G H G' H' → ML X.prog X.w G' H' b (boxD row i1) → JOk T X.prog X.w J G' (xs.map enc) → R J H') → wI X tg iter σ H R) (hjs : ∀ j ∈ js, j ∈ own.map (·.2))
    (hg : ∀ (s0 : Shared) (H0 : Hp) (C : Addr) (cl : List (Str × Addr)) (fp : List Addr) (x : Int), x ∈ xs → GT T (X.blk s0 H0 scope (compEnvC scope cl C X.env) fp) tg js (enc x) (undefs γ (own.map (·.2))) (B x))
    (he : ∀ (s0 : Shared) (H0 : Hp) (C : Addr) (cl : List (Str × Addr)) (fp : List Addr) (k : Nat) (x : Int), xs[k]? = some x → VM T (X.blk s0 H0 scope (compEnvC scope cl C X.env) fp) b row elt (B x) (i1 + k) (i1 + k + 1) (g k))
    (hz : xs.length ≤ sizeLine) {σ : L2.St} {G H : Hp} {Q : VK} (wf : WF T G H) (env : EnvR X.prog X.w G σ γ) (ml : ML X.prog X.w G H b (boxD row i0)) (k : ∀ v G' H', Ext T [b] G H G' H' → ML X.prog X.w G' H' b (boxD row (i1 + xs.length)) → DR X.prog X.w G' v (.lst ((List.range xs.length).map g)) → Q v H') :
    tLc (wI X tg iter) (bG X scope tg) (bTs X scope []) (bE X scope elt) (own.map (·.2)) σ H Q := by
  refine hi σ G H _ wf env ml fun J G1 H1 x1 ml1 jok => ?_
  intro Da hD
  have hlen : (xs.map enc).length = xs.length := List.length_map ..
  have hbD : b ≠ Da := ml1.ne hD
  refine ⟨fun i m H' => m = xs.length - i ∧ i ≤ xs.length ∧ ∃ G', Sub G1 G' ∧ Ext T [b] G1 H1 G' H' ∧ ML X.prog X.w G' H' b (boxD row (i1 + i)) ∧ G' Da = none ∧ ∃ vs, H' Da = some (.lst vs) ∧ DRs X.prog X.w G' vs ((List.range i).map g),
    ⟨xs.length, rfl, Nat.zero_le _, G1, fun _ _ e => e, (Ext.newH (T := T) x1.wf hD).mono (by simp), ml1.ex x1.wf (Ext.newH x1.wf hD), x1.wf.gn hD, [], upd_same, .nil⟩, ?_⟩
  rintro i m H' ⟨rfl, hi', G', g', x', ml', gD, vs, hvs, rvs⟩
  by_cases hlt : i < xs.length
  · refine .inr ⟨jok.go i G' H' x'.wf g' (by rw [hlen]; exact hlt), fun H'' => i + 1 ≤ xs.length ∧ ∃ G', Sub G1 G' ∧ Ext T [b] G1 H1 G' H'' ∧ ML X.prog X.w G' H'' b (boxD row (i1 + (i + 1))) ∧ G' Da = none ∧ ∃ vs, H'' Da = some (.lst vs) ∧ DRs X.prog X.w G' vs ((List.range (i + 1)).map g), fun H'' q => ⟨xs.length - (i + 1), by omega, rfl, q⟩, fun x H2 y => ?_⟩
    have hxi : xs[i]? = some xs[i] := List.getElem?_eq_getElem hlt
    have hmem : xs[i] ∈ xs := List.getElem_mem hlt
    obtain ⟨G2, x2, r2⟩ := jok.yld i G' H' x H2 (enc xs[i]) x'.wf g' (by rw [List.getElem?_map, hxi]; rfl) y
    have gD2 : G2 Da = none := by
      cases q : G2 Da with
      | none => rfl
      | some u =>
        rcases x2.new _ _ q with z | z
        · rw [gD] at z; cases z
        · rw [hvs] at z; cases z
    have nT : Da ∉ T := x'.wf.notT hvs (fun ps z => by cases z)
    have hvs2 : H2 Da = some (.lst vs) := x2.keep _ _ hvs nT (by simp)
    have ml2 := ml'.ex x'.wf x2
    have x12 : Ext T [b] G1 H1 G2 H2 := x'.tr x2
    have sub2 : Sub G G2 := fun b o z => x12.g _ _ (x1.g _ _ z)
    have ew : EnvR X.prog X.w G2 (wipe σ (own.map (·.2))) (undefs γ (own.map (·.2))) := (env.wipe _).up sub2
    intro s0 H0 C cl fp
    refine hg s0 H0 C cl fp xs[i] hmem _ G2 H2 x _ x2.wf ew r2 fun σ2 env2 w2 => ⟨?_, ?_⟩
    · rw [w2 _ hjs]
      exact wipe_wipe σ _ _ fun v hv => hv
    intro s0 H0 C cl fp
    refine ets_nil (T := T) (X := (X.blk s0 H0 scope (compEnvC scope cl C X.env) fp)) σ2 G2 H2 _ x2.wf env2 fun G3 H3 x3 => ?_
    have gD3 : G3 Da = none := by
      cases q : G3 Da with
      | none => rfl
      | some u =>
        rcases x3.new _ _ q with z | z
        · rw [gD2] at z; cases z
        · rw [hvs2] at z; cases z
    have hvs3 : H3 Da = some (.lst vs) := x3.keep _ _ hvs2 nT (by simp)
    have x13 : Ext T [b] G1 H1 G3 H3 := x12.tr x3
    have ml3 := ml2.ex x2.wf x3
    have lb : vs.length ≤ i := by rw [rvs.length, List.length_map, List.length_range]; exact Nat.le_refl _
    simp only [if_true]
    intro s0 H0 C cl fp
    refine he s0 H0 C cl fp i xs[i] hxi σ2 G3 H3 _ x3.wf (env2.up x3.g) ml3 fun v G4 H4 x4 ml4 r4 => ?_
    have gD4 : G4 Da = none := by
      cases q : G4 Da with
      | none => rfl
      | some u =>
        rcases x4.new _ _ q with z | z
        · rw [gD3] at z; cases z
        · rw [hvs3] at z; cases z
    have hvs4 : H4 Da = some (.lst vs) := x4.keep _ _ hvs3 nT (by simpa using hbD.symm)
    have x14 : Ext T [b] G1 H1 G4 H4 := x13.trb x4
    refine ⟨vs, hvs4, by omega, hlt, G4, x14.g, x14.trans (Ext.mut x4.wf gD4 nT) (fun m hm => .inr ?_), ml4.ext x4.wf (Ext.mut (o := .lst (vs ++ [v])) x4.wf gD4 nT) (by simpa using hbD), gD4, vs ++ [v], upd_same, ?_⟩
    · rw [List.mem_singleton.mp hm]; exact hD
    · rw [List.range_succ, List.map_append]
      exact (((rvs.up x2.g).up x3.g).up x4.g).append (.one r4)
  · have e : i = xs.length := by omega
    subst e
    refine .inl ⟨jok.stop _ G' H' x'.wf g' (by rw [hlen]; exact Nat.le_refl _), ?_⟩
    have nT : Da ∉ T := x'.wf.notT hvs (fun ps z => by cases z)
    have x1' := x1.trb x'
    have hD0 : H Da = none := by
      cases q : H Da with
      | none => rfl
      | some u => exact absurd hD (x1.there Da (by rw [q]; exact fun z => by cases z))
    have xf : Ext T [b] G H (upd G' Da (.lst vs)) H' := x1'.frz hvs gD hD0 (fun ps z => by cases z)
    obtain ⟨q1, vb, q2, q3⟩ := ml'
    exact k _ (upd G' Da (.lst vs)) H' xf ⟨by rw [upd_ne hbD]; exact q1, vb, q2, q3.up (sub_upd gD)⟩ (.lst upd_same (rvs.up (sub_upd gD)))
end
section
variable {N : En} {X : Cx} {γ : List SV} {G H : Hp} {E : EndD} {elt : Expr} {pos : Pos} {b : Addr} {row : List Int} {i0 i1 : Nat}
/-- y = [draw for x in range(draw)] -/
theorem s_setLcM {y x : Str} {py px p p' pos' : Pos} {c : Expr} {scope : Scope} {own : List (Str × Nat)} {n : Int} (i : Nat) (js : List Nat) (B : Int → List SV) (g : Nat → D) (hc : X.calm = true) (hN : X.N.Nodup) (ok : BlkOk X.N X.env.scope scope own)
    (hyl : X.env.scope.names.lookup y = some .local) (hsw : swapsWith (.ListComp elt [⟨.Name x px, .Call (.Name "range" p) [c] [] p', [], 0⟩] scope pos') (some (.Name y py)) pos.line X.env = pure true) (hcd : VM N.T X b row c γ i0 i1 (.int n)) (hn : 0 ≤ n ∧ n ≤ 1000) (hjs : ∀ j ∈ js, j ∈ own.map (·.2)) (hm : X.mg "range" = none)
    (hg : ∀ (s0 : Shared) (H0 : Hp) (C : Addr) (cl : List (Str × Addr)) (fp : List Addr) (z : Int), z ∈ rngI 0 n → GT N.T (X.blk s0 H0 scope (compEnvC scope cl C X.env) fp) (.Name x px) js (.int z) (undefs γ (own.map (·.2))) (B z))
    (he : ∀ (s0 : Shared) (H0 : Hp) (C : Addr) (cl : List (Str × Addr)) (fp : List Addr) (k : Nat) (z : Int), (rngI 0 n)[k]? = some z → VM N.T (X.blk s0 H0 scope (compEnvC scope cl C X.env) fp) b row elt (B z) (i1 + k) (i1 + k + 1) (g k))
    (m : ML X.prog X.w G H b (boxD row i0)) (h0 : b ∈ N.M ∨ N.H0 b = none) (k : ∀ G' H', Ext N.T [b] G H G' H' → ML X.prog X.w G' H' b (boxD row (i1 + (rngI 0 n).length)) → E.nx (γ.set i (.dat (.lst ((List.range (rngI 0 n).length).map g)))) G' H') (hy : X.N[i]? = some y := by rfl) (hs : ∀ x, foldedSetIterable (.Call (.Name "range" p) [c] [] p') X.env x = pure x := by intro _; rfl)
    (hgl : Gl X "range" := by rfl) (hst : starEach [c] X.env = [(false, eval c X.env)] := by rfl) :
    S1 N X (.Assign [.Name y py] (.ListComp elt [⟨.Name x px, .Call (.Name "range" p) [c] [] p', [], 0⟩] scope pos') pos) γ G H E := fun σ x0 env =>
  ws_of (ps_setLc (i := i) (own := own) (g := bG X scope (.Name x px)) (tt := bTs X scope []) (te := bE X scope elt) hc hN hy hyl hsw pi_w ok (fun s0 H0 C cl fp => ⟨fun pins s σ H v u Q I r h => h s0 H0 C cl fp pins s u I r⟩) (fun s0 H0 C cl fp => ⟨fun pins s σ H Q I h => h s0 H0 C cl fp pins s I⟩)
    (fun s0 H0 C cl fp => ⟨fun pins s σ H Q I h => h s0 H0 C cl fp pins s I⟩) hs) (lc_readM (own := own) (i0 := i0) (i1 := i1) D.int js B g (fun σ G H R wf env m kk => wi_of (pi_range1 hgl hm (pa_cons pe_w pa_nil hst) hst) (hcd σ G H _ wf env m fun v G1 H1 x1 m1 r1 => by
      rw [dr_int r1]
      refine ⟨n, rfl, by omega, by omega, kk _ G1 H1 x1 m1 ?_⟩
      have e : n.toNat = (n - 0).toNat := by simp
      rw [e]
      exact jok_rng)) hjs hg he (line1000 (by rw [rngI_len]; omega)) x0.wf env m fun v G1 H1 x1 m1 r1 =>
    ⟨_, G1, x1.g, x0.trans x1 (fun m hm => by rw [List.mem_singleton.mp hm]; exact h0), (env.up x1.g).setD r1, k G1 H1 x1 m1⟩)
end
end HG

set_option Elab.async false
set_option linter.all false
set_option maxRecDepth 100000
set_option maxHeartbeats 400000
/-! The plain law: hashes, the defeat, the last loop. -/
namespace HG
open PySem L2
mutual
def hN : NestedKey → Int
  | .num i => hashInt i
  | .tup ks => reduceHash (Builtin.Tuple.tupleHashOf (hNs ks))
  | _ => 0
def hNs : List NestedKey → List Int
  | [] => []
  | k :: ks => hN k :: hNs ks
end
mutual
def numsK : NestedKey → Bool
  | .num _ => true
  | .tup ks => numsKs ks
  | _ => false
def numsKs : List NestedKey → Bool
  | [] => true
  | k :: ks => numsK k && numsKs ks
end
mutual
theorem hash_hN (w : World) : ∀ k : NestedKey, numsK k = true → k.hash w = hN k
  | .num i, _ => by simp [NestedKey.hash, hN]
  | .tup ks, h => by
    have := hash_hNs w ks (by simpa [numsK] using h)
    simp [NestedKey.hash, hN, this]
  | .none, h => by simp [numsK] at h
  | .text _, h => by simp [numsK] at h
theorem hash_hNs (w : World) : ∀ ks : List NestedKey, numsKs ks = true → NestedKey.hashes w ks = hNs ks
  | [], _ => by simp [NestedKey.hashes, hNs]
  | k :: ks, h => by
    have h' : numsK k = true ∧ numsKs ks = true := by simpa [numsKs] using h
    simp [NestedKey.hashes, hNs, hash_hN w k h'.1, hash_hNs w ks h'.2]
end
theorem nums_nkb : ∀ l : Lay, numsKs (l.map nkb) = true
  | [] => by simp [numsKs]
  | b :: l => by simp [numsKs, nkb, numsK, nums_nkb l]
theorem nums_nk2 (p : Lay × Int) : numsK (nk2 p) = true := by simp [nk2, numsK, numsKs, nk, nums_nkb]
def keysL (c : Ctr) (ps : List Lay) : List (Lay × Int) := (ps.take 20).flatMap fun l => c.lens.map fun n => (l, n)
def chk2 (c : Ctr) : Bool := match mPos c with
  | none => false
  | some ps => decide (((keysL c ps).map fun p => hN (nk2 p)).Nodup)
theorem chk2_all : allC.all chk2 = true := by decide +kernel
theorem lens_ok : ∀ ls ∈ lensOf, ls.Nodup ∧ ls.length ≤ 3 ∧ ∀ n ∈ ls, 1 ≤ n ∧ n ≤ 3 := by decide +kernel
theorem hash_nd {c : Ctr} {ps : List Lay} (hc : c ∈ allC) (hp : mPos c = some ps) (w : World) : ((keysL c ps).map fun p => (nk2 p).hash w).Nodup := by
  have h := List.all_eq_true.mp chk2_all c hc
  unfold chk2 at h
  rw [hp] at h
  have e : (fun p : Lay × Int => (nk2 p).hash w) = fun p => hN (nk2 p) := by
    funext p
    exact hash_hN w _ (nums_nk2 p)
  rw [e]
  simpa using h
theorem mem_allC {s m b : Int} {ls : List Int} (hs : 1 ≤ s ∧ s ≤ 3) (hm : 0 ≤ m ∧ m ≤ 3) (hl : ls ∈ lensOf) (hb : 0 ≤ b ∧ b ≤ 2) : (⟨s, m, ls, b⟩ : Ctr) ∈ allC := by
  unfold allC
  refine List.mem_flatMap.mpr ⟨s, ?_, List.mem_flatMap.mpr ⟨m, ?_, List.mem_flatMap.mpr ⟨ls, hl, List.mem_map.mpr ⟨b, ?_, rfl⟩⟩⟩⟩
  · have : s = 1 ∨ s = 2 ∨ s = 3 := by omega
    simpa using this
  · have : m = 0 ∨ m = 1 ∨ m = 2 ∨ m = 3 := by omega
    simpa using this
  · have : b = 0 ∨ b = 1 ∨ b = 2 := by omega
    simpa using this
theorem mgr_mem {c : Ctr} {r : Rk} {l : Lay} {n : Int} {rp : Rep} (h : mMgr c r l n = some rp) : rp ∈ mReplies c l n := by
  have key : ∀ (xs : List Rep) (best : Option (Rep × Option Int)) (S : List Rep), (∀ b, best = some b → b.1 ∈ S) → (∀ x ∈ xs, x ∈ S) → ∀ b, xs.foldl (mMgr1 r l n) best = some b → b.1 ∈ S := by
    intro xs
    induction xs with
    | nil => intro best S h1 _ b hb; exact h1 b hb
    | cons x xs ih =>
      intro best S h1 h2 b hb
      refine ih (mMgr1 r l n best x) S (fun b' hb' => ?_) (fun y hy => h2 y (List.mem_cons_of_mem _ hy)) b hb
      unfold mMgr1 at hb'
      cases best with
      | none => cases hb'; exact h2 x (by simp)
      | some bb =>
        dsimp only at hb'
        split at hb'
        · cases hb'; exact h2 x (by simp)
        · cases hb'; exact h1 _ rfl
  unfold mMgr at h
  cases e : (mReplies c l n).foldl (mMgr1 r l n) none with
  | none => rw [e] at h; cases h
  | some b =>
    rw [e] at h
    cases h
    exact key _ _ _ (fun b hb => by cases hb) (fun x hx => hx) b e
theorem replies_row {c : Ctr} {l : Lay} {n : Int} {r : Rep} (h : r ∈ mReplies c l n) : r.1.length = l.length := by
  unfold mReplies at h
  obtain ⟨st, hst, h⟩ := List.mem_flatMap.mp ((isort_perm leR _).mem_iff.mp h)
  unfold mFound at h
  obtain ⟨s, _, h⟩ := List.mem_flatMap.mp h
  split at h
  · rw [List.mem_singleton.mp h]; exact relocs_row hst
  · cases h
theorem rank_mem {r : Rk} {l : Lay} {k : Int} (h : mRank r l = some k) : (l, k) ∈ r := by
  unfold mRank at h
  cases e : r.find? fun p => decide (p.1 = l) with
  | none => rw [e] at h; cases h
  | some p =>
    rw [e] at h
    have h1 := List.find?_some e
    have h2 := List.mem_of_find?_eq_some e
    obtain ⟨a, b⟩ := p
    have e1 : a = l := by simpa using h1
    have e2 : b = k := Option.some.inj h
    rw [← e1, ← e2]; exact h2
theorem below_some {r : Rk} {l : Lay} {k : Int} (h : mBelow r l k = true) : ∃ o, mRank r l = some o ∧ o < k := by
  unfold mBelow at h
  cases e : mRank r l with
  | none => rw [e] at h; cases h
  | some o => rw [e] at h; exact ⟨o, rfl, by simpa using h⟩
theorem rank_won {r : Rk} {l : Lay} : (mRank r l).isNone = !decide (l ∈ mWon r) := by
  unfold mRank mWon
  rw [Option.isNone_map]
  cases e : r.find? fun p => decide (p.1 = l) with
  | none =>
    have : l ∉ r.map (·.1) := fun h => by
      obtain ⟨p, hp, e2⟩ := List.mem_map.mp h
      have := List.find?_eq_none.mp e p hp
      simp [e2] at this
    simp [this]
  | some p =>
    have h1 := List.find?_some e
    have h2 := List.mem_of_find?_eq_some e
    have : l ∈ r.map (·.1) := List.mem_map.mpr ⟨p, h2, by simpa using h1⟩
    simp [this]
theorem df_un {c : Ctr} {r : Rk} {t : Tbl} (h : mRank r [] = none) : mDf c r t 1 [] 0 = some none := by
  have hp : mProg c r [] = none := by unfold mProg; rw [h]
  have hs : sml [] = true := rfl
  unfold mDf
  rw [if_pos hs, hp]
theorem df_ranked {c : Ctr} {r : Rk} {t : Tbl} (hd : downR c r = true) : ∀ (n : Nat) (l : Lay) (k cnt : Int), mRank r l = some k → k.toNat ≤ n → ∃ m : Int, mDf c r t n l cnt = some (some m) ∧ cnt < m ∧ m ≤ cnt + k := by
  intro n
  induction n with
  | zero =>
    intro l k cnt hr hk
    have h1 := List.all_eq_true.mp hd _ (rank_mem hr)
    simp only [Bool.and_eq_true, decide_eq_true_eq] at h1
    omega
  | succ n ih =>
    intro l k cnt hr hk
    have h1 := List.all_eq_true.mp hd _ (rank_mem hr)
    simp only [Bool.and_eq_true, decide_eq_true_eq] at h1
    obtain ⟨⟨hs, hk1⟩, h2⟩ := h1
    unfold mDf
    rw [if_pos hs]
    cases hp : mProg c r l with
    | none => rw [hp] at h2; cases h2
    | some mv =>
      rw [hp] at h2
      cases mv with
      | rel i =>
        simp only [Bool.and_eq_true, decide_eq_true_eq] at h2
        obtain ⟨o, ho, hok⟩ := below_some h2.2
        have ho1 := List.all_eq_true.mp hd _ (rank_mem ho)
        simp only [Bool.and_eq_true, decide_eq_true_eq] at ho1
        obtain ⟨m, e, e1, e2⟩ := ih (mWithout l i) o (cnt + 1) ho (by omega)
        exact ⟨m, e, by omega, by omega⟩
      | req x =>
        simp only [Bool.and_eq_true, decide_eq_true_eq, List.all_eq_true] at h2
        dsimp only
        cases ht : mTReply c t l x with
        | none => exact ⟨cnt + 1, rfl, by omega, by omega⟩
        | some rp =>
          have hm : rp ∈ mReplies c l x := List.mem_of_getElem? ht
          obtain ⟨o, ho, hok⟩ := below_some (h2.2 rp hm)
          have ho1 := List.all_eq_true.mp hd _ (rank_mem ho)
          simp only [Bool.and_eq_true, decide_eq_true_eq] at ho1
          obtain ⟨m, e, e1, e2⟩ := ih (mAfter l x rp) o (cnt + 1) ho (by omega)
          exact ⟨m, e, by omega, by omega⟩
end HG

set_option Elab.async false
set_option linter.all false
set_option maxRecDepth 100000
set_option maxHeartbeats 400000
/-! The walk: the law. -/
namespace HG
open PySem L2
abbrev sLaw : Stmt := topS 48
def spLaw (T : List Addr) (K : PySem.W.Frag) : Sp := fun vs H Q _ => ∃ (a : Addr) (ns : List Int), vs = [.ref a] ∧ a ∉ T ∧ (∀ p ∈ T, GxR.TabG H p) ∧ SqL K H a (ns.map V.int) ∧ ∀ H', Q (.bl true) H'
theorem sc_of {K : PySem.W.Frag} {H : Hp} {a : Addr} {ns : List Int} (h : SqL K H a (ns.map V.int)) : SC K a (H a) ns := fun H' k => by
  rcases h with h | h
  · rcases h with h | ⟨o, h⟩
    · exact .inl (.inl (k _ h))
    · exact .inl (.inr ⟨o, k _ h⟩)
  · exact .inr h
section
variable {N : En} {X : Cx} {γ : List SV} {G H : Hp} {E : EndD} {e o ie : Expr} {es : List Expr} {pos pos' p cpos : Pos} {d : D} {b : Addr} {row : List Int} {i j n : Nat}
theorem s_setBox {x : Str} {a : Addr} {oo : Option HO} {ns : List Int} (i : Nat) (hN : X.N.Nodup) (F : DkS X.prog X.w X.K X.mg X.base n "_law_box" (spB X.prog X.w N.T X.K)) (hr : Room n X.A) (ha : EA N.T X (e :: es) γ [.scr a oo, .int 0, .int 12]) (hsc : SC X.K a oo ns)
    (k : ∀ b G' H', Ext N.T [] G H G' H' → N.H0 b = none → ML X.prog X.w G' H' b (boxD (mBox ns) 0) → E.nx (γ.set i (.val (.ref b))) G' H') (hi : X.N[i]? = some x := by rfl) (hx : Loc X.env.scope x := by first | exact Or.inl rfl | exact Or.inr rfl)
    (hs : swapsWith (.Call (.Name "_law_box" p) (e :: es) [] cpos) (some (.Name x pos')) pos.line X.env = pure false := by rfl) (hf : X.fn x = true ∨ X.env.scope.names.lookup x = some .local := by first | exact .inl rfl | exact .inr rfl | assumption)
    (hg : Gl X "_law_box" := by rfl) (he : starEach (e :: es) X.env = (false, eval e X.env) :: starEach es X.env := by rfl) (hpl : (backTo cpos (starEach es X.env)).any (·.1) = false := by rfl) :
    S1 N X (.Assign [.Name x pos'] (.Call (.Name "_law_box" p) (e :: es) [] cpos) pos) γ G H E := fun σ x0 env => by
  obtain ⟨f, fd, ps, Fo, hm, hk, hb⟩ := F.ex
  refine ws_of (ps_set hN hi hx (pe_call Fo hr hg hm hk hb .nil (pass0 (X := X)) pa_w (by decide) he hpl) hs hf) (ha σ G H _ x0.wf env fun vs G1 H1 x1 r1 => ?_)
  rw [List.append_nil]
  refine ⟨a, oo, ns, G1, hsc, x1.wf, r1, fun b G2 H2 x2 hb0 m2 => ?_⟩
  have x12 := x1.tr x2
  have hl0 : H b = none := by
    cases q : H b with
    | none => rfl
    | some u => exact absurd hb0 (x1.there b (by rw [q]; exact fun z => by cases z))
  have hl00 : N.H0 b = none := by
    cases q : N.H0 b with
    | none => rfl
    | some u => exact absurd hl0 (x0.there b (by rw [q]; exact fun z => by cases z))
  exact ⟨_, G2, x12.g, x0.tr x12, (env.up x12.g).setV, k b G2 H2 x12 hl00 m2⟩
theorem vm_ctr {T : List Addr} {C : Addr} {bx : Expr} (F : DkS X.prog X.w X.K X.mg X.base n "_law_contract" (spCt X.prog X.w T C)) (hr : Room n X.A) (hb0 : ∀ G H, EV X bx γ G H (.ref b)) (he : EE T X e γ (.int 3)) (hg : Gl X "_law_contract" := by rfl) (hs : starEach [e] X.env = (false, eval e X.env) :: starEach [] X.env := by rfl)
    (hst : starEach [bx, e] X.env = (false, eval bx X.env) :: starEach [e] X.env := by rfl) (hpl : (backTo pos (starEach [e] X.env)).any (·.1) = false := by rfl) : VM T X b row (.Call (.Name "_law_contract" p) [bx, e] [] pos) γ i (i + 1 + 1 + 1 + 1) (encC C (mCtr row i 3)) := fun σ G H Q wf env m k => by
  obtain ⟨f, fd, ps, Fo, hm, hk, hb⟩ := F.ex
  refine we_of (pe_call Fo hr hg hm hk hb .nil (pass0 (X := X)) (pa_cons pe_w (pa_cons pe_w pa_nil hs) hst) (by decide) hst hpl) (hb0 G H σ _ env (he σ G H _ wf env fun v G1 H1 x1 r1 => ?_))
  rw [dr_int r1]
  show spCt X.prog X.w T C [V.ref b, V.int 3] H1 Q E0
  exact ⟨b, G1, row, i, 3, rfl, x1.wf, m.ex wf x1, by decide, fun v G2 H2 x2 m2 r2 => k _ G2 H2 ((x1.mono (by simp)).trb x2) m2 r2⟩
/-- d[k] = e, the key new, e draws from the box -/
theorem s_dputM {l : Addr} {ks : List NestedKey} {ds : List D} {x d : D} {k : NestedKey} (hu : X.A.units + 64 < cLine) (ho : ∀ G' H', EV X o γ G' H' (.ref l)) (hi : EE N.T X ie γ x) (he : VM N.T X b row e γ i j d) (hk : KD x k) (hm : MD X.prog X.w G H l ks ds) (hbm : ML X.prog X.w G H b (boxD row i)) (hbl : l ≠ b) (hn : k ∉ ks) (hz : ks.length < sizeLine) (h0 : N.H0 l = none) (h0b : N.H0 b = none)
    (kk : ∀ G' H', MD X.prog X.w G' H' l (ks ++ [k]) (ds ++ [d]) → ML X.prog X.w G' H' b (boxD row j) → E.nx γ G' H')
    (hs : swapsWithSole [.Subscript o ie pos'] e pos.line X.env = pure false := by rfl) (hw : swappedStores [.Subscript o ie pos'] e X.env = pure none := by rfl) (h1 : (assignEach [.Subscript o ie pos'] X.env).map (·.2) = [assign (.Subscript o ie pos') X.env] := by rfl)
    (ha : ∀ v, assign (.Subscript o ie pos') X.env v = (do
      let ov ← holding [v] (eval o X.env)
      let iv ← holding [v, ov] (eval ie X.env)
      standAt pos'
      holding [v, ov, iv] (setItem ov iv v)
      release [v, ov, iv] []) := by intro _; rfl) : S1 N X (.Assign [.Subscript o ie pos'] e pos) γ G H E := fun σ x0 env => by
  refine ws_of (ps_asg pe_w (pg_sub pe_w pe_w (set_nd hu) ha) hs hw h1) (he σ G H _ x0.wf env hbm fun v G1 H1 x1 m1 r1 => ?_)
  refine ho G1 H1 σ _ (env.up x1.g) ?_
  refine hi σ G1 H1 _ x1.wf (env.up x1.g) fun u G2 H2 x2 r2 => ?_
  have x12 : Ext N.T [b] G H G2 H2 := x1.tr x2
  obtain ⟨gl, ob, xs, vs, hl, ok, rfl, rv, rd⟩ := hm.ext x0.wf x12 (by simpa using hbl)
  obtain ⟨bk, rfl, hkr⟩ := hk.1 _ _ _ _ r2
  refine ⟨G2, bk, l, ob, xs, k, rfl, rfl, x2.wf.sub, gl, hl, ok, hkr, hk.2, hn, by rw [List.length_map] at hz; exact hz, fun ob' val rval okN => ?_⟩
  have nT := x2.wf.notT hl (fun ps z => by cases z)
  have xm := Ext.mut (o := objHO l ob') x2.wf gl nT
  have x3 : Ext N.T [b, l] G H G2 (upd H2 l (objHO l ob')) := (x12.mono (M' := [b, l]) (by simp)).trans xm (fun m hm => .inl (by simp at hm ⊢; exact .inr hm))
  refine ⟨γ, G2, x3.g, x0.trans x3 (fun m hm => ?_), (env.up x1.g).up x2.g, kk G2 _ ⟨gl, ob', _, vs ++ [v], upd_same, okN, by rw [List.map_append]; rfl, ?_, rd.append (.one (r1.up x2.g))⟩ ((m1.ex x1.wf x2).ext x2.wf xm (by simpa using hbl.symm))⟩
  · rcases List.mem_cons.mp hm with z | z
    · rw [z]; exact .inr h0b
    · rw [List.mem_singleton.mp z]; exact .inr h0
  · rw [List.map_append]
    exact rv.append (.cons rval .nil)
end
theorem ctr_ok {row : List Int} {i : Nat} : mCtr row i 3 ∈ allC ∧ Cok (mCtr row i 3) ∧ (mCtr row i 3).lens.Nodup := by
  obtain ⟨a1, a2⟩ := draw_lt (row := row) (at_ := i + 1) (many := 3) (by decide)
  obtain ⟨b1, b2⟩ := draw_lt (row := row) (at_ := i + 1 + 1) (many := 3 + 1) (by decide)
  obtain ⟨c1, c2⟩ := draw_lt (row := row) (at_ := i) (many := 8) (by decide)
  obtain ⟨d1, d2⟩ := draw_lt (row := row) (at_ := i + 1 + 1 + 1) (many := 3) (by decide)
  have hl : lensOf.getD (mDraw row i 8).toNat [] ∈ lensOf := by
    have hlt : (mDraw row i 8).toNat < lensOf.length := by
      show _ < 8
      omega
    rw [List.getD_eq_getElem?_getD, List.getElem?_eq_getElem hlt]
    exact List.getElem_mem hlt
  obtain ⟨l1, l2, l3⟩ := lens_ok _ hl
  exact ⟨mem_allC (by omega) (by omega) hl (by omega), ⟨by show 1 ≤ 1 + _; omega, by show 1 + _ ≤ 3; omega, l2, l3⟩, l1⟩
theorem dlook_int {r : Rk} {l : Lay} {k : Int} (h : mRank r l = some k) : dlook (r.map fun p => nk p.1) (r.map fun p => .int p.2) (nk l) = some (.int k) := by
  have q := dlook_rk r l
  rw [h] at q
  cases e : dlook (r.map fun p => nk p.1) (r.map fun p => .int p.2) (nk l) with
  | none => rw [e] at q; cases q
  | some x => rw [e] at q; exact congrArg some q
abbrev nLaw : List Str := ["_law_script", "_law_box_here", "_law_contract_here", "_law_ranks_here", "_law_game", "_law_numbers", "_law_table", "_law_layout", "_law_length", "_law_beaten", "_law_count", "_law_move", "_law_reply", "_law_turn"]
theorem scLaw : FnScope ["_law_script", "_law_box_here", "_law_contract_here", "_law_ranks_here", "_law_game", "_law_numbers", "_law_table", "_law_layout", "_law_length", "_law_beaten", "_law_count", "_law_move", "_law_reply", "_law_turn"] ["_law_script"] (defScope sLaw) := ⟨rfl, rfl, rfl, by decide +kernel, rfl, by decide +kernel, by decide +kernel⟩
section
variable {P : Program} {w : World} {K : PySem.W.Frag} {mg : Str → Option Value} {base : Heap} {T : List Addr}
theorem ok_law {f C O Gm Tc : Addr} {fd : FuncData} (F : Fun K "law" "law" sLaw f fd) (B : Bt mg) (CF : CtrF K C) (L1 : DkS P w K mg base 2 "_law_box" (spB P w T K)) (L2' : DkS P w K mg base 3 "_law_contract" (spCt P w T C)) (L3 : Dk P w K mg base T 4 "_law_ranks" (rLRanks C)) (L4 : Ck P w K mg base T 8 "Game" Gm ["contract", "ranks"] (rGame C))
    (L5 : DkS P w K mg base 1 "_law_draw" (spD P w T)) (L6 : Dk P w K mg base T 2 "_law_positions" (rLPos C)) (L7 : Ck P w K mg base T 1 "Table" Tc ["numbers", "otherwise"] (rTable w)) (L8 : Dk P w K mg base T 7 "defeated" (rDefeated Gm Tc C)) (L9 : Dk P w K mg base T 7 "served" (rServed Gm C))
    (L10 : Mk2 P w K mg base T 6 Gm "program_move" (rProg Gm C)) (L11 : Mk2 P w K mg base T 6 Gm "manager_reply" (rMgr Gm C)) (L12 : Dk P w K mg base T 1 "_law_without" rLWithout) (L13 : Dk P w K mg base T 1 "_law_after" rLAfter) : FnOk P w K mg base CX0 10 f fd ["_law_script"] (spLaw T K) := by
  refine def_okS (T := T) F scLaw (fun vs H Q E h => ?_) (fun cdv A outer s H E vs Q hr h => ?_)
  · obtain ⟨a, ns, rfl, _⟩ := h
    rfl
  obtain ⟨a, ns, rfl, haT, htab, hsq, kq⟩ := h
  have hsc := sc_of hsq
  have wf : WF T (fun b => if b = a then H a else none) H := by
    refine ⟨fun b o e => ?_, htab, fun p hp => ?_⟩
    · by_cases q : b = a
      · subst q; rw [if_pos rfl] at e; exact e
      · rw [if_neg q] at e; cases e
    · have q : p ≠ a := fun e => haT (e ▸ hp)
      rw [if_neg q]
  have r0 : DRs P w (fun b => if b = a then H a else none) [.ref a] [.scr a (H a)] := .one (.scr fun u e => by rw [if_pos rfl]; exact e)
  generalize H a = o at *
  generalize (fun b => if b = a then o else none) = G at *
  refine ⟨[], _, G, wf, startEnv r0, ?_⟩
  have hr1 := hr.mono (j := 1) (by decide)
  refine sb_cons (s_setBox 1 scLaw.nd L1 (hr.mono (by decide)) (ea_cons (ee_var 0) (ea_cons ee_int (ea_cons ee_int ea_nil))) hsc fun b G1 H1 x1 hb0 m1 => sb_ext fun xa => ?_)
  refine sb_cons (s_setM 2 scLaw.nd (vm_ctr L2' (hr.mono (by decide)) (fun _ _ => ev_var 1) ee_int) m1 (.inr hb0) fun G2 H2 x2 m2 => sb_ext fun xb => ?_)
  generalize mBox ns = row at *
  obtain ⟨hcA, hc, hlnd⟩ := ctr_ok (row := row) (i := 0)
  generalize mCtr row 0 3 = c at *
  obtain ⟨ps, r, lr, Fc⟩ := facts_of (List.all_eq_true.mp chk_all c hcA)
  have hsm : ∀ l ∈ ps, Sml l := fun l hl => sml_of (Fc.short l hl)
  have hle : ps.length ≤ 500 := Nat.le_trans Fc.few (by decide)
  have hgo : mRanksGo (mOpts c ps) 40 0 [] = some r := by
    have q := Fc.game
    unfold mGame at q
    rw [Fc.pos] at q
    exact q
  refine sb_cons (s_set 3 scLaw.nd (EE.vj (ee_call L3 (hr.mono (by decide)) (ea_cons (ee_var 2) ea_nil) ⟨c, ps, hc, Fc.lpos, hsm, Fc.nd, hle, rfl, rfl⟩)) fun G3 H3 x3 => sb_ext fun xc => ?_)
  have m3 := m2.ex xb.wf x3
  refine sb_cons (s_set 4 scLaw.nd (EE.vj (ee_make L4 hr (ea_cons (ee_var 2) ea_nil) ⟨c, ps, r, hc, Fc.pos, hsm, Fc.nd, hle, hgo, rfl, rfl⟩)) fun G4 H4 x4 => sb_ext fun xd => ?_)
  have m4 := m3.ex xc.wf x4
  rw [Fc.lrk]
  obtain ⟨q41, q42⟩ := draw_lt (row := row) (at_ := 0 + 1 + 1 + 1 + 1) (many := 41) (by decide)
  refine sb_cons (s_setLcM (n := mDraw row (0 + 1 + 1 + 1 + 1) 41) 5 _ _ (fun k => .int (mDraw row (0 + 1 + 1 + 1 + 1 + 1 + k) 1000)) rfl scLaw.nd (blkOk_by (N := nLaw) (sc := defScope sLaw) (own := [("_law_turn", 13)]) (by decide +kernel)) rfl rfl (vm_draw L5 hr1 (fun _ _ => ev_var 1) ee_int (by decide)) (by omega) (by decide) B.range
    (fun _ _ _ _ _ x _ => gt_name 13 scLaw.nd) (fun _ _ _ _ _ k z _ => vm_draw L5 hr1 (fun _ _ => ev_var 1) ee_int (by decide)) m4 (.inr hb0) fun G5 H5 x5 m5 => sb_ext fun xe => ?_)
  have hnum : ∃ nums : List Int, nums.length ≤ 40 ∧ (List.range (rngI 0 (mDraw row (0 + 1 + 1 + 1 + 1) 41)).length).map (fun k => D.int (mDraw row (0 + 1 + 1 + 1 + 1 + 1 + k) 1000)) = nums.map .int := by
    refine ⟨(List.range (rngI 0 (mDraw row (0 + 1 + 1 + 1 + 1) 41)).length).map (fun k => mDraw row (0 + 1 + 1 + 1 + 1 + 1 + k) 1000), ?_, by rw [List.map_map]; rfl⟩
    rw [List.length_map, List.length_range, rngI_len]
    omega
  obtain ⟨nums, hnl, hne⟩ := hnum
  rw [hne]
  generalize 0 + 1 + 1 + 1 + 1 + 1 + (rngI 0 (mDraw row (0 + 1 + 1 + 1 + 1) 41)).length = at0 at *
  refine sb_cons (s_newD 6 scLaw.nd fun tt H6 ht ht0 x6 mt6 => sb_ext fun xf => ?_)
  have m6 := m5.ex xe.wf x6
  have htb : tt ≠ b := fun e => by
    obtain ⟨_, vs, e1, _⟩ := m5
    rw [← e, ht] at e1; cases e1
  have eps : ((ps.take 20).map encL) = (ps.map encL).take 20 := by rw [List.map_take]
  have hfew := Fc.few
  have hcl := hc.ll
  refine sb_cons (s_for rfl (show Src _ _ _ _ _ ((ps.take 20).map encL) from eps ▸ src_lst (ee_slHi 20 (ee_call L6 (hr.mono (by decide)) (ea_cons (ee_var 2) ea_nil) ⟨c, ps, hc, Fc.lpos, rfl, rfl⟩) ee_int rfl)) (fun i γ' G' H' => ∃ (tb : Tb) (at_ : Nat), γ' = [.dat (.scr a o), .val (.ref b), .dat (encC C c), .dat (encRk lr), .dat (encGm Gm C c r), .dat (.lst (nums.map .int)), .val (.ref tt), .und, .und, .und, .und, .und, .und, .und] ∧ ML P w G' H' b (boxD row at_) ∧
    MD P w G' H' tt (tb.map fun p => nk2 p.1) (tb.map fun p => .int p.2) ∧ tb.map (·.1) = ((ps.take 20).take i).flatMap fun l => c.lens.map fun n => (l, n)) (fun G' H' x' => ⟨[], at0, rfl, m6.ex xf.wf x', mt6.ex xf.wf x', rfl⟩) ?_ ?_)
  · rintro i d γ' G' H' hd g' x' ⟨tb, at_, rfl, mb, mt, htbk⟩ G7 H7 x7
    rw [List.getElem?_map] at hd
    cases hb : (ps.take 20)[i]? with
    | none => rw [hb] at hd; cases hd
    | some l =>
      rw [hb] at hd
      cases hd
      have hi20 : i < 20 := by
        have := (List.getElem?_eq_some_iff.mp hb).1
        rw [List.length_take] at this
        omega
      have hpnd : (ps.take 20).Nodup := Fc.nd.sublist (List.take_sublist _ _)
      have et : (ps.take 20).take (i + 1) = (ps.take 20).take i ++ [l] := by rw [List.take_add_one, hb]; rfl
      refine ⟨_, _, gt_name 7 scLaw.nd, ?_⟩
      have mb7 := mb.ex x'.wf x7
      have mt7 := mt.ex x'.wf x7
      refine sb_ext fun xg => sb_cons (s_for rfl (src_lst (ee_fld (ee_var 2) CF.cl CF.nLens rfl)) (fun j γ' G' H' => ∃ (tb : Tb) (at_ : Nat), γ' = [.dat (.scr a o), .val (.ref b), .dat (encC C c), .dat (encRk lr), .dat (encGm Gm C c r), .dat (.lst (nums.map .int)), .val (.ref tt), .dat (encL l), .und, .und, .und, .und, .und, .und] ∧ ML P w G' H' b (boxD row at_) ∧
        MD P w G' H' tt (tb.map fun p => nk2 p.1) (tb.map fun p => .int p.2) ∧ tb.map (·.1) = (((ps.take 20).take i).flatMap fun l => c.lens.map fun n => (l, n)) ++ (c.lens.take j).map fun n => (l, n)) (fun G' H' x' => ⟨tb, at_, rfl, mb7.ex xg.wf x', mt7.ex xg.wf x', by rw [htbk]; simp⟩) ?_ ?_)
      · rintro j d γ' G' H' hd g' x' ⟨tb, at_, rfl, mb, mt, htbk⟩ G8 H8 x8
        rw [List.getElem?_map] at hd
        cases hb2 : c.lens[j]? with
        | none => rw [hb2] at hd; cases hd
        | some n =>
          rw [hb2] at hd
          cases hd
          have et2 : c.lens.take (j + 1) = c.lens.take j ++ [n] := by rw [List.take_add_one, hb2]; rfl
          refine ⟨_, _, gt_name 8 scLaw.nd, ?_⟩
          have mb8 := mb.ex x'.wf x8
          have mt8 := mt.ex x'.wf x8
          have hkl : (tb.map fun p => nk2 p.1) = (tb.map (·.1)).map nk2 := by rw [List.map_map]; rfl
          have hlen : tb.length ≤ 1000 := by
            have h1 := congrArg List.length htbk
            have h2 := flatMap_le (xs := (ps.take 20).take i) (f := fun l => c.lens.map fun n => (l, n)) (k := 3) fun l _ => by rw [List.length_map]; exact hcl
            simp only [List.length_map, List.length_append, List.length_take] at h1 h2
            omega
          refine sb_ext fun xh => sb_cons (s_dputM (k := nk2 (l, n)) (i := at_) (j := at_ + 1) (b := b) (row := row) (hr.mono (j := 1) (by decide)).units (fun _ _ => ev_var 6) (ee_tup (ea_cons (ee_tuple (ee_var 7) B.tuple) (ea_cons (ee_var 8) ea_nil)) l2) (vm_draw L5 hr1 (fun _ _ => ev_var 1) ee_int (by decide)) (kd_lay2 (l, n)) mt8 mb8 htb (fun hk => ?_) ?_ ht0 hb0 fun G9 H9 mt9 mb9 => sb_forget [8] (sb_nil ⟨tb ++ [((l, n), mDraw row at_ 1000)], at_ + 1, rfl, mb9, ?_, ?_⟩))
          · rw [hkl, htbk] at hk
            obtain ⟨y, hy, e⟩ := List.mem_map.mp hk
            rw [nk2_inj e] at hy
            rcases List.mem_append.mp hy with z | z
            · obtain ⟨l2, hl2, z⟩ := List.mem_flatMap.mp z
              obtain ⟨n2, hn2, e2⟩ := List.mem_map.mp z
              cases e2
              have h2 := hpnd.sublist (List.take_sublist (i + 1) _)
              rw [et] at h2
              exact (List.nodup_append.mp h2).2.2 l hl2 l (by simp) rfl
            · obtain ⟨n2, hn2, e2⟩ := List.mem_map.mp z
              cases e2
              have h2 := hlnd.sublist (List.take_sublist (j + 1) _)
              rw [et2] at h2
              exact (List.nodup_append.mp h2).2.2 n hn2 n (by simp) rfl
          · rw [List.length_map]
            exact Nat.lt_of_le_of_lt hlen (by decide)
          · rw [map_snoc, map_snoc]
            exact mt9
          · rw [map_snoc, htbk, et2, List.map_append, ← List.append_assoc]; rfl
      · rintro γ' G' H' g' x' ⟨tb, at_, rfl, mb, mt, htbk⟩
        rw [List.length_map, List.take_length] at htbk
        refine sb_forget [7, 8] (sb_nil ⟨tb, at_, rfl, mb, mt, ?_⟩)
        rw [htbk, et, List.flatMap_append]
        simp
  · rintro γ' G' H' g' x' ⟨tb, at_, rfl, mb, mt, htbk⟩
    rw [List.length_map, List.take_length] at htbk
    refine sb_frzD 6 rfl mt ht0 fun ob hob => sb_ext fun xg => ?_
    have mbz : ML P w (upd G' tt (objHO tt ob)) H' b (boxD row at_) := by
      obtain ⟨q1, q2, q3, q4⟩ := mb
      exact ⟨by rw [upd_ne htb.symm]; exact q1, q2, q3, q4.up (sub_upd mt.1)⟩
    have hhash : (tb.map fun p => (nk2 p.1).hash w).Nodup := by
      have e : (tb.map fun p => (nk2 p.1).hash w) = (tb.map (·.1)).map fun p => (nk2 p).hash w := by rw [List.map_map]; rfl
      rw [e, htbk]
      exact hash_nd hcA Fc.pos w
    have hu1 := (hr.mono (j := 1) (by decide)).units
    have hkey : decide (nk [] ∈ lr.map fun p => nk p.1) = decide ([] ∈ mWon lr) := by rw [rk_won, nk_mem]
    have hout : ∃ (fuel : Nat) (out : Option Int), mDf c r ⟨tb, mDraw row at_ 1000⟩ fuel [] 0 = some out ∧ (mRank r [] = none → out = none) ∧ (∀ k, mRank r [] = some k → ∃ m, out = some m ∧ 0 < m ∧ m ≤ k) := by
      cases hrk : mRank r [] with
      | none => exact ⟨1, none, df_un hrk, fun _ => rfl, fun k e => (by cases e)⟩
      | some k =>
        obtain ⟨m, e, e1, e2⟩ := df_ranked (t := ⟨tb, mDraw row at_ 1000⟩) Fc.dn k.toNat [] k 0 hrk (Nat.le_refl _)
        exact ⟨k.toNat, some m, e, fun z => (by cases z), fun k2 e3 => (by cases e3; exact ⟨m, rfl, e1, by omega⟩)⟩
    obtain ⟨fuel, out, hdf, ho1, ho2⟩ := hout
    refine sb_cons (s_setM 9 scLaw.nd (vm_call L8 (hr.mono (by decide)) (vma_cons (vm_ee (ee_var 4)) (vma_cons (vm_make L7 (hr.mono (by decide)) (vma_cons (vm_ee (ee_var 6)) (vma_cons (vm_draw L5 hr1 (fun _ _ => ev_var 1) ee_int (by decide)) vma_nil)) ⟨⟨tb, mDraw row at_ 1000⟩, hhash, rfl, rfl⟩) vma_nil)) ⟨c, r, ⟨tb, mDraw row at_ 1000⟩, fuel, out, hc, hdf, rfl, rfl⟩) mbz (.inr hb0) fun G8 H8 x8 m8 => ?_)
    cases hrk : mRank r [] with
    | none =>
      have hl : mRank lr [] = none := Fc.same.trans hrk
      have hno : decide ([] ∈ mWon lr) = false := by
        have q := rank_won (r := lr) (l := [])
        rw [hl] at q
        simpa using q.symm
      obtain ⟨hU0, hU⟩ := Fc.un hrk
      have e := ho1 hrk
      subst e
      refine sb_cons (s_if (ET.tj (et_c (c_notInN hu1 (kd_lay [])) (ee_tup ea_nil (Nat.zero_le _)) (ee_var 3))) (fun hT G9 H9 x9 => ?_) (fun hF => ?_))
      · refine sb_one (s_ret (EE.vj (ee_and (ee_c (c_isB (i := false) (j := false)) (ee_ixT (ee_call L9 (hr.mono (by decide)) (ea_cons (ee_var 4) (ea_cons (ee_var 5) ea_nil)) ⟨c, r, _, nums, hc, hU, hU0, hnl, rfl, rfl⟩) ee_int rfl) ee_bl) fun _ => ee_c c_isN (ee_var 9) ee_non)) fun v G10 H10 x10 r10 => ?_)
        rw [dr_bl r10]
        exact kq _
      · rw [hkey, hno] at hF; cases hF
    | some k =>
      have hl : mRank lr [] = some k := Fc.same.trans hrk
      have hno : decide ([] ∈ mWon lr) = true := by
        have q := rank_won (r := lr) (l := [])
        rw [hl] at q
        simpa using q.symm
      obtain ⟨m, e, hm0, hmk⟩ := ho2 k hrk
      subst e
      obtain ⟨hfin, hk40⟩ := Fc.fin k hrk
      refine sb_cons (s_if (ET.tj (et_c (c_notInN hu1 (kd_lay [])) (ee_tup ea_nil (Nat.zero_le _)) (ee_var 3))) (fun hT => ?_) (fun hF G9 H9 x9 => sb_nil (E := { nx := fun γ' G' H' => SB _ _ _ γ' G' H' _ }) ?_))
      · rw [hkey, hno] at hT; cases hT
      refine sb_cons (s_if (b := isNon (encO (some m)) || !(decide (1 ≤ m) && decide (m ≤ k))) (ET.tj (et_or (et_c c_isN (ee_var 9) ee_non) fun _ => et_not (et_chain (r := fun _ _ _ _ => True) (r' := fun _ _ _ _ => True) c_le c_le ee_int (ee_var 9) (ee_ixN hu1 (ee_var 3) (ee_tup ea_nil (Nat.zero_le _)) (kd_lay []) (dlook_int hl))))) (fun hT => ?_) (fun hF G10 H10 x10 => sb_nil (E := { nx := fun γ' G' H' => SB _ _ _ γ' G' H' _ }) ?_))
      · have h1 : decide (1 ≤ m) = true := decide_eq_true (by omega)
        have h2 : decide (m ≤ k) = true := decide_eq_true hmk
        rw [show isNon (encO (some m)) = false from rfl, h1, h2] at hT; cases hT
      refine sb_cons (s_set 7 scLaw.nd (EE.vj (d := encL []) (ee_lst ea_nil (Nat.zero_le _))) fun G11 H11 x11 => ?_)
      refine sb_cons (s_for rfl (src_rng2 (ea_cons ee_int (ea_cons (ee_add (ee_ixN hu1 (ee_var 3) (ee_tup ea_nil (Nat.zero_le _)) (kd_lay []) (dlook_int hl)) ee_int) ea_nil)) B.range (by omega)) (fun i γ' G' H' => i ≤ k.toNat ∧ ∃ l : Lay, γ' = [.dat (.scr a o), .val (.ref b), .dat (encC C c), .dat (encRk lr), .dat (encGm Gm C c r), .dat (.lst (nums.map .int)), .dat (encTb tb), .dat (encL l), .und, .dat (.int m), .und, .und, .und, .und] ∧ mFin c r k (k.toNat - i) l (i : Int) = some true) (fun G' H' x' => ⟨Nat.zero_le _, [], rfl, hfin⟩) ?_ ?_)
      · rintro i d γ' G' H' hd g' x' ⟨hik, l, rfl, hf⟩ G12 H12 x12
        rw [List.getElem?_map] at hd
        cases hb : (rngI 1 (k + 1))[i]? with
        | none => rw [hb] at hd; cases hd
        | some cnt =>
          rw [hb] at hd
          cases hd
          have hi : i < k.toNat := by
            have := (List.getElem?_eq_some_iff.mp hb).1
            rw [rngI_len] at this
            omega
          have hcnt : cnt = (i : Int) + 1 := by
            unfold rngI at hb
            rw [List.getElem?_map, List.getElem?_range (by omega)] at hb
            have hq : 1 + (i : Int) = cnt := Option.some.inj hb
            omega
          obtain ⟨jj, hjj⟩ : ∃ jj, k.toNat - i = jj + 1 := ⟨k.toNat - i - 1, by omega⟩
          have hjj2 : k.toNat - (i + 1) = jj := by omega
          rw [hjj] at hf
          unfold mFin at hf
          split at hf
          case isFalse => cases hf
          case isTrue hsml =>
          have hls := sml_of hsml
          have hll := hls.len
          subst hcnt
          refine ⟨_, _, gt_name 10 scLaw.nd, ?_⟩
          refine sb_cons (s_set 11 scLaw.nd (EE.vj (ee_meth L10 (hr.mono (by decide)) (ee_var 4) (by decide +kernel) (ea_cons (ee_list (ee_var 7) B.list) ea_nil) ⟨c, r, l, hc, hls, rfl, rfl⟩)) fun G13 H13 x13 => ?_)
          cases hp : mProg c r l with
          | none => rw [hp] at hf; cases hf
          | some mv =>
          rw [hp] at hf
          cases mv with
          | rel q =>
            dsimp only at hf
            split at hf
            case isFalse => cases hf
            case isTrue hql =>
            refine sb_one (s_if (ET.tj (et_c (c_eqS (i := "release") (j := "release")) (ee_ixT (ee_var 11) ee_int rfl) ee_str)) (fun hT2 G14 H14 x14 => ?_) (fun hF2 => ?_))
            · exact sb_cons (s_set 7 scLaw.nd (EE.vj (ee_call L12 hr1 (ea_cons (ee_var 7) (ea_cons (ee_ixT (ee_var 11) ee_int rfl) ea_nil)) ⟨l, q, by omega, rfl, rfl⟩)) fun G15 H15 x15 => sb_forget [10, 11, 12] (sb_nil ⟨hi, mWithout l q, rfl, by rw [hjj2]; exact hf⟩))
            · simp at hF2
          | req x =>
            have hx3 := prog_req hp
            refine sb_one (s_if (ET.tj (et_c (c_eqS (i := "request") (j := "release")) (ee_ixT (ee_var 11) ee_int rfl) ee_str)) (fun hT2 => absurd hT2 (by decide)) (fun hF2 G14 H14 x14 => ?_))
            refine sb_cons (s_set 12 scLaw.nd (EE.vj (ee_meth L11 (hr.mono (by decide)) (ee_var 4) (by decide +kernel) (ea_cons (ee_list (ee_var 7) B.list) (ea_cons (ee_ixT (ee_var 11) ee_int rfl) ea_nil)) ⟨c, r, l, x, hc, hls, hx3, rfl, rfl⟩)) fun G15 H15 x15 => ?_)
            cases hg : mMgr c r l x with
            | none =>
              have hf2 : decide ((i : Int) + 1 = k) = true := by
                have hf3 : (match mMgr c r l x with
                  | none => some (decide ((i : Int) + 1 = k))
                  | some rp => mFin c r k jj (mLAfter l x rp) ((i : Int) + 1)) = some true := hf
                rw [hg] at hf3
                exact Option.some.inj hf3
              refine sb_cons (s_if (ET.tj (et_c c_isN (ee_var 12) ee_non)) (fun hT3 G16 H16 x16 => sb_one (s_ret (EE.vj (ee_c c_eq (ee_var 10) (ee_ixN hu1 (ee_var 3) (ee_tup ea_nil (Nat.zero_le _)) (kd_lay []) (dlook_int hl)))) fun v G17 H17 x17 r17 => ?_)) (fun hF3 => by cases hF3))
              rw [dr_bl r17, hf2]
              exact kq _
            | some rp =>
              have hf2 : mFin c r k jj (mLAfter l x rp) ((i : Int) + 1) = some true := by
                have hf3 : (match mMgr c r l x with
                  | none => some (decide ((i : Int) + 1 = k))
                  | some rp => mFin c r k jj (mLAfter l x rp) ((i : Int) + 1)) = some true := hf
                rw [hg] at hf3
                exact hf3
              refine sb_cons (s_if (ET.tj (et_c c_isN (ee_var 12) ee_non)) (fun hT3 => by cases hT3) (fun hF3 G16 H16 x16 => sb_nil (E := { nx := fun γ' G' H' => SB _ _ _ γ' G' H' _ }) ?_))
              exact sb_cons (s_set 7 scLaw.nd (EE.vj (ee_call L13 hr1 (ea_cons (ee_var 7) (ea_cons (ee_ixT (ee_var 11) ee_int rfl) (ea_cons (ee_var 12) ea_nil))) ⟨l, x, rp, by omega, replies_row (mgr_mem hg), rfl, rfl⟩)) fun G17 H17 x17 => sb_forget [10, 11, 12] (sb_nil ⟨hi, mLAfter l x rp, rfl, by rw [hjj2]; exact hf2⟩))
      · rintro γ' G' H' g' x' ⟨hik, l, rfl, hf⟩
        have hkk : k.toNat - ((rngI 1 (k + 1)).map D.int).length = 0 := by
          rw [List.length_map, rngI_len]
          omega
        rw [hkk] at hf
        have hf0 : some false = some true := hf
        cases hf0
end
end HG

set_option Elab.async false
set_option linter.all false
set_option maxRecDepth 100000
set_option maxHeartbeats 4000000
/-! What the top has written; the end. -/
namespace LamX
open PySem PySem.Spec PyProof.Rows L2
def TabsAt (q : Program) (K : PySem.W.Frag) (h : Heap) : Prop := ∀ (x : Str) (c P : Addr), ((recsOf q).find? fun e => e.name == x).isSome = true → PySem.W.tabIn K x = some (c, P) → PySem.W.CodeHd h c P ∧ h.get? P = some { cls := .none, data := .fields #[] }
theorem walk_hg {l : PySem.W.OpenLaw} {q : Program} {loose : List Str} {XP : (Str → Option Value) → Heap → Prop} {YP : World → Heap → Prop} {d : DefRec} {K : Params → PySem.W.Frag} (hn : l.most = some 63) (hdf : d.params.defaults = [])
    (hY : ∀ (w : World) (h : Heap), YP w h → (K w.params).In h)
    (F : ∀ (w : World) (mg : Str → Option Value) (fa : Addr) (h : Heap), (K w.params).In h → h.Ns mainGlobals mg → mg d.name = some (.ref fa) → TabsAt q (K w.params) h → LawAtS l w (K w.params) CX0 10 63 "_law_script" mg fa h) :
    PySem.W.WalkO q loose XP YP l.row.toRowW d [] (fun f vs => PySem.call f vs) := by
  refine Att.attach_callB hn hdf fun w s₀ s₁ mg mb fa o pm cd doc a vs ns G Y ho hd hcd hmg hobj hints hlen hbits hg => ?_
  have KX := hY w _ Y
  have own : TabsAt q (K w.params) s₁.heap := fun x c P h1 h2 => by
    cases e : (recsOf q).find? fun e => e.name == x with
    | none => rw [e] at h1; cases h1
    | some dd => exact PySem.W.tab_of G.T KX e h2
  obtain ⟨fd, cs, sp, hT, nT, C, hb, hsp, hF⟩ := F w mg fa _ KX G.T.g hmg own
  exact law_callTs KX G.T.g G.T.b G.T.builtins G.T.nolimit hg hT nT C G.T.bmain hobj hints (Nat.le_trans hlen (by decide)) (⟨rfl, by decide, by decide⟩ : Room 10 callerA) hF hb (fun H hH hS => hsp H a ns hlen hbits hH hS) fun H e s' z => z
end LamX
namespace HG
open PySem L2
theorem tabIn_of {K : PySem.W.Frag} {x : Str} {f c P : Addr} {oc e : Value} {od dd : Option Addr} {fd : FuncData} {sl us : Array (Option Value)} {vs : Array Value} (a : PySem.W.nsIn K mainGlobals x = some (some (.ref f))) (l : K.lookup f = some ⟨oc, od, .func fd, sl⟩) (hc : fd.code = .ref c) (u : K.lookup c = some ⟨e, dd, .fields vs, us⟩) (v : vs[11]? = some (.ref P)) : PySem.W.tabIn K x = some (c, P) := by
  unfold PySem.W.tabIn
  rw [a]
  simp only [l, hc, u, v]
theorem tabB_of {base : Heap} {mg : Str → Option Value} {c P : Addr} (z : LamX.TabB base mg c P) : GxR.TabB base mg c P := ⟨z.code, z.bm, z.gP⟩
theorem all_mk {l : PySem.W.OpenLaw} {q : Program} {w : World} {K : PySem.W.Frag} {h : Heap} {mg : Str → Option Value} {fa C O Gm Tc f1 f2 f3 f4 f5 f6 f7 f8 f9 f10 f11 f12 f13 f14 f15 f16 f17 f18 f19 f20 f21 f22 f23 f24 f25 f26 f27 f28 f29 f30 f31 f32 f33 f34 f35 f36 f37 f38 f39 f40 f41 f42 f43 f44 f45 f46 f47 q35 p35 q36 p36 : Addr} (X : K.In h) (G : h.Ns mainGlobals mg) (hfa : mg "law" = some (.ref fa)) (TT : LamX.TabsAt q K h)
    (r1 : ((PyProof.Rows.recsOf q).find? fun e => e.name == ("fits" : Str)).isSome = true) (r2 : ((PyProof.Rows.recsOf q).find? fun e => e.name == ("is_relocation" : Str)).isSome = true)
    {od1 an1 od2 an2 od3 an3 od4 an4 od5 an5 od6 an6 od7 an7 od8 an8 od9 an9 od10 an10 od11 an11 od12 an12 od13 an13 od14 an14 od15 an15 od16 an16 od17 an17 od18 an18 od19 an19 od20 an20 od21 an21 od22 an22 od23 an23 od24 an24 od25 an25 od26 an26 od27 an27 od28 an28 od29 an29 od30 an30 od31 an31 od32 an32 od33 an33 od34 an34 od35 an35 od36 an36 od37 an37 od38 an38 od39 an39 od40 an40 od41 an41 od42 an42 od43 an43 od44 an44 od45 an45 od46 an46 od47 an47 ud35 ud36 : Option Addr} {sl1 sl2 sl3 sl4 sl5 sl6 sl7 sl8 sl9 sl10 sl11 sl12 sl13 sl14 sl15 sl16 sl17 sl18 sl19 sl20 sl21 sl22 sl23 sl24 sl25 sl26 sl27 sl28 sl29 sl30 sl31 sl32 sl33 sl34 sl35 sl36 sl37 sl38 sl39 sl40 sl41 sl42 sl43 sl44 sl45 sl46 sl47 us35 us36 : Array (Option Value)} {uv35 uv36 : Array Value} {ue35 ue36 : Value} {oc1 kV1 dc1 pm1 ct1 cd1 oc2 kV2 dc2 pm2 ct2 cd2 oc3 kV3 dc3 pm3 ct3 cd3 oc4 kV4 dc4 pm4 ct4 cd4 oc5 kV5 dc5 pm5 ct5 cd5 oc6 kV6 dc6 pm6 ct6 cd6 oc7 kV7 dc7 pm7 ct7 cd7 oc8 kV8 dc8 pm8 ct8 cd8 oc9 kV9 dc9 pm9 ct9 cd9 oc10 kV10 dc10 pm10 ct10 cd10 oc11 kV11 dc11 pm11 ct11 cd11 oc12 kV12 dc12 pm12 ct12 cd12 oc13 kV13 dc13 pm13 ct13 cd13 oc14 kV14 dc14 pm14 ct14 cd14 oc15 kV15 dc15 pm15 ct15 cd15 oc16 kV16 dc16 pm16 ct16 cd16 oc17 kV17 dc17 pm17 ct17 cd17 oc18 kV18 dc18 pm18 ct18 cd18 oc19 kV19 dc19 pm19 ct19 cd19 oc20 kV20 dc20 pm20 ct20 cd20 oc21 kV21 dc21 pm21 ct21 cd21 oc22 kV22 dc22 pm22 ct22 cd22 oc23 kV23 dc23 pm23 ct23 cd23 oc24 kV24 dc24 pm24 ct24 cd24 oc25 kV25 dc25 pm25 ct25 cd25 oc26 kV26 dc26 pm26 ct26 cd26 oc27 kV27 dc27 pm27 ct27 cd27 oc28 kV28 dc28 pm28 ct28 cd28 oc29 kV29 dc29 pm29 ct29 cd29 oc30 kV30 dc30 pm30 ct30 cd30 oc31 kV31 dc31 pm31 ct31 cd31 oc32 kV32 dc32 pm32 ct32 cd32 oc33 kV33 dc33 pm33 ct33 cd33 oc34 kV34 dc34 pm34 ct34 cd34 oc35 kV35 dc35 pm35 ct35 oc36 kV36 dc36 pm36 ct36 oc37 kV37 dc37 pm37 ct37 cd37 oc38 kV38 dc38 pm38 ct38 cd38 oc39 kV39 dc39 pm39 ct39 cd39 oc40 kV40 dc40 pm40 ct40 cd40 oc41 kV41 dc41 pm41 ct41 cd41 oc42 kV42 dc42 pm42 ct42 cd42 oc43 kV43 dc43 pm43 ct43 cd43 oc44 kV44 dc44 pm44 ct44 cd44 oc45 kV45 dc45 pm45 ct45 cd45 oc46 kV46 dc46 pm46 ct46 cd46 oc47 kV47 dc47 pm47 ct47 cd47 : Value}
    (a1 : PySem.W.nsIn K mainGlobals "is_layout" = some (some (.ref f1)))
    (l1 : K.lookup f1 = some ⟨oc1, od1, .func (PySem.W.fnOf "is_layout" "is_layout" (defArgs sIsLayout) (defBody sIsLayout) (defScope sIsLayout) .none kV1 dc1 pm1 an1 cd1 ct1), sl1⟩)
    (c1 : PySem.W.codeIn K cd1 "is_layout" = true)
    (k1 : PySem.W.keepIn K (.ref f1) = true)
    (a2 : PySem.W.nsIn K mainGlobals "live_cells" = some (some (.ref f2)))
    (l2 : K.lookup f2 = some ⟨oc2, od2, .func (PySem.W.fnOf "live_cells" "live_cells" (defArgs sLive) (defBody sLive) (defScope sLive) .none kV2 dc2 pm2 an2 cd2 ct2), sl2⟩)
    (c2 : PySem.W.codeIn K cd2 "live_cells" = true)
    (k2 : PySem.W.keepIn K (.ref f2) = true)
    (a3 : PySem.W.nsIn K mainGlobals "with_block" = some (some (.ref f3)))
    (l3 : K.lookup f3 = some ⟨oc3, od3, .func (PySem.W.fnOf "with_block" "with_block" (defArgs sWith) (defBody sWith) (defScope sWith) .none kV3 dc3 pm3 an3 cd3 ct3), sl3⟩)
    (c3 : PySem.W.codeIn K cd3 "with_block" = true)
    (k3 : PySem.W.keepIn K (.ref f3) = true)
    (a4 : PySem.W.nsIn K mainGlobals "without" = some (some (.ref f4)))
    (l4 : K.lookup f4 = some ⟨oc4, od4, .func (PySem.W.fnOf "without" "without" (defArgs sWithout) (defBody sWithout) (defScope sWithout) .none kV4 dc4 pm4 an4 cd4 ct4), sl4⟩)
    (c4 : PySem.W.codeIn K cd4 "without" = true)
    (k4 : PySem.W.keepIn K (.ref f4) = true)
    (a5 : PySem.W.nsIn K mainGlobals "placed" = some (some (.ref f5)))
    (l5 : K.lookup f5 = some ⟨oc5, od5, .func (PySem.W.fnOf "placed" "placed" (defArgs sPlaced) (defBody sPlaced) (defScope sPlaced) .none kV5 dc5 pm5 an5 cd5 ct5), sl5⟩)
    (c5 : PySem.W.codeIn K cd5 "placed" = true)
    (k5 : PySem.W.keepIn K (.ref f5) = true)
    (a6 : PySem.W.nsIn K mainGlobals "relocated" = some (some (.ref f6)))
    (l6 : K.lookup f6 = some ⟨oc6, od6, .func (PySem.W.fnOf "relocated" "relocated" (defArgs sRelocated) (defBody sRelocated) (defScope sRelocated) .none kV6 dc6 pm6 an6 cd6 ct6), sl6⟩)
    (c6 : PySem.W.codeIn K cd6 "relocated" = true)
    (k6 : PySem.W.keepIn K (.ref f6) = true)
    (a7 : PySem.W.nsIn K mainGlobals "cost" = some (some (.ref f7)))
    (l7 : K.lookup f7 = some ⟨oc7, od7, .func (PySem.W.fnOf "cost" "cost" (defArgs sCost) (defBody sCost) (defScope sCost) .none kV7 dc7 pm7 an7 cd7 ct7), sl7⟩)
    (c7 : PySem.W.codeIn K cd7 "cost" = true)
    (k7 : PySem.W.keepIn K (.ref f7) = true)
    (a8 : PySem.W.nsIn K mainGlobals "positions" = some (some (.ref f8)))
    (l8 : K.lookup f8 = some ⟨oc8, od8, .func (PySem.W.fnOf "positions" "positions" (defArgs sPos) (defBody sPos) (defScope sPos) .none kV8 dc8 pm8 an8 cd8 ct8), sl8⟩)
    (c8 : PySem.W.codeIn K cd8 "positions" = true)
    (k8 : PySem.W.keepIn K (.ref f8) = true)
    (a9 : PySem.W.nsIn K mainGlobals "requestable" = some (some (.ref f9)))
    (l9 : K.lookup f9 = some ⟨oc9, od9, .func (PySem.W.fnOf "requestable" "requestable" (defArgs sReqable) (defBody sReqable) (defScope sReqable) .none kV9 dc9 pm9 an9 cd9 ct9), sl9⟩)
    (c9 : PySem.W.codeIn K cd9 "requestable" = true)
    (k9 : PySem.W.keepIn K (.ref f9) = true)
    (a10 : PySem.W.nsIn K mainGlobals "starts_within" = some (some (.ref f10)))
    (l10 : K.lookup f10 = some ⟨oc10, od10, .func (PySem.W.fnOf "starts_within" "starts_within" (defArgs sStarts) (defBody sStarts) (defScope sStarts) .none kV10 dc10 pm10 an10 cd10 ct10), sl10⟩)
    (c10 : PySem.W.codeIn K cd10 "starts_within" = true)
    (k10 : PySem.W.keepIn K (.ref f10) = true)
    (a11 : PySem.W.nsIn K mainGlobals "relocations" = some (some (.ref f11)))
    (l11 : K.lookup f11 = some ⟨oc11, od11, .func (PySem.W.fnOf "relocations" "relocations" (defArgs sRelocs) (defBody sRelocs) (defScope sRelocs) .none kV11 dc11 pm11 an11 cd11 ct11), sl11⟩)
    (c11 : PySem.W.codeIn K cd11 "relocations" = true)
    (k11 : PySem.W.keepIn K (.ref f11) = true)
    (a12 : PySem.W.nsIn K mainGlobals "replies" = some (some (.ref f12)))
    (l12 : K.lookup f12 = some ⟨oc12, od12, .func (PySem.W.fnOf "replies" "replies" (defArgs sReplies) (defBody sReplies) (defScope sReplies) .none kV12 dc12 pm12 an12 cd12 ct12), sl12⟩)
    (c12 : PySem.W.codeIn K cd12 "replies" = true)
    (k12 : PySem.W.keepIn K (.ref f12) = true)
    (a13 : PySem.W.nsIn K mainGlobals "reply_key" = some (some (.ref f13)))
    (l13 : K.lookup f13 = some ⟨oc13, od13, .func (PySem.W.fnOf "reply_key" "reply_key" (defArgs sKey) (defBody sKey) (defScope sKey) .none kV13 dc13 pm13 an13 cd13 ct13), sl13⟩)
    (c13 : PySem.W.codeIn K cd13 "reply_key" = true)
    (k13 : PySem.W.keepIn K (.ref f13) = true)
    (a14 : PySem.W.nsIn K mainGlobals "after_reply" = some (some (.ref f14)))
    (l14 : K.lookup f14 = some ⟨oc14, od14, .func (PySem.W.fnOf "after_reply" "after_reply" (defArgs sAfter) (defBody sAfter) (defScope sAfter) .none kV14 dc14 pm14 an14 cd14 ct14), sl14⟩)
    (c14 : PySem.W.codeIn K cd14 "after_reply" = true)
    (k14 : PySem.W.keepIn K (.ref f14) = true)
    (a15 : PySem.W.nsIn K mainGlobals "moves_of" = some (some (.ref f15)))
    (l15 : K.lookup f15 = some ⟨oc15, od15, .func (PySem.W.fnOf "moves_of" "moves_of" (defArgs sMoves) (defBody sMoves) (defScope sMoves) .none kV15 dc15 pm15 an15 cd15 ct15), sl15⟩)
    (c15 : PySem.W.codeIn K cd15 "moves_of" = true)
    (k15 : PySem.W.keepIn K (.ref f15) = true)
    (a16 : PySem.W.nsIn K mainGlobals "scripted" = some (some (.ref f16)))
    (l16 : K.lookup f16 = some ⟨oc16, od16, .func (PySem.W.fnOf "scripted" "scripted" (defArgs sScripted) (defBody sScripted) (defScope sScripted) .none kV16 dc16 pm16 an16 cd16 ct16), sl16⟩)
    (c16 : PySem.W.codeIn K cd16 "scripted" = true)
    (k16 : PySem.W.keepIn K (.ref f16) = true)
    (a17 : PySem.W.nsIn K mainGlobals "served" = some (some (.ref f17)))
    (l17 : K.lookup f17 = some ⟨oc17, od17, .func (PySem.W.fnOf "served" "served" (defArgs sServed) (defBody sServed) (defScope sServed) .none kV17 dc17 pm17 an17 cd17 ct17), sl17⟩)
    (c17 : PySem.W.codeIn K cd17 "served" = true)
    (k17 : PySem.W.keepIn K (.ref f17) = true)
    (a18 : PySem.W.nsIn K mainGlobals "defeated" = some (some (.ref f18)))
    (l18 : K.lookup f18 = some ⟨oc18, od18, .func (PySem.W.fnOf "defeated" "defeated" (defArgs sDefeated) (defBody sDefeated) (defScope sDefeated) .none kV18 dc18 pm18 an18 cd18 ct18), sl18⟩)
    (c18 : PySem.W.codeIn K cd18 "defeated" = true)
    (k18 : PySem.W.keepIn K (.ref f18) = true)
    (a19 : PySem.W.nsIn K mainGlobals "_law_cell" = some (some (.ref f19)))
    (l19 : K.lookup f19 = some ⟨oc19, od19, .func (PySem.W.fnOf "_law_cell" "_law_cell" (defArgs sLCell) (defBody sLCell) (defScope sLCell) .none kV19 dc19 pm19 an19 cd19 ct19), sl19⟩)
    (c19 : PySem.W.codeIn K cd19 "_law_cell" = true)
    (k19 : PySem.W.keepIn K (.ref f19) = true)
    (a20 : PySem.W.nsIn K mainGlobals "_law_row" = some (some (.ref f20)))
    (l20 : K.lookup f20 = some ⟨oc20, od20, .func (PySem.W.fnOf "_law_row" "_law_row" (defArgs sLRow) (defBody sLRow) (defScope sLRow) .none kV20 dc20 pm20 an20 cd20 ct20), sl20⟩)
    (c20 : PySem.W.codeIn K cd20 "_law_row" = true)
    (k20 : PySem.W.keepIn K (.ref f20) = true)
    (a21 : PySem.W.nsIn K mainGlobals "_law_box" = some (some (.ref f21)))
    (l21 : K.lookup f21 = some ⟨oc21, od21, .func (PySem.W.fnOf "_law_box" "_law_box" (defArgs sLBox) (defBody sLBox) (defScope sLBox) .none kV21 dc21 pm21 an21 cd21 ct21), sl21⟩)
    (c21 : PySem.W.codeIn K cd21 "_law_box" = true)
    (k21 : PySem.W.keepIn K (.ref f21) = true)
    (a22 : PySem.W.nsIn K mainGlobals "_law_draw" = some (some (.ref f22)))
    (l22 : K.lookup f22 = some ⟨oc22, od22, .func (PySem.W.fnOf "_law_draw" "_law_draw" (defArgs sLDraw) (defBody sLDraw) (defScope sLDraw) .none kV22 dc22 pm22 an22 cd22 ct22), sl22⟩)
    (c22 : PySem.W.codeIn K cd22 "_law_draw" = true)
    (k22 : PySem.W.keepIn K (.ref f22) = true)
    (a23 : PySem.W.nsIn K mainGlobals "_law_contract" = some (some (.ref f23)))
    (l23 : K.lookup f23 = some ⟨oc23, od23, .func (PySem.W.fnOf "_law_contract" "_law_contract" (defArgs sLCtr) (defBody sLCtr) (defScope sLCtr) .none kV23 dc23 pm23 an23 cd23 ct23), sl23⟩)
    (c23 : PySem.W.codeIn K cd23 "_law_contract" = true)
    (k23 : PySem.W.keepIn K (.ref f23) = true)
    (a24 : PySem.W.nsIn K mainGlobals "_law_live" = some (some (.ref f24)))
    (l24 : K.lookup f24 = some ⟨oc24, od24, .func (PySem.W.fnOf "_law_live" "_law_live" (defArgs sLLive) (defBody sLLive) (defScope sLLive) .none kV24 dc24 pm24 an24 cd24 ct24), sl24⟩)
    (c24 : PySem.W.codeIn K cd24 "_law_live" = true)
    (k24 : PySem.W.keepIn K (.ref f24) = true)
    (a25 : PySem.W.nsIn K mainGlobals "_law_apart" = some (some (.ref f25)))
    (l25 : K.lookup f25 = some ⟨oc25, od25, .func (PySem.W.fnOf "_law_apart" "_law_apart" (defArgs sApart) (defBody sApart) (defScope sApart) .none kV25 dc25 pm25 an25 cd25 ct25), sl25⟩)
    (c25 : PySem.W.codeIn K cd25 "_law_apart" = true)
    (k25 : PySem.W.keepIn K (.ref f25) = true)
    (a26 : PySem.W.nsIn K mainGlobals "_law_positions" = some (some (.ref f26)))
    (l26 : K.lookup f26 = some ⟨oc26, od26, .func (PySem.W.fnOf "_law_positions" "_law_positions" (defArgs sLPos) (defBody sLPos) (defScope sLPos) .none kV26 dc26 pm26 an26 cd26 ct26), sl26⟩)
    (c26 : PySem.W.codeIn K cd26 "_law_positions" = true)
    (k26 : PySem.W.keepIn K (.ref f26) = true)
    (a27 : PySem.W.nsIn K mainGlobals "_law_allowed" = some (some (.ref f27)))
    (l27 : K.lookup f27 = some ⟨oc27, od27, .func (PySem.W.fnOf "_law_allowed" "_law_allowed" (defArgs sLAllowed) (defBody sLAllowed) (defScope sLAllowed) .none kV27 dc27 pm27 an27 cd27 ct27), sl27⟩)
    (c27 : PySem.W.codeIn K cd27 "_law_allowed" = true)
    (k27 : PySem.W.keepIn K (.ref f27) = true)
    (a28 : PySem.W.nsIn K mainGlobals "_law_replies" = some (some (.ref f28)))
    (l28 : K.lookup f28 = some ⟨oc28, od28, .func (PySem.W.fnOf "_law_replies" "_law_replies" (defArgs sLReplies) (defBody sLReplies) (defScope sLReplies) .none kV28 dc28 pm28 an28 cd28 ct28), sl28⟩)
    (c28 : PySem.W.codeIn K cd28 "_law_replies" = true)
    (k28 : PySem.W.keepIn K (.ref f28) = true)
    (a29 : PySem.W.nsIn K mainGlobals "_law_after" = some (some (.ref f29)))
    (l29 : K.lookup f29 = some ⟨oc29, od29, .func (PySem.W.fnOf "_law_after" "_law_after" (defArgs sLAfter) (defBody sLAfter) (defScope sLAfter) .none kV29 dc29 pm29 an29 cd29 ct29), sl29⟩)
    (c29 : PySem.W.codeIn K cd29 "_law_after" = true)
    (k29 : PySem.W.keepIn K (.ref f29) = true)
    (a30 : PySem.W.nsIn K mainGlobals "_law_without" = some (some (.ref f30)))
    (l30 : K.lookup f30 = some ⟨oc30, od30, .func (PySem.W.fnOf "_law_without" "_law_without" (defArgs sLWithout) (defBody sLWithout) (defScope sLWithout) .none kV30 dc30 pm30 an30 cd30 ct30), sl30⟩)
    (c30 : PySem.W.codeIn K cd30 "_law_without" = true)
    (k30 : PySem.W.keepIn K (.ref f30) = true)
    (a31 : PySem.W.nsIn K mainGlobals "_law_ways" = some (some (.ref f31)))
    (l31 : K.lookup f31 = some ⟨oc31, od31, .func (PySem.W.fnOf "_law_ways" "_law_ways" (defArgs sLWays) (defBody sLWays) (defScope sLWays) .none kV31 dc31 pm31 an31 cd31 ct31), sl31⟩)
    (c31 : PySem.W.codeIn K cd31 "_law_ways" = true)
    (k31 : PySem.W.keepIn K (.ref f31) = true)
    (a32 : PySem.W.nsIn K mainGlobals "_law_ranks" = some (some (.ref f32)))
    (l32 : K.lookup f32 = some ⟨oc32, od32, .func (PySem.W.fnOf "_law_ranks" "_law_ranks" (defArgs sLRanks) (defBody sLRanks) (defScope sLRanks) .none kV32 dc32 pm32 an32 cd32 ct32), sl32⟩)
    (c32 : PySem.W.codeIn K cd32 "_law_ranks" = true)
    (k32 : PySem.W.keepIn K (.ref f32) = true)
    (a33 : PySem.W.nsIn K mainGlobals "_law_forced" = some (some (.ref f33)))
    (l33 : K.lookup f33 = some ⟨oc33, od33, .func (PySem.W.fnOf "_law_forced" "_law_forced" (defArgs sLForced) (defBody sLForced) (defScope sLForced) .none kV33 dc33 pm33 an33 cd33 ct33), sl33⟩)
    (c33 : PySem.W.codeIn K cd33 "_law_forced" = true)
    (k33 : PySem.W.keepIn K (.ref f33) = true)
    (a34 : PySem.W.nsIn K mainGlobals "law" = some (some (.ref f34)))
    (l34 : K.lookup f34 = some ⟨oc34, od34, .func (PySem.W.fnOf "law" "law" (defArgs sLaw) (defBody sLaw) (defScope sLaw) .none kV34 dc34 pm34 an34 cd34 ct34), sl34⟩)
    (c34 : PySem.W.codeIn K cd34 "law" = true)
    (k34 : PySem.W.keepIn K (.ref f34) = true)
    (a35 : PySem.W.nsIn K mainGlobals "fits" = some (some (.ref f35)))
    (l35 : K.lookup f35 = some ⟨oc35, od35, .func (PySem.W.fnOf "fits" "fits" (defArgs sFits) (defBody sFits) (defScope sFits) .none kV35 dc35 pm35 an35 (.ref q35) ct35), sl35⟩)
    (c35 : PySem.W.codeIn K (.ref q35) "fits" = true)
    (k35 : PySem.W.keepIn K (.ref f35) = true)
    (u35 : K.lookup q35 = some ⟨ue35, ud35, .fields uv35, us35⟩)
    (v35 : uv35[11]? = some (.ref p35))
    (n35 : K.lookup p35 = none)
    (a36 : PySem.W.nsIn K mainGlobals "is_relocation" = some (some (.ref f36)))
    (l36 : K.lookup f36 = some ⟨oc36, od36, .func (PySem.W.fnOf "is_relocation" "is_relocation" (defArgs sIsReloc) (defBody sIsReloc) (defScope sIsReloc) .none kV36 dc36 pm36 an36 (.ref q36) ct36), sl36⟩)
    (c36 : PySem.W.codeIn K (.ref q36) "is_relocation" = true)
    (k36 : PySem.W.keepIn K (.ref f36) = true)
    (u36 : K.lookup q36 = some ⟨ue36, ud36, .fields uv36, us36⟩)
    (v36 : uv36[11]? = some (.ref p36))
    (n36 : K.lookup p36 = none)
    (xC : PySem.W.nsIn K mainGlobals "Contract" = some (some (.ref C)))
    (pgC : PySem.W.plainGet K C Str.empty = true)
    (hdC : PySem.W.hasDictIn K C = true)
    (poC : PySem.W.plainOver K C = true)
    (saC : PySem.W.findIn K (.ref C) "__setattr__" = some (some (.builtin "object.__setattr__")))
    (mkC : PySem.W.makesIn K C = true)
    (kcC : PySem.W.keepIn K (.ref C) = true)
    (noCsize : PySem.W.findIn K (.ref C) "size" = some none)
    (noClimit : PySem.W.findIn K (.ref C) "limit" = some none)
    (noClengths : PySem.W.findIn K (.ref C) "lengths" = some none)
    (noCbudget : PySem.W.findIn K (.ref C) "budget" = some none)
    (a37 : PySem.W.findIn K (.ref C) "__init__" = some (some (.ref f37)))
    (i37 : PySem.W.isFn K (.ref f37) = true)
    (l37 : K.lookup f37 = some ⟨oc37, od37, .func (PySem.W.fnOf "__init__" "Contract.__init__" (defArgs sContractI) (defBody sContractI) (defScope sContractI) .none kV37 dc37 pm37 an37 cd37 ct37), sl37⟩)
    (c37 : PySem.W.codeIn K cd37 "Contract.__init__" = true)
    (k37 : PySem.W.keepIn K (.ref f37) = true)
    (xO : PySem.W.nsIn K mainGlobals "Options" = some (some (.ref O)))
    (pgO : PySem.W.plainGet K O Str.empty = true)
    (hdO : PySem.W.hasDictIn K O = true)
    (poO : PySem.W.plainOver K O = true)
    (saO : PySem.W.findIn K (.ref O) "__setattr__" = some (some (.builtin "object.__setattr__")))
    (mkO : PySem.W.makesIn K O = true)
    (kcO : PySem.W.keepIn K (.ref O) = true)
    (noOreleased : PySem.W.findIn K (.ref O) "released" = some none)
    (noOanswered : PySem.W.findIn K (.ref O) "answered" = some none)
    (a38 : PySem.W.findIn K (.ref O) "__init__" = some (some (.ref f38)))
    (i38 : PySem.W.isFn K (.ref f38) = true)
    (l38 : K.lookup f38 = some ⟨oc38, od38, .func (PySem.W.fnOf "__init__" "Options.__init__" (defArgs sOptI) (defBody sOptI) (defScope sOptI) .none kV38 dc38 pm38 an38 cd38 ct38), sl38⟩)
    (c38 : PySem.W.codeIn K cd38 "Options.__init__" = true)
    (k38 : PySem.W.keepIn K (.ref f38) = true)
    (a39 : PySem.W.findIn K (.ref O) "forced" = some (some (.ref f39)))
    (i39 : PySem.W.isFn K (.ref f39) = true)
    (l39 : K.lookup f39 = some ⟨oc39, od39, .func (PySem.W.fnOf "forced" "Options.forced" (defArgs sForced) (defBody sForced) (defScope sForced) .none kV39 dc39 pm39 an39 cd39 ct39), sl39⟩)
    (c39 : PySem.W.codeIn K cd39 "Options.forced" = true)
    (k39 : PySem.W.keepIn K (.ref f39) = true)
    (xGm : PySem.W.nsIn K mainGlobals "Game" = some (some (.ref Gm)))
    (pgGm : PySem.W.plainGet K Gm Str.empty = true)
    (hdGm : PySem.W.hasDictIn K Gm = true)
    (poGm : PySem.W.plainOver K Gm = true)
    (saGm : PySem.W.findIn K (.ref Gm) "__setattr__" = some (some (.builtin "object.__setattr__")))
    (mkGm : PySem.W.makesIn K Gm = true)
    (kcGm : PySem.W.keepIn K (.ref Gm) = true)
    (noGmcontract : PySem.W.findIn K (.ref Gm) "contract" = some none)
    (noGmranks : PySem.W.findIn K (.ref Gm) "ranks" = some none)
    (a40 : PySem.W.findIn K (.ref Gm) "__init__" = some (some (.ref f40)))
    (i40 : PySem.W.isFn K (.ref f40) = true)
    (l40 : K.lookup f40 = some ⟨oc40, od40, .func (PySem.W.fnOf "__init__" "Game.__init__" (defArgs sGameI) (defBody sGameI) (defScope sGameI) .none kV40 dc40 pm40 an40 cd40 ct40), sl40⟩)
    (c40 : PySem.W.codeIn K cd40 "Game.__init__" = true)
    (k40 : PySem.W.keepIn K (.ref f40) = true)
    (a41 : PySem.W.findIn K (.ref Gm) "rank" = some (some (.ref f41)))
    (i41 : PySem.W.isFn K (.ref f41) = true)
    (l41 : K.lookup f41 = some ⟨oc41, od41, .func (PySem.W.fnOf "rank" "Game.rank" (defArgs sRank) (defBody sRank) (defScope sRank) .none kV41 dc41 pm41 an41 cd41 ct41), sl41⟩)
    (c41 : PySem.W.codeIn K cd41 "Game.rank" = true)
    (k41 : PySem.W.keepIn K (.ref f41) = true)
    (a42 : PySem.W.findIn K (.ref Gm) "is_higher" = some (some (.ref f42)))
    (i42 : PySem.W.isFn K (.ref f42) = true)
    (l42 : K.lookup f42 = some ⟨oc42, od42, .func (PySem.W.fnOf "is_higher" "Game.is_higher" (defArgs sHigher) (defBody sHigher) (defScope sHigher) .none kV42 dc42 pm42 an42 cd42 ct42), sl42⟩)
    (c42 : PySem.W.codeIn K cd42 "Game.is_higher" = true)
    (k42 : PySem.W.keepIn K (.ref f42) = true)
    (a43 : PySem.W.findIn K (.ref Gm) "manager_reply" = some (some (.ref f43)))
    (i43 : PySem.W.isFn K (.ref f43) = true)
    (l43 : K.lookup f43 = some ⟨oc43, od43, .func (PySem.W.fnOf "manager_reply" "Game.manager_reply" (defArgs sMgr) (defBody sMgr) (defScope sMgr) .none kV43 dc43 pm43 an43 cd43 ct43), sl43⟩)
    (c43 : PySem.W.codeIn K cd43 "Game.manager_reply" = true)
    (k43 : PySem.W.keepIn K (.ref f43) = true)
    (a44 : PySem.W.findIn K (.ref Gm) "is_below" = some (some (.ref f44)))
    (i44 : PySem.W.isFn K (.ref f44) = true)
    (l44 : K.lookup f44 = some ⟨oc44, od44, .func (PySem.W.fnOf "is_below" "Game.is_below" (defArgs sBelow) (defBody sBelow) (defScope sBelow) .none kV44 dc44 pm44 an44 cd44 ct44), sl44⟩)
    (c44 : PySem.W.codeIn K cd44 "Game.is_below" = true)
    (k44 : PySem.W.keepIn K (.ref f44) = true)
    (a45 : PySem.W.findIn K (.ref Gm) "program_move" = some (some (.ref f45)))
    (i45 : PySem.W.isFn K (.ref f45) = true)
    (l45 : K.lookup f45 = some ⟨oc45, od45, .func (PySem.W.fnOf "program_move" "Game.program_move" (defArgs sProg) (defBody sProg) (defScope sProg) .none kV45 dc45 pm45 an45 cd45 ct45), sl45⟩)
    (c45 : PySem.W.codeIn K cd45 "Game.program_move" = true)
    (k45 : PySem.W.keepIn K (.ref f45) = true)
    (xTc : PySem.W.nsIn K mainGlobals "Table" = some (some (.ref Tc)))
    (pgTc : PySem.W.plainGet K Tc Str.empty = true)
    (hdTc : PySem.W.hasDictIn K Tc = true)
    (poTc : PySem.W.plainOver K Tc = true)
    (saTc : PySem.W.findIn K (.ref Tc) "__setattr__" = some (some (.builtin "object.__setattr__")))
    (mkTc : PySem.W.makesIn K Tc = true)
    (kcTc : PySem.W.keepIn K (.ref Tc) = true)
    (noTcnumbers : PySem.W.findIn K (.ref Tc) "numbers" = some none)
    (noTcotherwise : PySem.W.findIn K (.ref Tc) "otherwise" = some none)
    (a46 : PySem.W.findIn K (.ref Tc) "__init__" = some (some (.ref f46)))
    (i46 : PySem.W.isFn K (.ref f46) = true)
    (l46 : K.lookup f46 = some ⟨oc46, od46, .func (PySem.W.fnOf "__init__" "Table.__init__" (defArgs sTableI) (defBody sTableI) (defScope sTableI) .none kV46 dc46 pm46 an46 cd46 ct46), sl46⟩)
    (c46 : PySem.W.codeIn K cd46 "Table.__init__" = true)
    (k46 : PySem.W.keepIn K (.ref f46) = true)
    (a47 : PySem.W.findIn K (.ref Tc) "reply" = some (some (.ref f47)))
    (i47 : PySem.W.isFn K (.ref f47) = true)
    (l47 : K.lookup f47 = some ⟨oc47, od47, .func (PySem.W.fnOf "reply" "Table.reply" (defArgs sTReply) (defBody sTReply) (defScope sTReply) .none kV47 dc47 pm47 an47 cd47 ct47), sl47⟩)
    (c47 : PySem.W.codeIn K cd47 "Table.reply" = true)
    (k47 : PySem.W.keepIn K (.ref f47) = true)
    (zlen : PySem.W.nsIn K mainGlobals "len" = some none)
    (zsum : PySem.W.nsIn K mainGlobals "sum" = some none)
    (zall : PySem.W.nsIn K mainGlobals "all" = some none)
    (zany : PySem.W.nsIn K mainGlobals "any" = some none)
    (zrange : PySem.W.nsIn K mainGlobals "range" = some none)
    (zsorted : PySem.W.nsIn K mainGlobals "sorted" = some none)
    (zzip : PySem.W.nsIn K mainGlobals "zip" = some none)
    (ztuple : PySem.W.nsIn K mainGlobals "tuple" = some none)
    (zlist : PySem.W.nsIn K mainGlobals "list" = some none)
    (zint : PySem.W.nsIn K mainGlobals "int" = some none)
    (zset : PySem.W.nsIn K mainGlobals "set" = some none)
    (zdict : PySem.W.nsIn K mainGlobals "dict" = some none) :
    LamX.LawAtS l w K CX0 10 63 "_law_script" mg fa h := by
  have e := hfa.symm.trans (PySem.W.mg_of X G a34)
  cases e
  have F1 := fun_mk (st := sIsLayout) l1 c1 k1
  have b1 := F1.binds (ps := ["size", "layout"]) fun _ _ _ _ _ _ us hl => match us, hl with | [_, _], _ => rfl
  have F2 := fun_mk (st := sLive) l2 c2 k2
  have b2 := F2.binds (ps := ["layout"]) fun _ _ _ _ _ _ us hl => match us, hl with | [_], _ => rfl
  have F3 := fun_mk (st := sWith) l3 c3 k3
  have b3 := F3.binds (ps := ["layout", "start", "length"]) fun _ _ _ _ _ _ us hl => match us, hl with | [_, _, _], _ => rfl
  have F4 := fun_mk (st := sWithout) l4 c4 k4
  have b4 := F4.binds (ps := ["layout", "index"]) fun _ _ _ _ _ _ us hl => match us, hl with | [_, _], _ => rfl
  have F5 := fun_mk (st := sPlaced) l5 c5 k5
  have b5 := F5.binds (ps := ["layout", "starts"]) fun _ _ _ _ _ _ us hl => match us, hl with | [_, _], _ => rfl
  have F6 := fun_mk (st := sRelocated) l6 c6 k6
  have b6 := F6.binds (ps := ["layout", "starts"]) fun _ _ _ _ _ _ us hl => match us, hl with | [_, _], _ => rfl
  have F7 := fun_mk (st := sCost) l7 c7 k7
  have b7 := F7.binds (ps := ["layout", "starts"]) fun _ _ _ _ _ _ us hl => match us, hl with | [_, _], _ => rfl
  have F8 := fun_mk (st := sPos) l8 c8 k8
  have b8 := F8.binds (ps := ["contract"]) fun _ _ _ _ _ _ us hl => match us, hl with | [_], _ => rfl
  have F9 := fun_mk (st := sReqable) l9 c9 k9
  have b9 := F9.binds (ps := ["contract", "layout"]) fun _ _ _ _ _ _ us hl => match us, hl with | [_, _], _ => rfl
  have F10 := fun_mk (st := sStarts) l10 c10 k10
  have b10 := F10.binds (ps := ["size", "budget", "layout"]) fun _ _ _ _ _ _ us hl => match us, hl with | [_, _, _], _ => rfl
  have F11 := fun_mk (st := sRelocs) l11 c11 k11
  have b11 := F11.binds (ps := ["contract", "layout"]) fun _ _ _ _ _ _ us hl => match us, hl with | [_, _], _ => rfl
  have F12 := fun_mk (st := sReplies) l12 c12 k12
  have b12 := F12.binds (ps := ["contract", "layout", "length"]) fun _ _ _ _ _ _ us hl => match us, hl with | [_, _, _], _ => rfl
  have F13 := fun_mk (st := sKey) l13 c13 k13
  have b13 := F13.binds (ps := ["reply"]) fun _ _ _ _ _ _ us hl => match us, hl with | [_], _ => rfl
  have F14 := fun_mk (st := sAfter) l14 c14 k14
  have b14 := F14.binds (ps := ["layout", "length", "reply"]) fun _ _ _ _ _ _ us hl => match us, hl with | [_, _, _], _ => rfl
  have F15 := fun_mk (st := sMoves) l15 c15 k15
  have b15 := F15.binds (ps := ["contract", "layout"]) fun _ _ _ _ _ _ us hl => match us, hl with | [_, _], _ => rfl
  have F16 := fun_mk (st := sScripted) l16 c16 k16
  have b16 := F16.binds (ps := ["contract", "layout", "number"]) fun _ _ _ _ _ _ us hl => match us, hl with | [_, _, _], _ => rfl
  have F17 := fun_mk (st := sServed) l17 c17 k17
  have b17 := F17.binds (ps := ["game", "numbers"]) fun _ _ _ _ _ _ us hl => match us, hl with | [_, _], _ => rfl
  have F18 := fun_mk (st := sDefeated) l18 c18 k18
  have b18 := F18.binds (ps := ["game", "table"]) fun _ _ _ _ _ _ us hl => match us, hl with | [_, _], _ => rfl
  have F19 := fun_mk (st := sLCell) l19 c19 k19
  have b19 := F19.binds (ps := ["_law_script", "_law_k"]) fun _ _ _ _ _ _ us hl => match us, hl with | [_, _], _ => rfl
  have F20 := fun_mk (st := sLRow) l20 c20 k20
  have b20 := F20.binds (ps := ["_law_cell_here", "_law_k", "_law_many"]) fun _ _ _ _ _ _ us hl => match us, hl with | [_, _, _], _ => rfl
  have F21 := fun_mk (st := sLBox) l21 c21 k21
  have b21 := F21.binds (ps := ["_law_script", "_law_first", "_law_last"]) fun _ _ _ _ _ _ us hl => match us, hl with | [_, _, _], _ => rfl
  have F22 := fun_mk (st := sLDraw) l22 c22 k22
  have b22 := F22.binds (ps := ["_law_box_here", "_law_many"]) fun _ _ _ _ _ _ us hl => match us, hl with | [_, _], _ => rfl
  have F23 := fun_mk (st := sLCtr) l23 c23 k23
  have b23 := F23.binds (ps := ["_law_box_here", "_law_most"]) fun _ _ _ _ _ _ us hl => match us, hl with | [_, _], _ => rfl
  have F24 := fun_mk (st := sLLive) l24 c24 k24
  have b24 := F24.binds (ps := ["_law_layout"]) fun _ _ _ _ _ _ us hl => match us, hl with | [_], _ => rfl
  have F25 := fun_mk (st := sApart) l25 c25 k25
  have b25 := F25.binds (ps := ["_law_size", "_law_blocks"]) fun _ _ _ _ _ _ us hl => match us, hl with | [_, _], _ => rfl
  have F26 := fun_mk (st := sLPos) l26 c26 k26
  have b26 := F26.binds (ps := ["_law_contract_here"]) fun _ _ _ _ _ _ us hl => match us, hl with | [_], _ => rfl
  have F27 := fun_mk (st := sLAllowed) l27 c27 k27
  have b27 := F27.binds (ps := ["_law_contract_here", "_law_layout"]) fun _ _ _ _ _ _ us hl => match us, hl with | [_, _], _ => rfl
  have F28 := fun_mk (st := sLReplies) l28 c28 k28
  have b28 := F28.binds (ps := ["_law_contract_here", "_law_layout", "_law_length"]) fun _ _ _ _ _ _ us hl => match us, hl with | [_, _, _], _ => rfl
  have F29 := fun_mk (st := sLAfter) l29 c29 k29
  have b29 := F29.binds (ps := ["_law_layout", "_law_length", "_law_reply"]) fun _ _ _ _ _ _ us hl => match us, hl with | [_, _, _], _ => rfl
  have F30 := fun_mk (st := sLWithout) l30 c30 k30
  have b30 := F30.binds (ps := ["_law_layout", "_law_index"]) fun _ _ _ _ _ _ us hl => match us, hl with | [_, _], _ => rfl
  have F31 := fun_mk (st := sLWays) l31 c31 k31
  have b31 := F31.binds (ps := ["_law_contract_here"]) fun _ _ _ _ _ _ us hl => match us, hl with | [_], _ => rfl
  have F32 := fun_mk (st := sLRanks) l32 c32 k32
  have b32 := F32.binds (ps := ["_law_contract_here"]) fun _ _ _ _ _ _ us hl => match us, hl with | [_], _ => rfl
  have F33 := fun_mk (st := sLForced) l33 c33 k33
  have b33 := F33.binds (ps := ["_law_way", "_law_won"]) fun _ _ _ _ _ _ us hl => match us, hl with | [_, _], _ => rfl
  have F34 := fun_mk (st := sLaw) l34 c34 k34
  have b34 := F34.binds (ps := ["_law_script"]) fun _ _ _ _ _ _ us hl => match us, hl with | [_], _ => rfl
  have t35 := tabIn_of a35 l35 rfl u35 v35
  have F35 : FunC K "fits" "fits" sFits f35 _ q35 := ⟨⟨oc35, od35, kV35, dc35, pm35, an35, ct35, sl35, rfl, l35, c35⟩⟩
  have b35 := (fun_mk (st := sFits) l35 c35 k35).binds (ps := ["size", "layout", "start", "length"]) fun _ _ _ _ _ _ us hl => match us, hl with | [_, _, _, _], _ => rfl
  have t36 := tabIn_of a36 l36 rfl u36 v36
  have F36 : FunC K "is_relocation" "is_relocation" sIsReloc f36 _ q36 := ⟨⟨oc36, od36, kV36, dc36, pm36, an36, ct36, sl36, rfl, l36, c36⟩⟩
  have b36 := (fun_mk (st := sIsReloc) l36 c36 k36).binds (ps := ["size", "layout", "starts"]) fun _ _ _ _ _ _ us hl => match us, hl with | [_, _, _], _ => rfl
  have F37 := fun_mk (st := sContractI) l37 c37 k37
  have b37 := F37.binds (ps := ["self", "size", "limit", "lengths", "budget"]) fun _ _ _ _ _ _ us hl => match us, hl with | [_, _, _, _, _], _ => rfl
  have F38 := fun_mk (st := sOptI) l38 c38 k38
  have b38 := F38.binds (ps := ["self", "contract", "layout"]) fun _ _ _ _ _ _ us hl => match us, hl with | [_, _, _], _ => rfl
  have F39 := fun_mk (st := sForced) l39 c39 k39
  have b39 := F39.binds (ps := ["self", "won"]) fun _ _ _ _ _ _ us hl => match us, hl with | [_, _], _ => rfl
  have F40 := fun_mk (st := sGameI) l40 c40 k40
  have b40 := F40.binds (ps := ["self", "contract"]) fun _ _ _ _ _ _ us hl => match us, hl with | [_, _], _ => rfl
  have F41 := fun_mk (st := sRank) l41 c41 k41
  have b41 := F41.binds (ps := ["self", "layout"]) fun _ _ _ _ _ _ us hl => match us, hl with | [_, _], _ => rfl
  have F42 := fun_mk (st := sHigher) l42 c42 k42
  have b42 := F42.binds (ps := ["self", "one", "other"]) fun _ _ _ _ _ _ us hl => match us, hl with | [_, _, _], _ => rfl
  have F43 := fun_mk (st := sMgr) l43 c43 k43
  have b43 := F43.binds (ps := ["self", "layout", "length"]) fun _ _ _ _ _ _ us hl => match us, hl with | [_, _, _], _ => rfl
  have F44 := fun_mk (st := sBelow) l44 c44 k44
  have b44 := F44.binds (ps := ["self", "layout", "rank"]) fun _ _ _ _ _ _ us hl => match us, hl with | [_, _, _], _ => rfl
  have F45 := fun_mk (st := sProg) l45 c45 k45
  have b45 := F45.binds (ps := ["self", "layout"]) fun _ _ _ _ _ _ us hl => match us, hl with | [_, _], _ => rfl
  have F46 := fun_mk (st := sTableI) l46 c46 k46
  have b46 := F46.binds (ps := ["self", "numbers", "otherwise"]) fun _ _ _ _ _ _ us hl => match us, hl with | [_, _, _], _ => rfl
  have F47 := fun_mk (st := sTReply) l47 c47 k47
  have b47 := F47.binds (ps := ["self", "contract", "layout", "length"]) fun _ _ _ _ _ _ us hl => match us, hl with | [_, _, _, _], _ => rfl
  have B : Bt mg := ⟨PySem.W.mg_none_of X G zlen, PySem.W.mg_none_of X G zsum, PySem.W.mg_none_of X G zall, PySem.W.mg_none_of X G zany, PySem.W.mg_none_of X G zrange, PySem.W.mg_none_of X G zsorted, PySem.W.mg_none_of X G zzip, PySem.W.mg_none_of X G ztuple, PySem.W.mg_none_of X G zlist, PySem.W.mg_none_of X G zint, PySem.W.mg_none_of X G zset, PySem.W.mg_none_of X G zdict⟩
  have CF : CtrF K C := ⟨⟨pgC, hdC, poC, saC⟩, noCsize, noClimit, noClengths, noCbudget⟩
  have OF : OptF K O := ⟨⟨pgO, hdO, poO, saO⟩, noOreleased, noOanswered⟩
  have GF : GmF K Gm := ⟨⟨pgGm, hdGm, poGm, saGm⟩, noGmcontract, noGmranks⟩
  have TF : TbF K Tc := ⟨⟨pgTc, hdTc, poTc, saTc⟩, noTcnumbers, noTcotherwise⟩
  obtain ⟨hd1, ht1⟩ := TT _ _ _ r1 t35
  obtain ⟨hd2, ht2⟩ := TT _ _ _ r2 t36
  refine ⟨PySem.W.fnOf "law" "law" (defArgs sLaw) (defBody sLaw) (defScope sLaw) .none kV34 dc34 pm34 an34 cd34 ct34, [(q35, p35), (q36, p36)], spLaw [p35, p36] K, fun p hp => ?_, fun p hp => ?_, fun p hp => ?_, fun s u => .of_eq rfl, fun H a ns _ _ hH hS => ?_, fun base KB GB TB => ?_⟩
  · rcases List.mem_cons.mp hp with z | z
    · rw [z]; exact ht1
    · rw [List.mem_singleton.mp z]; exact ht2
  · rcases List.mem_cons.mp hp with z | z
    · rw [z]; exact n35
    · rw [List.mem_singleton.mp z]; exact n36
  · rcases List.mem_cons.mp hp with z | z
    · rw [z]; exact hd1
    · rw [List.mem_singleton.mp z]; exact hd2
  · have g1 := hH (q35, p35) (by simp)
    have g2 := hH (q36, p36) (by simp)
    have key : ∀ p, H p = some (.tbl #[]) → K.lookup p = none → a ≠ p := fun p e1 e2 e3 => by
      subst e3
      rcases hS with z | ⟨o, its, n, z, _⟩
      · rcases z with z | ⟨o, z⟩
        · rw [e1] at z; cases z
        · rw [e1] at z; cases z
      · rw [e2] at z; cases z
    refine ⟨a, ns, rfl, fun z => ?_, fun p hp => ?_, hS, fun _ => rfl⟩
    · rcases List.mem_cons.mp z with z | z
      · exact key _ g1 n35 z
      · exact key _ g2 n36 (List.mem_singleton.mp z)
    · rcases List.mem_cons.mp hp with z | z
      · rw [z]; exact ⟨#[], g1, trivial⟩
      · rw [List.mem_singleton.mp z]; exact ⟨#[], g2, trivial⟩
  · skip
    have Dlive : Dk l.prog w K mg base [p35, p36] _ "live_cells" _ := ⟨⟨f2, _, _, ok_live F2 B, (PySem.W.mg_of X G a2), k2, b2⟩⟩
    have Dislay : Dk l.prog w K mg base [p35, p36] _ "is_layout" _ := ⟨⟨f1, _, _, ok_isLayout F1, (PySem.W.mg_of X G a1), k1, b1⟩⟩
    have Dwith : Dk l.prog w K mg base [p35, p36] _ "with_block" _ := ⟨⟨f3, _, _, ok_with F3 B, (PySem.W.mg_of X G a3), k3, b3⟩⟩
    have Dwithout : Dk l.prog w K mg base [p35, p36] _ "without" _ := ⟨⟨f4, _, _, ok_without F4, (PySem.W.mg_of X G a4), k4, b4⟩⟩
    have Dplaced : Dk l.prog w K mg base [p35, p36] _ "placed" _ := ⟨⟨f5, _, _, ok_placed F5 B, (PySem.W.mg_of X G a5), k5, b5⟩⟩
    have Drel : Dk l.prog w K mg base [p35, p36] _ "relocated" _ := ⟨⟨f6, _, _, ok_relocated F6 B Dplaced, (PySem.W.mg_of X G a6), k6, b6⟩⟩
    have Dcost : Dk l.prog w K mg base [p35, p36] _ "cost" _ := ⟨⟨f7, _, _, ok_cost F7 B, (PySem.W.mg_of X G a7), k7, b7⟩⟩
    have Dfits : Dk l.prog w K mg base [p35, p36] _ "fits" _ := ⟨⟨f35, _, _, ok_fits F35 B (tabB_of (TB (q35, p35) (by simp))) (by simp), (PySem.W.mg_of X G a35), k35, b35⟩⟩
    have Disrel : Dk l.prog w K mg base [p35, p36] _ "is_relocation" _ := ⟨⟨f36, _, _, ok_isReloc F36 B (tabB_of (TB (q36, p36) (by simp))) (by simp) Dislay Drel, (PySem.W.mg_of X G a36), k36, b36⟩⟩
    have Dpos : Dk l.prog w K mg base [p35, p36] _ "positions" _ := ⟨⟨f8, _, _, ok_pos F8 B CF Dlive, (PySem.W.mg_of X G a8), k8, b8⟩⟩
    have Dreq : Dk l.prog w K mg base [p35, p36] _ "requestable" _ := ⟨⟨f9, _, _, ok_reqable F9 CF Dlive, (PySem.W.mg_of X G a9), k9, b9⟩⟩
    have Dstarts : Dk l.prog w K mg base [p35, p36] _ "starts_within" _ := ⟨⟨f10, _, _, ok_starts F10 B, (PySem.W.mg_of X G a10), k10, b10⟩⟩
    have Drelocs : Dk l.prog w K mg base [p35, p36] _ "relocations" _ := ⟨⟨f11, _, _, ok_relocs F11 CF Dstarts Disrel, (PySem.W.mg_of X G a11), k11, b11⟩⟩
    have Dreplies : Dk l.prog w K mg base [p35, p36] _ "replies" _ := ⟨⟨f12, _, _, ok_replies F12 B CF F13 (PySem.W.mg_of X G a13) Dreq Drelocs Drel Dcost Dfits, (PySem.W.mg_of X G a12), k12, b12⟩⟩
    have Dafter : Dk l.prog w K mg base [p35, p36] _ "after_reply" _ := ⟨⟨f14, _, _, ok_after F14 Dwith Drel, (PySem.W.mg_of X G a14), k14, b14⟩⟩
    have Dmoves : Dk l.prog w K mg base [p35, p36] _ "moves_of" _ := ⟨⟨f15, _, _, ok_moves F15 B Dreq, (PySem.W.mg_of X G a15), k15, b15⟩⟩
    have Dscr : Dk l.prog w K mg base [p35, p36] _ "scripted" _ := ⟨⟨f16, _, _, ok_scripted F16 B Dmoves, (PySem.W.mg_of X G a16), k16, b16⟩⟩
    have Cctr : Ck l.prog w K mg base [p35, p36] _ "Contract" C _ _ := ⟨⟨f37, _, _, ok_contractI F37 B CF, ⟨mkC, a37, i37, kcC⟩, PySem.W.mg_of X G xC, b37⟩⟩
    have Copt : Ck l.prog w K mg base [p35, p36] _ "Options" O _ _ := ⟨⟨f38, _, _, ok_optI F38 B OF Dwithout Dreq Dreplies Dafter, ⟨mkO, a38, i38, kcO⟩, PySem.W.mg_of X G xO, b38⟩⟩
    have Mforced : Mk2 l.prog w K mg base [p35, p36] _ O "forced" _ := ⟨⟨f39, _, _, ok_forced F39 B OF, ⟨a39, i39, k39⟩, b39⟩, ⟨pgO, hdO, poO, saO⟩⟩
    have Cgame : Ck l.prog w K mg base [p35, p36] _ "Game" Gm _ _ := ⟨⟨f40, _, _, ok_gameI F40 B GF OF Dpos Copt Mforced, ⟨mkGm, a40, i40, kcGm⟩, PySem.W.mg_of X G xGm, b40⟩⟩
    have Mrank : Mk2 l.prog w K mg base [p35, p36] _ Gm "rank" _ := ⟨⟨f41, _, _, ok_rank (C := C) F41 B GF, ⟨a41, i41, k41⟩, b41⟩, ⟨pgGm, hdGm, poGm, saGm⟩⟩
    have Mhigher : Mk2 l.prog w K mg base [p35, p36] _ Gm "is_higher" _ := ⟨⟨f42, _, _, ok_higher (Gm := Gm) F42, ⟨a42, i42, k42⟩, b42⟩, ⟨pgGm, hdGm, poGm, saGm⟩⟩
    have Mbelow : Mk2 l.prog w K mg base [p35, p36] _ Gm "is_below" _ := ⟨⟨f44, _, _, ok_below F44 Mrank, ⟨a44, i44, k44⟩, b44⟩, ⟨pgGm, hdGm, poGm, saGm⟩⟩
    have Mmgr : Mk2 l.prog w K mg base [p35, p36] _ Gm "manager_reply" _ := ⟨⟨f43, _, _, ok_mgr F43 GF Mrank Mhigher Dreplies Dafter, ⟨a43, i43, k43⟩, b43⟩, ⟨pgGm, hdGm, poGm, saGm⟩⟩
    have Mprog : Mk2 l.prog w K mg base [p35, p36] _ Gm "program_move" _ := ⟨⟨f45, _, _, ok_prog F45 B GF Mrank Mbelow Dreplies Dafter Dwithout Dreq, ⟨a45, i45, k45⟩, b45⟩, ⟨pgGm, hdGm, poGm, saGm⟩⟩
    have Ctab : Ck l.prog w K mg base [p35, p36] _ "Table" Tc _ _ := ⟨⟨f46, _, _, ok_tableI F46 B TF, ⟨mkTc, a46, i46, kcTc⟩, PySem.W.mg_of X G xTc, b46⟩⟩
    have Mreply : Mk2 l.prog w K mg base [p35, p36] _ Tc "reply" _ := ⟨⟨f47, _, _, ok_tReply F47 B TF Dreplies, ⟨a47, i47, k47⟩, b47⟩, ⟨pgTc, hdTc, poTc, saTc⟩⟩
    have Dserved : Dk l.prog w K mg base [p35, p36] _ "served" _ := ⟨⟨f17, _, _, ok_served F17 GF Dscr Dwithout Mmgr Dafter, (PySem.W.mg_of X G a17), k17, b17⟩⟩
    have Ddef : Dk l.prog w K mg base [p35, p36] _ "defeated" _ := ⟨⟨f18, _, _, ok_defeated F18 GF Mprog Dwithout Mreply Dafter, (PySem.W.mg_of X G a18), k18, b18⟩⟩
    have Dlcell : Dk l.prog w K mg base [p35, p36] _ "_law_cell" _ := ⟨⟨f19, _, _, ok_lCell F19 B, (PySem.W.mg_of X G a19), k19, b19⟩⟩
    have Dlrow : Dk l.prog w K mg base [p35, p36] _ "_law_row" _ := ⟨⟨f20, _, _, ok_lRow F20 B, (PySem.W.mg_of X G a20), k20, b20⟩⟩
    have Dlbox : DkS l.prog w K mg base _ "_law_box" _ := ⟨⟨f21, _, _, ok_lBox F21 B Dlrow Dlcell, (PySem.W.mg_of X G a21), k21, b21⟩⟩
    have Dldraw : DkS l.prog w K mg base _ "_law_draw" _ := ⟨⟨f22, _, _, ok_lDraw (T := [p35, p36]) F22 B, (PySem.W.mg_of X G a22), k22, b22⟩⟩
    have Dlctr : DkS l.prog w K mg base _ "_law_contract" _ := ⟨⟨f23, _, _, ok_lCtr F23 Dldraw Cctr, (PySem.W.mg_of X G a23), k23, b23⟩⟩
    have Dllive : Dk l.prog w K mg base [p35, p36] _ "_law_live" _ := ⟨⟨f24, _, _, ok_lLive F24 B, (PySem.W.mg_of X G a24), k24, b24⟩⟩
    have Dlapart : Dk l.prog w K mg base [p35, p36] _ "_law_apart" _ := ⟨⟨f25, _, _, ok_apart F25 B, (PySem.W.mg_of X G a25), k25, b25⟩⟩
    have Dlpos : Dk l.prog w K mg base [p35, p36] _ "_law_positions" _ := ⟨⟨f26, _, _, ok_lPos F26 B CF Dllive, (PySem.W.mg_of X G a26), k26, b26⟩⟩
    have Dlallow : Dk l.prog w K mg base [p35, p36] _ "_law_allowed" _ := ⟨⟨f27, _, _, ok_lAllowed F27 CF Dllive, (PySem.W.mg_of X G a27), k27, b27⟩⟩
    have Dlrep : Dk l.prog w K mg base [p35, p36] _ "_law_replies" _ := ⟨⟨f28, _, _, ok_lReplies F28 B CF Dlapart, (PySem.W.mg_of X G a28), k28, b28⟩⟩
    have Dlafter : Dk l.prog w K mg base [p35, p36] _ "_law_after" _ := ⟨⟨f29, _, _, ok_lAfter F29 B, (PySem.W.mg_of X G a29), k29, b29⟩⟩
    have Dlwo : Dk l.prog w K mg base [p35, p36] _ "_law_without" _ := ⟨⟨f30, _, _, ok_lWithout F30 B, (PySem.W.mg_of X G a30), k30, b30⟩⟩
    have Dlforced : Dk l.prog w K mg base [p35, p36] _ "_law_forced" _ := ⟨⟨f33, _, _, ok_lForced F33, (PySem.W.mg_of X G a33), k33, b33⟩⟩
    have Dlways : Dk l.prog w K mg base [p35, p36] _ "_law_ways" _ := ⟨⟨f31, _, _, ok_lWays F31 B Dlpos Dlwo Dlallow Dlafter Dlrep, (PySem.W.mg_of X G a31), k31, b31⟩⟩
    have Dlranks : Dk l.prog w K mg base [p35, p36] _ "_law_ranks" _ := ⟨⟨f32, _, _, ok_lRanks F32 B Dlways Dlforced, (PySem.W.mg_of X G a32), k32, b32⟩⟩
    exact ok_law (O := O) F34 B CF Dlbox Dlctr Dlranks Cgame Dldraw Dlpos Ctab Ddef Dserved Mprog Mmgr Dlwo Dlafter
end HG

set_option Elab.async false
set_option linter.all false
set_option maxRecDepth 100000
set_option maxHeartbeats 4000000
/-! The head. -/

open PySem PySem.W PyProof.Rows in
set_option maxRecDepth 100000 in
set_option maxHeartbeats 0 in
theorem PySem.Challenge.cw_heapgame_k92_whole_one_side_wins_holds : PySem.Challenge.rw_heapgame_k92_whole_one_side_wins.Holds := by
  w_on; o_law; k_head; (case hw => w_witness2)
  k_fill
  refine LamX.walk_hg (l := PySem.Challenge.rw_heapgame_k92_whole_one_side_wins) rfl rfl (fun w h Y => PySem.W.kIn_of Y) ?F
  case F =>
    intro w mg fa h KX G hmg TT
    refine' HG.all_mk KX G hmg TT ?rr1 ?rr2 ?a1 ?l1 ?c1 ?k1 ?a2 ?l2 ?c2 ?k2 ?a3 ?l3 ?c3 ?k3 ?a4 ?l4 ?c4 ?k4 ?a5 ?l5 ?c5 ?k5 ?a6 ?l6 ?c6 ?k6 ?a7 ?l7 ?c7 ?k7 ?a8 ?l8 ?c8 ?k8 ?a9 ?l9 ?c9 ?k9 ?a10 ?l10 ?c10 ?k10 ?a11 ?l11 ?c11 ?k11 ?a12 ?l12 ?c12 ?k12 ?a13 ?l13 ?c13 ?k13 ?a14 ?l14 ?c14 ?k14 ?a15 ?l15 ?c15 ?k15 ?a16 ?l16 ?c16 ?k16 ?a17 ?l17 ?c17 ?k17 ?a18 ?l18 ?c18 ?k18 ?a19 ?l19 ?c19 ?k19 ?a20 ?l20 ?c20 ?k20 ?a21 ?l21 ?c21 ?k21 ?a22 ?l22 ?c22 ?k22 ?a23 ?l23 ?c23 ?k23 ?a24 ?l24 ?c24 ?k24 ?a25 ?l25 ?c25 ?k25 ?a26 ?l26 ?c26 ?k26 ?a27 ?l27 ?c27 ?k27 ?a28 ?l28 ?c28 ?k28 ?a29 ?l29 ?c29 ?k29 ?a30 ?l30 ?c30 ?k30 ?a31 ?l31 ?c31 ?k31 ?a32 ?l32 ?c32 ?k32 ?a33 ?l33 ?c33 ?k33 ?a34 ?l34 ?c34 ?k34 ?a35 ?l35 ?c35 ?k35 ?u35 ?v35 ?n35 ?a36 ?l36 ?c36 ?k36 ?u36 ?v36 ?n36 ?xC ?pgC ?hdC ?poC ?saC ?mkC ?kcC ?noCsize ?noClimit ?noClengths ?noCbudget ?a37 ?i37 ?l37 ?c37 ?k37 ?xO ?pgO ?hdO ?poO ?saO ?mkO ?kcO ?noOreleased ?noOanswered ?a38 ?i38 ?l38 ?c38 ?k38 ?a39 ?i39 ?l39 ?c39 ?k39 ?xGm ?pgGm ?hdGm ?poGm ?saGm ?mkGm ?kcGm ?noGmcontract ?noGmranks ?a40 ?i40 ?l40 ?c40 ?k40 ?a41 ?i41 ?l41 ?c41 ?k41 ?a42 ?i42 ?l42 ?c42 ?k42 ?a43 ?i43 ?l43 ?c43 ?k43 ?a44 ?i44 ?l44 ?c44 ?k44 ?a45 ?i45 ?l45 ?c45 ?k45 ?xTc ?pgTc ?hdTc ?poTc ?saTc ?mkTc ?kcTc ?noTcnumbers ?noTcotherwise ?a46 ?i46 ?l46 ?c46 ?k46 ?a47 ?i47 ?l47 ?c47 ?k47 ?zlen ?zsum ?zall ?zany ?zrange ?zsorted ?zzip ?ztuple ?zlist ?zint ?zset ?zdict
    (case rr1 => first | decide +kernel | with_unfolding_all rfl)
    (case rr2 => first | decide +kernel | with_unfolding_all rfl)
    (case a1 => k_is)
    (case l1 => k_is)
    (case c1 => k_is)
    (case k1 => k_is)
    (case a2 => k_is)
    (case l2 => k_is)
    (case c2 => k_is)
    (case k2 => k_is)
    (case a3 => k_is)
    (case l3 => k_is)
    (case c3 => k_is)
    (case k3 => k_is)
    (case a4 => k_is)
    (case l4 => k_is)
    (case c4 => k_is)
    (case k4 => k_is)
    (case a5 => k_is)
    (case l5 => k_is)
    (case c5 => k_is)
    (case k5 => k_is)
    (case a6 => k_is)
    (case l6 => k_is)
    (case c6 => k_is)
    (case k6 => k_is)
    (case a7 => k_is)
    (case l7 => k_is)
    (case c7 => k_is)
    (case k7 => k_is)
    (case a8 => k_is)
    (case l8 => k_is)
    (case c8 => k_is)
    (case k8 => k_is)
    (case a9 => k_is)
    (case l9 => k_is)
    (case c9 => k_is)
    (case k9 => k_is)
    (case a10 => k_is)
    (case l10 => k_is)
    (case c10 => k_is)
    (case k10 => k_is)
    (case a11 => k_is)
    (case l11 => k_is)
    (case c11 => k_is)
    (case k11 => k_is)
    (case a12 => k_is)
    (case l12 => k_is)
    (case c12 => k_is)
    (case k12 => k_is)
    (case a13 => k_is)
    (case l13 => k_is)
    (case c13 => k_is)
    (case k13 => k_is)
    (case a14 => k_is)
    (case l14 => k_is)
    (case c14 => k_is)
    (case k14 => k_is)
    (case a15 => k_is)
    (case l15 => k_is)
    (case c15 => k_is)
    (case k15 => k_is)
    (case a16 => k_is)
    (case l16 => k_is)
    (case c16 => k_is)
    (case k16 => k_is)
    (case a17 => k_is)
    (case l17 => k_is)
    (case c17 => k_is)
    (case k17 => k_is)
    (case a18 => k_is)
    (case l18 => k_is)
    (case c18 => k_is)
    (case k18 => k_is)
    (case a19 => k_is)
    (case l19 => k_is)
    (case c19 => k_is)
    (case k19 => k_is)
    (case a20 => k_is)
    (case l20 => k_is)
    (case c20 => k_is)
    (case k20 => k_is)
    (case a21 => k_is)
    (case l21 => k_is)
    (case c21 => k_is)
    (case k21 => k_is)
    (case a22 => k_is)
    (case l22 => k_is)
    (case c22 => k_is)
    (case k22 => k_is)
    (case a23 => k_is)
    (case l23 => k_is)
    (case c23 => k_is)
    (case k23 => k_is)
    (case a24 => k_is)
    (case l24 => k_is)
    (case c24 => k_is)
    (case k24 => k_is)
    (case a25 => k_is)
    (case l25 => k_is)
    (case c25 => k_is)
    (case k25 => k_is)
    (case a26 => k_is)
    (case l26 => k_is)
    (case c26 => k_is)
    (case k26 => k_is)
    (case a27 => k_is)
    (case l27 => k_is)
    (case c27 => k_is)
    (case k27 => k_is)
    (case a28 => k_is)
    (case l28 => k_is)
    (case c28 => k_is)
    (case k28 => k_is)
    (case a29 => k_is)
    (case l29 => k_is)
    (case c29 => k_is)
    (case k29 => k_is)
    (case a30 => k_is)
    (case l30 => k_is)
    (case c30 => k_is)
    (case k30 => k_is)
    (case a31 => k_is)
    (case l31 => k_is)
    (case c31 => k_is)
    (case k31 => k_is)
    (case a32 => k_is)
    (case l32 => k_is)
    (case c32 => k_is)
    (case k32 => k_is)
    (case a33 => k_is)
    (case l33 => k_is)
    (case c33 => k_is)
    (case k33 => k_is)
    (case a34 => k_is)
    (case l34 => k_is)
    (case c34 => k_is)
    (case k34 => k_is)
    (case a35 => k_is)
    (case l35 => k_is)
    (case c35 => k_is)
    (case k35 => k_is)
    (case u35 => k_is)
    (case v35 => exact rfl)
    (case n35 => first | kernel_rfl | exact rfl | with_unfolding_all rfl)
    (case a36 => k_is)
    (case l36 => k_is)
    (case c36 => k_is)
    (case k36 => k_is)
    (case u36 => k_is)
    (case v36 => exact rfl)
    (case n36 => first | kernel_rfl | exact rfl | with_unfolding_all rfl)
    (case xC => k_is)
    (case pgC => k_is)
    (case hdC => k_is)
    (case poC => k_is)
    (case saC => k_is)
    (case mkC => k_is)
    (case kcC => k_is)
    (case noCsize => k_is)
    (case noClimit => k_is)
    (case noClengths => k_is)
    (case noCbudget => k_is)
    (case a37 => k_is)
    (case i37 => k_is)
    (case l37 => k_is)
    (case c37 => k_is)
    (case k37 => k_is)
    (case xO => k_is)
    (case pgO => k_is)
    (case hdO => k_is)
    (case poO => k_is)
    (case saO => k_is)
    (case mkO => k_is)
    (case kcO => k_is)
    (case noOreleased => k_is)
    (case noOanswered => k_is)
    (case a38 => k_is)
    (case i38 => k_is)
    (case l38 => k_is)
    (case c38 => k_is)
    (case k38 => k_is)
    (case a39 => k_is)
    (case i39 => k_is)
    (case l39 => k_is)
    (case c39 => k_is)
    (case k39 => k_is)
    (case xGm => k_is)
    (case pgGm => k_is)
    (case hdGm => k_is)
    (case poGm => k_is)
    (case saGm => k_is)
    (case mkGm => k_is)
    (case kcGm => k_is)
    (case noGmcontract => k_is)
    (case noGmranks => k_is)
    (case a40 => k_is)
    (case i40 => k_is)
    (case l40 => k_is)
    (case c40 => k_is)
    (case k40 => k_is)
    (case a41 => k_is)
    (case i41 => k_is)
    (case l41 => k_is)
    (case c41 => k_is)
    (case k41 => k_is)
    (case a42 => k_is)
    (case i42 => k_is)
    (case l42 => k_is)
    (case c42 => k_is)
    (case k42 => k_is)
    (case a43 => k_is)
    (case i43 => k_is)
    (case l43 => k_is)
    (case c43 => k_is)
    (case k43 => k_is)
    (case a44 => k_is)
    (case i44 => k_is)
    (case l44 => k_is)
    (case c44 => k_is)
    (case k44 => k_is)
    (case a45 => k_is)
    (case i45 => k_is)
    (case l45 => k_is)
    (case c45 => k_is)
    (case k45 => k_is)
    (case xTc => k_is)
    (case pgTc => k_is)
    (case hdTc => k_is)
    (case poTc => k_is)
    (case saTc => k_is)
    (case mkTc => k_is)
    (case kcTc => k_is)
    (case noTcnumbers => k_is)
    (case noTcotherwise => k_is)
    (case a46 => k_is)
    (case i46 => k_is)
    (case l46 => k_is)
    (case c46 => k_is)
    (case k46 => k_is)
    (case a47 => k_is)
    (case i47 => k_is)
    (case l47 => k_is)
    (case c47 => k_is)
    (case k47 => k_is)
    (case zlen => k_is)
    (case zsum => k_is)
    (case zall => k_is)
    (case zany => k_is)
    (case zrange => k_is)
    (case zsorted => k_is)
    (case zzip => k_is)
    (case ztuple => k_is)
    (case zlist => k_is)
    (case zint => k_is)
    (case zset => k_is)
    (case zdict => k_is)
