import PyProof.Rows.All
import PySem.Challenge.RW_rungfields_k05_values_slopes_and_put_in
import Wide.All
import OpenK.AllK
import Wide.FinOn
import HandS.ForMost
import HandS.ForExc
import HandS.Evl
import HandS.Walk
import HandS.CallSlots
import HandS.Lambda
import HandS.HeadHook4
import HandS.TupAny
import HandS.TupMul
import HandS.IsInst
import HandS.Wide
import HandS.WideMore
import HandS.Flow
import HandS.More
import HandS.Zip
import KE.GoesEnum
import HandS.Defaults
import HandS.ExcField
import HandS.ExcInit
import HandS.TryMany
import KE.KTryMore
import HandS.ClsMeth
import HandS.HeadWalk
import HandS.Head0
import HandS.Head1
import HandS.Head2
import HandS.EndTab
import HandS.TryOnly
import HandS.Style
set_option Elab.async false
set_option linter.all false
set_option maxRecDepth 100000
set_option maxHeartbeats 4000000
namespace Rg
open PySem L2
abbrev Ex := Evl.Ex
theorem Ex.refl (H : Hp) : Ex H H := Evl.Ex.refl H
theorem Ex.trans {H H1 H2 : Hp} (a : Ex H H1) (b : Ex H1 H2) : Ex H H2 := Evl.Ex.trans a b
structure LamB where
  params : Arguments
  body : Expr
  scope : Scope
  qual : Str
inductive D where
  | non | bl (b : Bool) | int (i : Int) | str (s : Str) | tup (xs : List D) | lst (xs : List D) | scr (ns : List Int) | ty (n : String) | fn (k : Nat) (b : LamB) (z : List (Str × Addr))
deriving Inhabited
def LamO (f c : Addr) (b : LamB) (z : List (Str × Addr)) : HO := .ext fun h => ∃ pm ctv, h.get? f = some (PySem.W.kla_obj "<lambda>" b.qual b.params b.body b.scope (cloFrom z b.scope.names []) pm c ctv)
theorem lamO_lst {f c : Addr} {b : LamB} {z : List (Str × Addr)} {vs : List V} : LamO f c b z ≠ .lst vs := fun q => by
  unfold LamO at q
  cases q
theorem lamO_tbl {f c : Addr} {b : LamB} {z : List (Str × Addr)} {vs : Array Value} : LamO f c b z ≠ .tbl vs := fun q => by
  unfold LamO at q
  cases q
theorem codeO_lst {c : Addr} {q : Str} {vs : List V} : LamX.CodeO c q ≠ .lst vs := fun z => by
  unfold LamX.CodeO at z
  cases z
mutual
inductive Rp (K : PySem.W.Frag) (F : Hp) : V → D → Prop
  | non : Rp K F .non .non
  | bl (b : Bool) : Rp K F (.bl b) (.bl b)
  | int (i : Int) : Rp K F (.int i) (.int i)
  | str (x : Str) : Rp K F (.str x) (.str x)
  | tup {a : Addr} {xs : List V} {ds : List D} : SqT K F a xs → RpA K F xs ds → Rp K F (.ref a) (.tup ds)
  | lst {a : Addr} {xs : List V} {ds : List D} : F a = some (.lst xs) → RpA K F xs ds → Rp K F (.ref a) (.lst ds)
  | ty (n : String) : Rp K F (.ty n) (.ty n)
  | fn {f c : Addr} {k : Nat} {b : LamB} {z : List (Str × Addr)} : F f = some (LamO f c b z) → F c = some (LamX.CodeO c b.qual) → Rp K F (.ref f) (.fn k b z)
  | scr {a : Addr} (ns : List Int) : SqL K F a (ns.map V.int) → Rp K F (.ref a) (.scr ns)
inductive RpA (K : PySem.W.Frag) (F : Hp) : List V → List D → Prop
  | nil : RpA K F [] []
  | cons {v : V} {vs : List V} {d : D} {ds : List D} : Rp K F v d → RpA K F vs ds → RpA K F (v :: vs) (d :: ds)
end
section
variable {K : PySem.W.Frag} {F F' : Hp}
mutual
theorem Rp.mono (e : Ex F F') : ∀ {v : V} {d : D}, Rp K F v d → Rp K F' v d
  | _, _, .non => .non
  | _, _, .bl b => .bl b
  | _, _, .int i => .int i
  | _, _, .str x => .str x
  | _, _, .tup h a => .tup (Evl.ex_t e h) (RpA.mono e a)
  | _, _, .lst h a => .lst (e _ _ h) (RpA.mono e a)
  | _, _, .scr ns h => .scr ns (Evl.ex_l e h)
  | _, _, .ty n => .ty n
  | _, _, .fn h h2 => .fn (e _ _ h) (e _ _ h2)
theorem RpA.mono (e : Ex F F') : ∀ {vs : List V} {ds : List D}, RpA K F vs ds → RpA K F' vs ds
  | _, _, .nil => .nil
  | _, _, .cons h a => .cons (Rp.mono e h) (RpA.mono e a)
end
theorem RpA.length : ∀ {vs : List V} {ds : List D}, RpA K F vs ds → vs.length = ds.length
  | _, _, .nil => rfl
  | _, _, .cons _ a => by simp [RpA.length a]
theorem RpA.get : ∀ {vs : List V} {ds : List D} {i : Nat} {d : D}, RpA K F vs ds → ds[i]? = some d → ∃ v, vs[i]? = some v ∧ Rp K F v d
  | _, _, _, _, .nil, e => by simp at e
  | _, _, 0, _, .cons h _, e => by simp at e; subst e; exact ⟨_, rfl, h⟩
  | _, _, i + 1, d, .cons _ a, e => by
    obtain ⟨v, h1, h2⟩ := RpA.get (i := i) a (by simpa using e)
    exact ⟨v, by simpa using h1, h2⟩
theorem RpA.getV : ∀ {vs : List V} {ds : List D} {i : Nat} {v : V}, RpA K F vs ds → vs[i]? = some v → ∃ d, ds[i]? = some d ∧ Rp K F v d
  | _, _, _, _, .nil, e => by simp at e
  | _, _, 0, _, .cons h _, e => by simp at e; subst e; exact ⟨_, rfl, h⟩
  | _, _, i + 1, d, .cons _ a, e => by
    obtain ⟨v, h1, h2⟩ := RpA.getV (i := i) a (by simpa using e)
    exact ⟨v, by simpa using h1, h2⟩
theorem RpA.append : ∀ {vs ws : List V} {ds es : List D}, RpA K F vs ds → RpA K F ws es → RpA K F (vs ++ ws) (ds ++ es)
  | _, _, _, _, .nil, h => h
  | _, _, _, _, .cons h a, b => .cons h (RpA.append a b)
theorem RpA.set {v : V} {d : D} (h : Rp K F v d) : ∀ {vs : List V} {ds : List D} (i : Nat), RpA K F vs ds → RpA K F (vs.set i v) (ds.set i d)
  | _, _, _, .nil => .nil
  | _, _, 0, .cons _ a => .cons h a
  | _, _, i + 1, .cons q a => .cons q (RpA.set h i a)
theorem RpA.take : ∀ {vs : List V} {ds : List D} (n : Nat), RpA K F vs ds → RpA K F (vs.take n) (ds.take n)
  | _, _, 0, _ => by simp; exact .nil
  | _, _, _ + 1, .nil => .nil
  | _, _, n + 1, .cons h a => .cons h (RpA.take n a)
theorem RpA.drop : ∀ {vs : List V} {ds : List D} (n : Nat), RpA K F vs ds → RpA K F (vs.drop n) (ds.drop n)
  | _, _, 0, h => h
  | _, _, _ + 1, .nil => .nil
  | _, _, n + 1, .cons _ a => RpA.drop n a
theorem RpA.reverse : ∀ {vs : List V} {ds : List D}, RpA K F vs ds → RpA K F vs.reverse ds.reverse
  | _, _, .nil => .nil
  | _, _, .cons h a => by simp only [List.reverse_cons]; exact (RpA.reverse a).append (.cons h .nil)
theorem RpA.rep {vs : List V} {ds : List D} (h : RpA K F vs ds) : ∀ n : Nat, RpA K F (List.replicate n vs).flatten (List.replicate n ds).flatten
  | 0 => .nil
  | n + 1 => by simp only [List.replicate_succ, List.flatten_cons]; exact h.append (RpA.rep h n)
theorem RpA.dropLast {vs : List V} {ds : List D} (h : RpA K F vs ds) : RpA K F vs.dropLast ds.dropLast := by
  rw [List.dropLast_eq_take, List.dropLast_eq_take, h.length]; exact h.take _
theorem RpA.ints : ∀ {ns : List Int}, RpA K F (ns.map V.int) (ns.map D.int)
  | [] => .nil
  | n :: ns => .cons (.int n) RpA.ints
theorem RpA.toInts : ∀ {vs : List V} {ns : List Int}, RpA K F vs (ns.map D.int) → vs = ns.map V.int
  | _, [], .nil => rfl
  | _, n :: ns, .cons (.int _) a => by rw [RpA.toInts a]; rfl
theorem RpA.toBls : ∀ {vs : List V} {ns : List Bool}, RpA K F vs (ns.map D.bl) → vs = ns.map V.bl
  | _, [], .nil => rfl
  | _, n :: ns, .cons (.bl _) a => by rw [RpA.toBls a]; rfl
end
inductive Sl where
  | no | v (d : D) | o (xs : List D)
deriving Inhabited
abbrev Env := List Sl
def gt : Env → Nat → Sl
  | [], _ => .no
  | s :: _, 0 => s
  | _ :: Γ, i + 1 => gt Γ i
theorem gt_set_same {s : Sl} : ∀ {Γ : Env} {i : Nat}, i < Γ.length → gt (Γ.set i s) i = s
  | [], _, h => by simp at h
  | _ :: _, 0, _ => rfl
  | _ :: Γ, i + 1, h => gt_set_same (Γ := Γ) (i := i) (by simpa using h)
theorem gt_set_ne {s : Sl} : ∀ {Γ : Env} {i j : Nat}, j ≠ i → gt (Γ.set i s) j = gt Γ j
  | [], _, _, _ => rfl
  | _ :: _, 0, 0, h => absurd rfl h
  | _ :: _, 0, _ + 1, _ => rfl
  | _ :: _, _ + 1, 0, _ => rfl
  | _ :: Γ, i + 1, j + 1, h => gt_set_ne (Γ := Γ) (fun e => h (by rw [e]))
theorem gt_lt {s : Sl} : ∀ {Γ : Env} {i : Nat}, gt Γ i = s → s ≠ .no → i < Γ.length
  | [], _, h, n => absurd h.symm n
  | _ :: _, 0, _, _ => by simp
  | _ :: Γ, i + 1, h, n => by
    have := gt_lt (Γ := Γ) (i := i) h n
    simpa using this
def makers : List Str := ["law", "in_rank", "_law_doors", "_law_ends", "Tower.parts", "_law_power_twice", "_law_in_order", "_law_tall", "_law_outward", "_law_tree_of", "_law_worths", "_law_formula_due", "_law_first_met", "_law_act", "_law_turn", "_law_many", "_law_tower_lists", "_law_seen_right", "_law_seen_behind", "_law_done_row", "_law_page_at_bounds", "_law_asked", "_law_causes"]
def lamQ (q : Str) : Str := q ++ ".<locals>." ++ "<lambda>"
def tabsOf (K : PySem.W.Frag) : List (Addr × Str) := K.filterMap fun q => match q.2.data with
  | .func fd => if makers.contains fd.qualname then (match fd.code with
    | .ref c => some (He.tabOf K c, lamQ fd.qualname)
    | _ => none) else none
  | _ => none
structure Tb (K : PySem.W.Frag) (F G H : Hp) : Prop where
  t : LamX.Tabs (tabsOf K) H
  nf : ∀ b ps, F b ≠ some (.tbl ps)
  ng : ∀ b o, G b = some o → ∃ vs, o = .lst vs
theorem Tb.to {K : PySem.W.Frag} {F G H F' G' H' : Hp} (x : Tb K F G H) (k : ∀ b o, H b = some o → (∀ vs, o ≠ .lst vs) → H' b = some o) (nf : ∀ b ps, F' b ≠ some (.tbl ps)) (ng : ∀ b o, G' b = some o → ∃ vs, o = .lst vs) : Tb K F' G' H' := by
  refine ⟨fun p hp => ?_, nf, ng⟩
  obtain ⟨ps, h1, h2, h3⟩ := x.t p hp
  refine ⟨ps, k _ _ h1 (fun _ z => by cases z), h2, fun pos cv hc => ?_⟩
  obtain ⟨c, e1, e2⟩ := h3 pos cv hc
  exact ⟨c, e1, k _ _ e2 fun _ => codeO_lst⟩
theorem nf_upd {F : Hp} {p : Addr} {o : HO} (h : ∀ b ps, F b ≠ some (.tbl ps)) (ho : ∀ ps, o ≠ .tbl ps) : ∀ b ps, upd F p o b ≠ some (.tbl ps) := fun b ps q => by
  by_cases hb : b = p
  · subst hb; rw [upd_same] at q; cases q; exact ho ps rfl
  · rw [upd_ne hb] at q; exact h b ps q
theorem ng_upd {G : Hp} {p : Addr} {vs : List V} (h : ∀ b o, G b = some o → ∃ vs, o = HO.lst vs) : ∀ b o, upd G p (.lst vs) b = some o → ∃ vs, o = HO.lst vs := fun b o q => by
  by_cases hb : b = p
  · subst hb; rw [upd_same] at q; cases q; exact ⟨_, rfl⟩
  · rw [upd_ne hb] at q; exact h b o q
theorem keep_upd {H : Hp} {p : Addr} {u : HO} (h : H p = none) : ∀ b o, H b = some o → (∀ vs, o ≠ HO.lst vs) → upd H p u b = some o := fun b o q _ => by
  rw [upd_ne fun z => by rw [z, h] at q; cases q]; exact q
theorem keep_mut {H : Hp} {p : Addr} {u : HO} {ws : List V} (h : H p = some (.lst ws)) : ∀ b o, H b = some o → (∀ vs, o ≠ HO.lst vs) → upd H p u b = some o := fun b o q n => by
  rw [upd_ne fun z => by rw [z, h] at q; cases q; exact n ws rfl]; exact q
structure Wd (K : PySem.W.Frag) (F G H : Hp) : Prop where
  f : Ex F H
  g : Ex G H
  d : ∀ b, F b = none ∨ G b = none
  tb : Tb K F G H
def jn (A B : Hp) : Hp := fun b => match A b with | some o => some o | none => B b
theorem jn_l {A B : Hp} {b : Addr} {o : HO} (h : A b = some o) : jn A B b = some o := by unfold jn; rw [h]
theorem jn_r {A B : Hp} {b : Addr} (h : A b = none) : jn A B b = B b := by unfold jn; rw [h]
theorem jn_none {A B : Hp} {b : Addr} : jn A B b = none ↔ A b = none ∧ B b = none := by
  unfold jn
  cases h : A b <;> simp
theorem ex_jn_l {A B : Hp} : Ex A (jn A B) := fun _ _ h => jn_l h
theorem ex_jn {A B H : Hp} (a : Ex A H) (b : Ex B H) : Ex (jn A B) H := fun c o h => by
  cases q : A c with
  | none => rw [jn_r q] at h; exact b c o h
  | some u => rw [jn_l q] at h; cases h; exact a c _ q
structure RelX (K : PySem.W.Frag) (a0 : Addr) (G : Hp) (Γ : Env) (σ : L2.St) (H F O : Hp) (ad : Nat → Addr) : Prop where
  wd : Wd K F G H
  o : Ex O H
  fo : ∀ b, F b = none ∨ O b = none
  go : ∀ b, G b = none ∨ O b = none
  v : ∀ i d, gt Γ i = .v d → ∃ v, σ[i]? = some (some v) ∧ Rp K F v d
  ow : ∀ i xs, gt Γ i = .o xs → σ[i]? = some (some (.ref (ad i))) ∧ ∃ vs, O (ad i) = some (.lst vs) ∧ RpA K F vs xs
  inj : ∀ i j xs ys, gt Γ i = .o xs → gt Γ j = .o ys → ad i = ad j → i = j
  z : ∀ xs, gt Γ 0 = .o xs → ad 0 = a0
  len : Γ.length = σ.length
  ol : ∀ b o, O b = some o → ∃ vs, o = .lst vs
def Rel (K : PySem.W.Frag) (a0 : Addr) (G : Hp) (Γ : Env) (σ : L2.St) (H F : Hp) : Prop := ∃ O ad, RelX K a0 G Γ σ H F O ad
theorem none_of_ex {A H : Hp} {p : Addr} (e : Ex A H) (h : H p = none) : A p = none := Evl.fresh_back e h
theorem ex_upd {A H : Hp} {p : Addr} {o : HO} (e : Ex A H) (h : A p = none) : Ex A (upd H p o) := Evl.Ex.mut e h
theorem ex_upd2 {A H : Hp} {p : Addr} {o : HO} (e : Ex A H) : Ex (upd A p o) (upd H p o) := fun b u h => by
  by_cases hb : b = p
  · subst hb; rw [upd_same] at h ⊢; exact h
  · rw [upd_ne hb] at h ⊢; exact e b u h
theorem ex_updL {A H : Hp} {p : Addr} {o : HO} (e : Ex A H) (h : H p = some o) : Ex (upd A p o) H := fun b u hb => by
  by_cases q : b = p
  · subst q; rw [upd_same] at hb; cases hb; exact h
  · rw [upd_ne q] at hb; exact e b u hb
theorem ex_new {A : Hp} {p : Addr} {o : HO} (h : A p = none) : Ex A (upd A p o) := Evl.Ex.new h
theorem dj_upd {A B : Hp} {p : Addr} {o : HO} (d : ∀ b, A b = none ∨ B b = none) (h : B p = none) : ∀ b, upd A p o b = none ∨ B b = none := fun b => by
  by_cases hb : b = p
  · subst hb; exact .inr h
  · rw [upd_ne hb]; exact d b
theorem dj_upd' {A B : Hp} {p : Addr} {o : HO} (d : ∀ b, A b = none ∨ B b = none) (h : A p = none) : ∀ b, A b = none ∨ upd B p o b = none := fun b => by
  by_cases hb : b = p
  · subst hb; exact .inl h
  · rw [upd_ne hb]; exact d b
theorem ol_upd {O : Hp} {p : Addr} {vs : List V} (h : ∀ b o, O b = some o → ∃ vs, o = HO.lst vs) : ∀ b o, upd O p (.lst vs) b = some o → ∃ vs, o = HO.lst vs := fun b o q => by
  by_cases hb : b = p
  · subst hb; rw [upd_same] at q; cases q; exact ⟨_, rfl⟩
  · rw [upd_ne hb] at q; exact h b o q
theorem ng_jn {A B : Hp} (a : ∀ b o, A b = some o → ∃ vs, o = HO.lst vs) (h : ∀ b o, B b = some o → ∃ vs, o = HO.lst vs) : ∀ b o, jn A B b = some o → ∃ vs, o = HO.lst vs := fun b o q => by
  cases e : A b with
  | none => rw [jn_r e] at q; exact h b o q
  | some u => rw [jn_l e] at q; cases q; exact a b _ e
theorem nf_jn {A B : Hp} (a : ∀ b ps, A b ≠ some (.tbl ps)) (h : ∀ b o, B b = some o → ∃ vs, o = HO.lst vs) : ∀ b ps, jn A B b ≠ some (.tbl ps) := fun b ps q => by
  cases e : A b with
  | none =>
    rw [jn_r e] at q
    obtain ⟨vs, z⟩ := h b _ q
    cases z
  | some u => rw [jn_l e] at q; cases q; exact a b _ e
section
variable {K : PySem.W.Frag} {a0 : Addr} {G : Hp} {Γ : Env} {σ : L2.St} {H F : Hp}
theorem Rel.wd (r : Rel K a0 G Γ σ H F) : Wd K F G H := let ⟨_, _, x⟩ := r; x.wd
theorem Rel.getv (r : Rel K a0 G Γ σ H F) {i : Nat} {d : D} (h : gt Γ i = .v d) : ∃ v, σ[i]? = some (some v) ∧ Rp K F v d := let ⟨_, _, x⟩ := r; x.v i d h
theorem Rel.geto (r : Rel K a0 G Γ σ H F) {i : Nat} {xs : List D} (h : gt Γ i = .o xs) : ∃ p vs, σ[i]? = some (some (.ref p)) ∧ H p = some (.lst vs) ∧ RpA K F vs xs ∧ F p = none ∧ G p = none := by
  obtain ⟨O, ad, x⟩ := r
  obtain ⟨h1, vs, h2, h3⟩ := x.ow i xs h
  refine ⟨ad i, vs, h1, x.o _ _ h2, h3, ?_, ?_⟩
  · exact (x.fo (ad i)).elim id fun q => by rw [h2] at q; cases q
  · exact (x.go (ad i)).elim id fun q => by rw [h2] at q; cases q
theorem Rel.newF {p : Addr} {o : HO} (r : Rel K a0 G Γ σ H F) (h : H p = none) (ho : ∀ ps, o ≠ .tbl ps := by intro _ z; cases z) : Ex F (upd F p o) ∧ Rel K a0 G Γ σ (upd H p o) (upd F p o) := by
  obtain ⟨O, ad, x⟩ := r
  have hF := none_of_ex x.wd.f h
  have hG := none_of_ex x.wd.g h
  have hO := none_of_ex x.o h
  have e : Ex F (upd F p o) := ex_new hF
  refine ⟨e, O, ad, ⟨⟨ex_upd2 x.wd.f, ex_upd x.wd.g hG, dj_upd x.wd.d hG, x.wd.tb.to (keep_upd h) (nf_upd x.wd.tb.nf ho) x.wd.tb.ng⟩, ex_upd x.o hO, dj_upd x.fo hO, x.go, fun i d q => ?_, fun i xs q => ?_, x.inj, x.z, x.len, x.ol⟩⟩
  · obtain ⟨v, h1, h2⟩ := x.v i d q; exact ⟨v, h1, h2.mono e⟩
  · obtain ⟨h1, vs, h2, h3⟩ := x.ow i xs q; exact ⟨h1, vs, h2, h3.mono e⟩
theorem Rel.newT {p : Addr} {vs : List V} (r : Rel K a0 G Γ σ H F) (h : H p = none) : G p = none ∧ Rel K a0 (upd G p (.lst vs)) Γ σ (upd H p (.lst vs)) F := by
  obtain ⟨O, ad, x⟩ := r
  have hF := none_of_ex x.wd.f h
  have hG := none_of_ex x.wd.g h
  have hO := none_of_ex x.o h
  exact ⟨hG, O, ad, ⟨⟨ex_upd x.wd.f hF, ex_upd2 x.wd.g, dj_upd' x.wd.d hF, x.wd.tb.to (keep_upd h) x.wd.tb.nf (ng_upd x.wd.tb.ng)⟩, ex_upd x.o hO, x.fo, dj_upd x.go hO, x.v, x.ow, x.inj, x.z, x.len, x.ol⟩⟩
theorem Rel.frzT {p : Addr} {o : HO} (r : Rel K a0 (upd G p o) Γ σ H F) (h : G p = none) : Ex F (upd F p o) ∧ Rel K a0 G Γ σ H (upd F p o) := by
  obtain ⟨O, ad, x⟩ := r
  have hp : upd G p o p = some o := upd_same
  have hH : H p = some o := x.wd.g p o hp
  have hF : F p = none := (x.wd.d p).elim id fun q => by rw [hp] at q; cases q
  have hO : O p = none := (x.go p).elim (fun q => by rw [hp] at q; cases q) id
  have e : Ex F (upd F p o) := ex_new hF
  have eG : Ex G (upd G p o) := ex_new h
  refine ⟨e, O, ad, ⟨⟨ex_updL x.wd.f hH, Ex.trans eG x.wd.g, fun b => ?_, x.wd.tb.to (fun _ _ q _ => q) (nf_upd x.wd.tb.nf fun ps z => by obtain ⟨vs, q⟩ := x.wd.tb.ng p o hp; rw [z] at q; cases q) (fun b u q => x.wd.tb.ng b u (eG b u q))⟩, x.o, dj_upd x.fo hO, fun b => ?_, fun i d q => ?_, fun i xs q => ?_, x.inj, x.z, x.len, x.ol⟩⟩
  · by_cases hb : b = p
    · subst hb; exact .inr h
    · rw [upd_ne hb]
      exact (x.wd.d b).elim .inl fun q => .inr (by rw [upd_ne hb] at q; exact q)
  · by_cases hb : b = p
    · subst hb; exact .inl h
    · exact (x.go b).elim (fun q => .inl (by rw [upd_ne hb] at q; exact q)) .inr
  · obtain ⟨v, h1, h2⟩ := x.v i d q; exact ⟨v, h1, h2.mono e⟩
  · obtain ⟨h1, vs, h2, h3⟩ := x.ow i xs q; exact ⟨h1, vs, h2, h3.mono e⟩
theorem Rel.setv {i : Nat} {v : V} {d : D} (r : Rel K a0 G Γ σ H F) (h : Rp K F v d) : Rel K a0 G (Γ.set i (.v d)) (σ.set i (some v)) H F := by
  obtain ⟨O, ad, x⟩ := r
  refine ⟨O, ad, ⟨x.wd, x.o, x.fo, x.go, fun j e q => ?_, fun j xs q => ?_, fun j k xs ys q1 q2 q3 => ?_, fun xs q => ?_, by simpa using x.len, x.ol⟩⟩
  · by_cases hj : j = i
    · subst hj
      have hl : j < Γ.length := by simpa using gt_lt q (by simp)
      rw [gt_set_same hl] at q
      cases q
      exact ⟨v, by rw [List.getElem?_set_self (by rw [← x.len]; exact hl)], h⟩
    · rw [gt_set_ne hj] at q
      rw [List.getElem?_set_ne (Ne.symm hj)]
      exact x.v j e q
  · have hj : j ≠ i := fun z => by
      subst z
      have hl : j < Γ.length := by simpa using gt_lt q (by simp)
      rw [gt_set_same hl] at q; cases q
    rw [gt_set_ne hj] at q
    rw [List.getElem?_set_ne (Ne.symm hj)]
    exact x.ow j xs q
  · have key : ∀ {j xs}, gt (Γ.set i (.v d)) j = .o xs → gt Γ j = .o xs := fun {j xs} q => by
      have hj : j ≠ i := fun z => by
        subst z
        have hl : j < Γ.length := by simpa using gt_lt q (by simp)
        rw [gt_set_same hl] at q; cases q
      rwa [gt_set_ne hj] at q
    exact x.inj j k xs ys (key q1) (key q2) q3
  · have hj : (0 : Nat) ≠ i := fun z => by
      subst z
      have hl : 0 < Γ.length := by simpa using gt_lt q (by simp)
      rw [gt_set_same hl] at q; cases q
    rw [gt_set_ne hj] at q
    exact x.z xs q
theorem Rel.seto {i : Nat} {p : Addr} {vs : List V} {xs : List D} (hi : 0 < i) (hG : G p = none) (r : Rel K a0 (upd G p (.lst vs)) Γ σ H F) (h : RpA K F vs xs) : Rel K a0 G (Γ.set i (.o xs)) (σ.set i (some (.ref p))) H F := by
  obtain ⟨O, ad, x⟩ := r
  have hp : upd G p (.lst vs) p = some (.lst vs) := upd_same
  have hH : H p = some (.lst vs) := x.wd.g p _ hp
  have hF : F p = none := (x.wd.d p).elim id fun q => by rw [hp] at q; cases q
  have hO : O p = none := (x.go p).elim (fun q => by rw [hp] at q; cases q) id
  have eG : Ex G (upd G p (.lst vs)) := ex_new hG
  have key : ∀ {j ys}, j ≠ i → gt (Γ.set i (.o xs)) j = .o ys → gt Γ j = .o ys := fun {j ys} hj q => by rwa [gt_set_ne hj] at q
  have nad : ∀ {j ys}, gt Γ j = .o ys → ad j ≠ p := fun {j ys} q z => by
    obtain ⟨_, ws, h2, _⟩ := x.ow j ys q
    rw [z, hO] at h2; cases h2
  refine ⟨upd O p (.lst vs), fun j => if j = i then p else ad j, ⟨⟨x.wd.f, Ex.trans eG x.wd.g, fun b => ?_, x.wd.tb.to (fun _ _ q _ => q) x.wd.tb.nf (fun b u q => x.wd.tb.ng b u (eG b u q))⟩, ex_updL x.o hH, fun b => ?_, fun b => ?_, fun j e q => ?_, fun j ys q => ?_, fun j k ys zs q1 q2 q3 => ?_, fun ys q => ?_, by simpa using x.len, ol_upd x.ol⟩⟩
  · exact (x.wd.d b).elim .inl fun q => .inr (none_of_ex eG q)
  · by_cases hb : b = p
    · subst hb; exact .inl hF
    · rw [upd_ne hb]; exact x.fo b
  · by_cases hb : b = p
    · subst hb; exact .inl hG
    · rw [upd_ne hb]; exact (x.go b).elim (fun q => .inl (none_of_ex eG q)) .inr
  · have hj : j ≠ i := fun z => by
      subst z
      have hl : j < Γ.length := by simpa using gt_lt q (by simp)
      rw [gt_set_same hl] at q; cases q
    rw [gt_set_ne hj] at q
    rw [List.getElem?_set_ne (Ne.symm hj)]
    exact x.v j e q
  · by_cases hj : j = i
    · subst hj
      have hl : j < Γ.length := by simpa using gt_lt q (by simp)
      rw [gt_set_same hl] at q
      cases q
      simp only [if_pos]
      exact ⟨by rw [List.getElem?_set_self (by rw [← x.len]; exact hl)], vs, upd_same, h⟩
    · have q' := key hj q
      obtain ⟨h1, ws, h2, h3⟩ := x.ow j ys q'
      simp only [if_neg hj]
      rw [List.getElem?_set_ne (Ne.symm hj)]
      exact ⟨h1, ws, by rw [upd_ne (nad q')]; exact h2, h3⟩
  · by_cases hj : j = i
    · by_cases hk : k = i
      · rw [hj, hk]
      · simp only [if_pos hj, if_neg hk] at q3
        exact absurd q3.symm (nad (key hk q2))
    · by_cases hk : k = i
      · simp only [if_neg hj, if_pos hk] at q3
        exact absurd q3 (nad (key hj q1))
      · simp only [if_neg hj, if_neg hk] at q3
        exact x.inj j k ys zs (key hj q1) (key hk q2) q3
  · have h0 : (0 : Nat) ≠ i := Nat.ne_of_lt hi
    simp only [if_neg h0]
    exact x.z ys (key h0 q)
theorem Rel.mut {i : Nat} {p : Addr} {vs : List V} {xs xs' : List D} (r : Rel K a0 G Γ σ H F) (g : gt Γ i = .o xs) (hp : σ[i]? = some (some (.ref p))) (h : RpA K F vs xs') : Rel K a0 G (Γ.set i (.o xs')) σ (upd H p (.lst vs)) F := by
  obtain ⟨O, ad, x⟩ := r
  obtain ⟨h1, ws, h2, h3⟩ := x.ow i xs g
  have e : ad i = p := by rw [h1] at hp; exact V.ref.inj (Option.some.inj (Option.some.inj hp))
  have hF : F p = none := (x.fo p).elim id fun q => by rw [← e, h2] at q; cases q
  have hG : G p = none := (x.go p).elim id fun q => by rw [← e, h2] at q; cases q
  have hl : i < Γ.length := gt_lt g (by simp)
  refine ⟨upd O p (.lst vs), ad, ⟨⟨ex_upd x.wd.f hF, ex_upd x.wd.g hG, x.wd.d, x.wd.tb.to (keep_mut (ws := ws) (by rw [← e]; exact x.o _ _ h2)) x.wd.tb.nf x.wd.tb.ng⟩, ex_upd2 x.o, dj_upd' x.fo hF, dj_upd' x.go hG, fun j d q => ?_, fun j ys q => ?_, fun j k ys zs q1 q2 q3 => ?_, fun ys q => ?_, by simpa using x.len, ol_upd x.ol⟩⟩
  · have hj : j ≠ i := fun z => by subst z; rw [gt_set_same hl] at q; cases q
    rw [gt_set_ne hj] at q
    exact x.v j d q
  · by_cases hj : j = i
    · subst hj
      rw [gt_set_same hl] at q
      cases q
      exact ⟨h1, vs, by rw [e]; exact upd_same, h⟩
    · rw [gt_set_ne hj] at q
      obtain ⟨a1, us, a2, a3⟩ := x.ow j ys q
      refine ⟨a1, us, ?_, a3⟩
      rw [upd_ne fun z => hj (x.inj j i ys xs q g (z.trans e.symm))]
      exact a2
  · have key : ∀ {j ys}, gt (Γ.set i (.o xs')) j = .o ys → ∃ zs, gt Γ j = .o zs := fun {j ys} q => by
      by_cases hj : j = i
      · subst hj; exact ⟨xs, g⟩
      · rw [gt_set_ne hj] at q; exact ⟨ys, q⟩
    obtain ⟨y1, e1⟩ := key q1
    obtain ⟨y2, e2⟩ := key q2
    exact x.inj j k y1 y2 e1 e2 q3
  · by_cases hj : 0 = i
    · subst hj; exact x.z xs g
    · rw [gt_set_ne hj] at q; exact x.z ys q
theorem Rel.frz {i : Nat} {xs : List D} (r : Rel K a0 G Γ σ H F) (g : gt Γ i = .o xs) : ∃ p vs, σ[i]? = some (some (.ref p)) ∧ Ex F (upd F p (.lst vs)) ∧ RpA K F vs xs ∧ Rel K a0 G (Γ.set i (.v (.lst xs))) σ H (upd F p (.lst vs)) := by
  obtain ⟨O, ad, x⟩ := r
  obtain ⟨h1, vs, h2, h3⟩ := x.ow i xs g
  have hF : F (ad i) = none := (x.fo (ad i)).elim id fun q => by rw [h2] at q; cases q
  have hG : G (ad i) = none := (x.go (ad i)).elim id fun q => by rw [h2] at q; cases q
  have hl : i < Γ.length := gt_lt g (by simp)
  have e : Ex F (upd F (ad i) (.lst vs)) := ex_new hF
  have key : ∀ {j ys}, gt (Γ.set i (.v (.lst xs))) j = .o ys → j ≠ i ∧ gt Γ j = .o ys := fun {j ys} q => by
    have hj : j ≠ i := fun z => by subst z; rw [gt_set_same hl] at q; cases q
    rw [gt_set_ne hj] at q
    exact ⟨hj, q⟩
  have eO : Ex (fun b => if b = ad i then none else O b) O := fun b u q => by
    by_cases hb : b = ad i
    · simp [hb] at q
    · simpa [hb] using q
  refine ⟨ad i, vs, h1, e, h3, fun b => if b = ad i then none else O b, ad, ⟨⟨ex_updL x.wd.f (x.o _ _ h2), x.wd.g, dj_upd x.wd.d hG, x.wd.tb.to (fun _ _ q _ => q) (nf_upd x.wd.tb.nf fun _ z => by cases z) x.wd.tb.ng⟩, Ex.trans eO x.o, fun b => ?_, fun b => ?_, fun j d q => ?_, fun j ys q => ?_, fun j k ys zs q1 q2 q3 => x.inj j k ys zs (key q1).2 (key q2).2 q3, fun ys q => x.z ys (key q).2, by simpa using x.len, fun b o q => x.ol b o (eO b o q)⟩⟩
  · by_cases hb : b = ad i
    · exact .inr (if_pos hb)
    · rw [upd_ne hb]; exact (x.fo b).elim .inl fun q => .inr (by simp [hb, q])
  · exact (x.go b).elim .inl fun q => .inr (by by_cases hb : b = ad i <;> simp [hb, q])
  · by_cases hj : j = i
    · subst hj
      rw [gt_set_same hl] at q
      cases q
      exact ⟨_, h1, .lst upd_same (h3.mono e)⟩
    · rw [gt_set_ne hj] at q
      obtain ⟨v, a1, a2⟩ := x.v j d q
      exact ⟨v, a1, a2.mono e⟩
  · obtain ⟨hj, q'⟩ := key q
    obtain ⟨a1, us, a2, a3⟩ := x.ow j ys q'
    refine ⟨a1, us, ?_, a3.mono e⟩
    show (if ad j = ad i then none else O (ad j)) = _
    rw [if_neg fun z => hj (x.inj j i ys xs q' g z)]
    exact a2
theorem Rel.split (r : Rel K a0 G Γ σ H F) : ∃ G', Ex G G' ∧ Wd K F G' H ∧ (∀ F' H', Ex F F' → Wd K F' G' H' → Rel K a0 G Γ σ H' F') ∧
    ∀ F' H' p o, Ex F F' → G' p = none → Wd K F' (upd G' p o) H' → G p = none ∧ Rel K a0 (upd G p o) Γ σ H' F' := by
  obtain ⟨O, ad, x⟩ := r
  have dj : ∀ b, F b = none ∨ jn G O b = none := fun b => (x.wd.d b).elim .inl fun q => (x.fo b).elim .inl fun q2 => .inr (jn_none.mpr ⟨q, q2⟩)
  have exO : Ex O (jn G O) := fun b o h => by rw [jn_r ((x.go b).elim id fun q => by rw [h] at q; cases q)]; exact h
  refine ⟨jn G O, ex_jn_l, ⟨x.wd.f, ex_jn x.wd.g x.o, dj, x.wd.tb.to (fun _ _ q _ => q) x.wd.tb.nf (ng_jn x.wd.tb.ng x.ol)⟩, fun F' H' e w => ?_, fun F' H' p o e hp w => ?_⟩
  · refine ⟨O, ad, ⟨⟨w.f, Ex.trans ex_jn_l w.g, fun b => (w.d b).elim .inl fun q => .inr (jn_none.mp q).1, w.tb.to (fun _ _ q _ => q) w.tb.nf (fun b u q => w.tb.ng b u (ex_jn_l b u q))⟩, Ex.trans exO w.g, fun b => (w.d b).elim .inl fun q => .inr (jn_none.mp q).2, x.go, fun i d q => ?_, fun i xs q => ?_, x.inj, x.z, x.len, x.ol⟩⟩
    · obtain ⟨v, h1, h2⟩ := x.v i d q; exact ⟨v, h1, h2.mono e⟩
    · obtain ⟨h1, vs, h2, h3⟩ := x.ow i xs q; exact ⟨h1, vs, h2, h3.mono e⟩
  · obtain ⟨g1, g2⟩ := jn_none.mp hp
    have eG : Ex (upd G p o) (upd (jn G O) p o) := ex_upd2 ex_jn_l
    have eO : Ex O (upd (jn G O) p o) := ex_upd exO g2
    refine ⟨g1, O, ad, ⟨⟨w.f, Ex.trans eG w.g, fun b => (w.d b).elim .inl fun q => .inr (none_of_ex eG q), w.tb.to (fun _ _ q _ => q) w.tb.nf (fun b u q => w.tb.ng b u (eG b u q))⟩, Ex.trans eO w.g, fun b => (w.d b).elim .inl fun q => .inr (none_of_ex eO q), dj_upd x.go g2, fun i d q => ?_, fun i xs q => ?_, x.inj, x.z, x.len, x.ol⟩⟩
    · obtain ⟨v, h1, h2⟩ := x.v i d q; exact ⟨v, h1, h2.mono e⟩
    · obtain ⟨h1, vs, h2, h3⟩ := x.ow i xs q; exact ⟨h1, vs, h2, h3.mono e⟩
theorem Rel.io {i : Nat} {xs : List D} (r : Rel K a0 G Γ σ H F) (g : gt Γ i = .o xs) : ∃ p ws G', σ[i]? = some (some (.ref p)) ∧ Ex G G' ∧ Wd K F G' H ∧ F p = none ∧ G' p = none ∧ H p = some (.lst ws) ∧ RpA K F ws xs ∧
    (∀ F' H' ws' xs', Ex F F' → Wd K F' G' H' → F' p = none → H' p = some (.lst ws') → RpA K F' ws' xs' → Rel K a0 G (Γ.set i (.o xs')) σ H' F') ∧
    ∀ F' H' ws' xs' q o, Ex F F' → G' q = none → q ≠ p → Wd K F' (upd G' q o) H' → F' p = none → H' p = some (.lst ws') → RpA K F' ws' xs' → G q = none ∧ Rel K a0 (upd G q o) (Γ.set i (.o xs')) σ H' F' := by
  obtain ⟨O, ad, x⟩ := r
  obtain ⟨h1, ws, h2, h3⟩ := x.ow i xs g
  have hF : F (ad i) = none := (x.fo (ad i)).elim id fun q => by rw [h2] at q; cases q
  have hG : G (ad i) = none := (x.go (ad i)).elim id fun q => by rw [h2] at q; cases q
  have hl : i < Γ.length := gt_lt g (by simp)
  have eO : Ex (fun b => if b = ad i then none else O b) O := fun b u q => by
    by_cases hb : b = ad i
    · simp [hb] at q
    · simpa [hb] using q
  have exO : Ex (fun b => if b = ad i then none else O b) (jn G (fun b => if b = ad i then none else O b)) := fun b o h => by
    rw [jn_r ((x.go b).elim id fun q => by rw [eO b o h] at q; cases q)]; exact h
  have dj : ∀ b, F b = none ∨ jn G (fun b => if b = ad i then none else O b) b = none := fun b =>
    (x.wd.d b).elim .inl fun q => (x.fo b).elim .inl fun q2 => .inr (jn_none.mpr ⟨q, none_of_ex eO q2⟩)
  have hJ : jn G (fun b => if b = ad i then none else O b) (ad i) = none := jn_none.mpr ⟨hG, if_pos rfl⟩
  -- the rebuilt relation, over a frame GG that extends G
  have back : ∀ (GG : Hp) (F' H' : Hp) (ws' : List V) (xs' : List D), Ex F F' → Wd K F' GG H' → Ex (fun b => if b = ad i then none else O b) H' → (∀ b, F' b = none ∨ (fun b => if b = ad i then none else O b) b = none) →
      (∀ b, GG b = none ∨ (fun b => if b = ad i then none else O b) b = none) → GG (ad i) = none → F' (ad i) = none → H' (ad i) = some (.lst ws') → RpA K F' ws' xs' → Rel K a0 GG (Γ.set i (.o xs')) σ H' F' := by
    intro GG F' H' ws' xs' e w hO dF dG hGG hF' hH' hR
    have key : ∀ {j ys}, gt (Γ.set i (.o xs')) j = .o ys → ∃ zs, gt Γ j = .o zs := fun {j ys} q => by
      by_cases hj : j = i
      · subst hj; exact ⟨xs, g⟩
      · rw [gt_set_ne hj] at q; exact ⟨ys, q⟩
    refine ⟨upd (fun b => if b = ad i then none else O b) (ad i) (.lst ws'), ad, ⟨w, ex_updL hO hH', dj_upd' dF hF', dj_upd' dG hGG, fun j d q => ?_, fun j ys q => ?_, fun j k ys zs q1 q2 q3 => ?_, fun ys q => ?_, by simpa using x.len, ol_upd fun b o q => x.ol b o (eO b o q)⟩⟩
    · have hj : j ≠ i := fun z => by subst z; rw [gt_set_same hl] at q; cases q
      rw [gt_set_ne hj] at q
      obtain ⟨v, a1, a2⟩ := x.v j d q
      exact ⟨v, a1, a2.mono e⟩
    · by_cases hj : j = i
      · subst hj
        rw [gt_set_same hl] at q
        cases q
        exact ⟨h1, ws', upd_same, hR⟩
      · rw [gt_set_ne hj] at q
        obtain ⟨a1, us, a2, a3⟩ := x.ow j ys q
        have na : ad j ≠ ad i := fun z => hj (x.inj j i ys xs q g z)
        refine ⟨a1, us, ?_, a3.mono e⟩
        rw [upd_ne na]
        show (if ad j = ad i then none else O (ad j)) = _
        rw [if_neg na]
        exact a2
    · obtain ⟨y1, e1⟩ := key q1
      obtain ⟨y2, e2⟩ := key q2
      exact x.inj j k y1 y2 e1 e2 q3
    · obtain ⟨y1, e1⟩ := key q
      exact x.z y1 e1
  refine ⟨ad i, ws, jn G (fun b => if b = ad i then none else O b), h1, ex_jn_l, ⟨x.wd.f, ex_jn x.wd.g (Ex.trans eO x.o), dj, x.wd.tb.to (fun _ _ q _ => q) x.wd.tb.nf (ng_jn x.wd.tb.ng fun b o q => x.ol b o (eO b o q))⟩, hF, hJ, x.o _ _ h2, h3, fun F' H' ws' xs' e w hF' hH' hR => ?_, fun F' H' ws' xs' q o e hq hne w hF' hH' hR => ?_⟩
  · exact back G F' H' ws' xs' e ⟨w.f, Ex.trans ex_jn_l w.g, fun b => (w.d b).elim .inl fun q => .inr (jn_none.mp q).1, w.tb.to (fun _ _ q _ => q) w.tb.nf (fun b u q => w.tb.ng b u (ex_jn_l b u q))⟩ (Ex.trans exO w.g) (fun b => (w.d b).elim .inl fun q => .inr (jn_none.mp q).2) (fun b => (x.go b).elim .inl fun q => .inr (none_of_ex eO q)) hG hF' hH' hR
  · obtain ⟨g1, g2⟩ := jn_none.mp hq
    have eG : Ex (upd G q o) (upd (jn G (fun b => if b = ad i then none else O b)) q o) := ex_upd2 ex_jn_l
    have eO2 : Ex (fun b => if b = ad i then none else O b) (upd (jn G (fun b => if b = ad i then none else O b)) q o) := ex_upd exO g2
    exact ⟨g1, back (upd G q o) F' H' ws' xs' e ⟨w.f, Ex.trans eG w.g, fun b => (w.d b).elim .inl fun z => .inr (none_of_ex eG z), w.tb.to (fun _ _ q _ => q) w.tb.nf (fun b u q => w.tb.ng b u (eG b u q))⟩ (Ex.trans eO2 w.g) (fun b => (w.d b).elim .inl fun z => .inr (none_of_ex eO2 z))
      (dj_upd (fun b => (x.go b).elim .inl fun z => .inr (none_of_ex eO z)) g2) (by rw [upd_ne hne.symm]; exact hG) hF' hH' hR⟩
end
mutual
def lf : D → Bool
  | .lst _ => false
  | .scr _ => false
  | .tup xs => lfA xs
  | _ => true
def lfA : List D → Bool
  | [] => true
  | d :: ds => lf d && lfA ds
end
section
variable {K : PySem.W.Frag} {F F' : Hp}
theorem lf_tup (xs : List D) : lf (.tup xs) = lfA xs := by rw [lf]
theorem lf_lst (xs : List D) : lf (.lst xs) = false := by rw [lf]
theorem lf_scr (ns : List Int) : lf (.scr ns) = false := by rw [lf]
theorem lfA_cons (d : D) (ds : List D) : lfA (d :: ds) = (lf d && lfA ds) := by rw [lfA]
mutual
theorem Rp.less (e : ∀ a o, F a = some o → (∀ vs, o ≠ .lst vs) → F' a = some o) : ∀ {v : V} {d : D}, Rp K F v d → lf d = true → Rp K F' v d
  | _, _, .non, _ => .non
  | _, _, .bl b, _ => .bl b
  | _, _, .int i, _ => .int i
  | _, _, .str x, _ => .str x
  | _, _, .ty n, _ => .ty n
  | _, _, .fn h1 h2, _ => .fn (e _ _ h1 fun _ => lamO_lst) (e _ _ h2 fun _ => codeO_lst)
  | _, _, .lst _ _, h => absurd ((lf_lst _).symm.trans h) Bool.false_ne_true
  | _, _, .scr _ _, h => absurd ((lf_scr _).symm.trans h) Bool.false_ne_true
  | _, _, .tup q a, h => .tup (by
      rcases q with (q | ⟨o, q⟩) | q
      · exact .inl (.inl (e _ _ q (fun _ z => by cases z)))
      · exact .inl (.inr ⟨o, e _ _ q (fun _ z => by cases z)⟩)
      · exact .inr q) (RpA.less e a ((lf_tup _).symm.trans h))
theorem RpA.less (e : ∀ a o, F a = some o → (∀ vs, o ≠ .lst vs) → F' a = some o) : ∀ {vs : List V} {ds : List D}, RpA K F vs ds → lfA ds = true → RpA K F' vs ds
  | _, _, .nil, _ => .nil
  | _, _, .cons q a, h => .cons (Rp.less e q (Bool.and_eq_true_iff.mp ((lfA_cons _ _).symm.trans h)).1) (RpA.less e a (Bool.and_eq_true_iff.mp ((lfA_cons _ _).symm.trans h)).2)
end
end
section
variable {K : PySem.W.Frag} {a0 : Addr} {G : Hp} {Γ : Env} {σ : L2.St} {H F : Hp}
theorem Rel.borrow (r : Rel K a0 G Γ σ H F) : ∃ Fc, Ex F Fc ∧ Wd K Fc G H ∧ (∀ i xs, gt Γ i = .o xs → ∃ p, σ[i]? = some (some (.ref p)) ∧ Rp K Fc (.ref p) (.lst xs)) ∧
    ∀ F' H', Ex Fc F' → (Wd K F' G H' → ∃ F'', Ex F F'' ∧ Rel K a0 G Γ σ H' F'' ∧ ∀ a o, F' a = some o → (∀ vs, o ≠ .lst vs) → F'' a = some o) ∧
      ∀ p o, G p = none → Wd K F' (upd G p o) H' → ∃ F'', Ex F F'' ∧ Rel K a0 (upd G p o) Γ σ H' F'' ∧ ∀ a o, F' a = some o → (∀ vs, o ≠ .lst vs) → F'' a = some o := by
  obtain ⟨O, ad, x⟩ := r
  have exO : Ex O (jn F O) := fun b o h => by rw [jn_r ((x.fo b).elim id fun q => by rw [h] at q; cases q)]; exact h
  refine ⟨jn F O, ex_jn_l, ⟨ex_jn x.wd.f x.o, x.wd.g, fun b => (x.wd.d b).elim (fun q => (x.go b).elim .inr fun q2 => .inl (jn_none.mpr ⟨q, q2⟩)) .inr, x.wd.tb.to (fun _ _ q _ => q) (nf_jn x.wd.tb.nf x.ol) x.wd.tb.ng⟩, fun i xs q => ?_, fun F' H' e => ?_⟩
  · obtain ⟨h1, vs, h2, h3⟩ := x.ow i xs q
    exact ⟨ad i, h1, .lst (exO _ _ h2) (h3.mono ex_jn_l)⟩
  · have eF : Ex F (fun b => if (O b).isSome then none else F' b) := fun b o h => by
      have n : O b = none := (x.fo b).elim (fun q => by rw [h] at q; cases q) id
      simp [n]
      exact e b o (jn_l h)
    have eF' : Ex (fun b => if (O b).isSome then none else F' b) F' := fun b o h => by
      by_cases q : (O b).isSome = true
      · simp [q] at h
      · simpa [q] using h
    have lo : ∀ a o, F' a = some o → (∀ vs, o ≠ .lst vs) → (fun b => if (O b).isSome then none else F' b) a = some o := fun a o h n => by
      have q : O a = none := by
        cases q : O a with
        | none => rfl
        | some u =>
          obtain ⟨vs, rfl⟩ := x.ol a u q
          have := e a _ (exO a _ q)
          rw [h] at this
          exact absurd (Option.some.inj this) (n vs)
      simp [q, h]
    have back : ∀ GG : Hp, (∀ b, GG b = none ∨ O b = none) → Wd K F' GG H' → Rel K a0 GG Γ σ H' (fun b => if (O b).isSome then none else F' b) := fun GG hg w => by
      refine ⟨O, ad, ⟨⟨Ex.trans eF' w.f, w.g, fun b => (w.d b).elim (fun q => .inl (none_of_ex eF' q)) .inr, w.tb.to (fun _ _ q _ => q) (fun b ps q => w.tb.nf b ps (eF' b _ q)) w.tb.ng⟩, Ex.trans exO (Ex.trans e w.f), fun b => ?_, hg, fun i d q => ?_, fun i xs q => ?_, x.inj, x.z, x.len, x.ol⟩⟩
      · cases q : O b with
        | none => exact .inr rfl
        | some u => exact .inl (by simp)
      · obtain ⟨v, h1, h2⟩ := x.v i d q; exact ⟨v, h1, h2.mono eF⟩
      · obtain ⟨h1, vs, h2, h3⟩ := x.ow i xs q; exact ⟨h1, vs, h2, h3.mono eF⟩
    refine ⟨fun w => ⟨_, eF, back G x.go w, lo⟩, fun p o hp w => ⟨_, eF, back _ (fun b => ?_) w, lo⟩⟩
    by_cases hb : b = p
    · subst hb
      refine .inr ?_
      have z : F' b = none := (w.d b).elim id fun q => by rw [upd_same] at q; cases q
      exact none_of_ex exO (none_of_ex e z)
    · rw [upd_ne hb]; exact x.go b
end
end Rg
namespace Rg
open PySem L2
inductive R (α : Type) where
  | ok (a : α) | exc (c : Str) (fs : List (Str × D)) | bad
def R.bind {α β : Type} (x : R α) (f : α → R β) : R β := match x with
  | .ok a => f a
  | .exc c fs => .exc c fs
  | .bad => .bad
inductive Nw where
  | v (d : D) | o (xs : List D)
inductive BV where
  | v (d : D) | o (xs : List D) | s (i : Nat)
def Nw.bv : Nw → BV
  | .v d => .v d
  | .o xs => .o xs
def Nw.d : Nw → D
  | .v d => d
  | .o xs => .lst xs
def Nw.lf : Nw → Bool
  | .v d => Rg.lf d
  | .o xs => Rg.lfA xs
def BV.fz : BV → BV
  | .o xs => .v (.lst xs)
  | b => b
inductive FsA (K : PySem.W.Frag) (F : Hp) : List (Str × V) → List (Str × D) → Prop
  | nil : FsA K F [] []
  | cons {n : Str} {v : V} {d : D} {gs : List (Str × V)} {fs : List (Str × D)} : Rp K F v d → FsA K F gs fs → FsA K F ((n, v) :: gs) ((n, d) :: fs)
def XOk (K : PySem.W.Frag) (mg : Str → Option Value) (G F H : Hp) (c : Str) (fs : List (Str × D)) (ca dd : Addr) : Prop :=
  Wd K F G H ∧ mg c = some (.ref ca) ∧ ∃ gs, H dd = some (.xd gs) ∧ FsA K F gs fs
section
variable (K : PySem.W.Frag) (mg : Str → Option Value) (a0 : Addr) (G F : Hp) (σ : L2.St) (W : WX)
def OkG {α : Type} (P : α → Prop) : R α → Prop
  | .ok a => P a
  | .exc c fs => ∀ ca dd σ H F', Ex F F' → XOk K mg G F' H c fs ca dd → W (.ref ca) (some dd) σ H
  | .bad => False
def PX (Q : VK) : BV × Env → Prop
  | (.v d, Γ) => ∀ v H F', Ex F F' → Rel K a0 G Γ σ H F' → Rp K F' v d → Q v H
  | (.o xs, Γ) => ∀ p vs H F', Ex F F' → G p = none → Rel K a0 (upd G p (.lst vs)) Γ σ H F' → RpA K F' vs xs → Q (.ref p) H
  | (.s i, Γ) => ∀ v H F', Ex F F' → Rel K a0 G Γ σ H F' → σ[i]? = some (some v) → Q v H
def BOk (F : Hp) (v : V) : BV → Prop
  | .v d => Rp K F v d
  | .s i => σ[i]? = some (some v)
  | .o _ => False
end
inductive BsA (K : PySem.W.Frag) (σ : L2.St) (F : Hp) : List V → List BV → Prop
  | nil : BsA K σ F [] []
  | cons {v : V} {b : BV} {vs : List V} {bs : List BV} : BOk K σ F v b → BsA K σ F vs bs → BsA K σ F (v :: vs) (b :: bs)
section
variable (K : PySem.W.Frag) (mg : Str → Option Value) (a0 : Addr) (G F : Hp) (σ : L2.St) (W : WX)
def PAs (Q : List V → Hp → Prop) : List BV × Env → Prop := fun y => ∀ vs H F', Ex F F' → Rel K a0 G y.2 σ H F' → BsA K σ F' vs y.1 → Q vs H
def PTs (Q : Bool → Hp → Prop) : Bool × Env → Prop := fun y => ∀ H F', Ex F F' → Rel K a0 G y.2 σ H F' → Q y.1 H
end
section
variable {K : PySem.W.Frag} {mg : Str → Option Value} {a0 : Addr} {G F F1 : Hp} {σ : L2.St} {W : WX}
theorem okG_bind {α β : Type} {P : β → Prop} {P' : α → Prop} {r : R α} {f : α → R β} (h : OkG K mg G F W P (r.bind f)) (k : ∀ a, r = .ok a → OkG K mg G F W P (f a) → P' a) : OkG K mg G F W P' r := by
  cases r with
  | ok a => exact k a rfl h
  | exc c fs => exact h
  | bad => exact h
theorem okG_mono {α : Type} {P P' : α → Prop} {r : R α} (e : Ex F F1) (h : OkG K mg G F W P r) (k : ∀ a, r = .ok a → P a → P' a) : OkG K mg G F1 W P' r := by
  cases r with
  | ok a => exact k a rfl h
  | exc c fs => exact fun ca dd σ H F' e' => h ca dd σ H F' (Ex.trans e e')
  | bad => exact h
theorem BOk.mono {v : V} {b : BV} (e : Ex F F1) (h : BOk K σ F v b) : BOk K σ F1 v b := by
  cases b with
  | v d => exact Rp.mono e h
  | s i => exact h
  | o xs => exact h
theorem BsA.mono (e : Ex F F1) : ∀ {vs : List V} {bs : List BV}, BsA K σ F vs bs → BsA K σ F1 vs bs
  | _, _, .nil => .nil
  | _, _, .cons h a => .cons (h.mono e) (BsA.mono e a)
theorem PX_fz {Q : VK} {b : BV} {Γ : Env} (h : ∀ v H F', Ex F F' → Rel K a0 G Γ σ H F' → BOk K σ F' v b.fz → Q v H) : PX K a0 G F σ Q (b, Γ) := by
  cases b with
  | v d => exact h
  | s i => exact h
  | o xs =>
    intro p vs H F' e hG r hv
    obtain ⟨e2, r2⟩ := r.frzT hG
    exact h (.ref p) H _ (Ex.trans e e2) r2 (.lst upd_same (hv.mono e2))
theorem PX.mono {Q : VK} {x : BV × Env} (e : Ex F F1) (h : PX K a0 G F σ Q x) : PX K a0 G F1 σ Q x := by
  obtain ⟨b, Γ⟩ := x
  cases b with
  | v d => exact fun v H F' e' => h v H F' (Ex.trans e e')
  | s i => exact fun v H F' e' => h v H F' (Ex.trans e e')
  | o xs => exact fun p vs H F' e' => h p vs H F' (Ex.trans e e')
end
def SdX (K : PySem.W.Frag) (mg : Str → Option Value) (W : WX) (t : TE) (m : Env → R (BV × Env)) : Prop :=
  ∀ a0 G Γ σ H F Q, Rel K a0 G Γ σ H F → OkG K mg G F W (PX K a0 G F σ Q) (m Γ) → t σ H Q
def SdA (K : PySem.W.Frag) (mg : Str → Option Value) (W : WX) (t : TA) (m : Env → R (List BV × Env)) : Prop :=
  ∀ a0 G Γ σ H F Q, Rel K a0 G Γ σ H F → OkG K mg G F W (PAs K a0 G F σ Q) (m Γ) → t σ H Q
def SdT (K : PySem.W.Frag) (mg : Str → Option Value) (W : WX) (t : TT) (m : Env → R (Bool × Env)) : Prop :=
  ∀ a0 G Γ σ H F Q, Rel K a0 G Γ σ H F → OkG K mg G F W (PTs K a0 G F σ Q) (m Γ) → t σ H Q
def SX (X : Cx) (W : WX) (e : Expr) (m : Env → R (BV × Env)) : Prop := ∃ t, PE X e t ∧ SdX X.K X.mg W t m
def SA (X : Cx) (W : WX) (es : List Expr) (m : Env → R (List BV × Env)) : Prop := ∃ t, PA X es t ∧ SdA X.K X.mg W t m
def SK (X : Cx) (W : WX) (ks : List Keyword) (m : Env → R (List BV × Env)) : Prop := ∃ t, PK X ks t ∧ SdA X.K X.mg W t m
def ST (X : Cx) (W : WX) (e : Expr) (m : Env → R (Bool × Env)) : Prop := ∃ t, PT X e t ∧ SdT X.K X.mg W t m
def SW (X : Cx) (W : WX) (e : Expr) (m : Env → R (Bool × Env)) : Prop := ∃ t, PW X e t ∧ SdT X.K X.mg W t m
def mN (i : Nat) : Env → R (BV × Env) := fun Γ => match gt Γ i with
  | .v d => .ok (.v d, Γ)
  | .o _ => .ok (.s i, Γ)
  | .no => .bad
def mK (d : D) : Env → R (BV × Env) := fun Γ => .ok (.v d, Γ)
def mA0 : Env → R (List BV × Env) := fun Γ => .ok ([], Γ)
def mA1 (m : Env → R (BV × Env)) (mr : Env → R (List BV × Env)) : Env → R (List BV × Env) := fun Γ => (m Γ).bind fun x => (mr x.2).bind fun y => .ok (x.1.fz :: y.1, y.2)
def rs (Γ : Env) : BV → Option D
  | .v d => some d
  | .o _ => none
  | .s i => match gt Γ i with
    | .v d => some d
    | .o xs => some (.lst xs)
    | .no => none
def rsA (Γ : Env) : List BV → Option (List D)
  | [] => some []
  | b :: bs => (rs Γ b).bind fun d => (rsA Γ bs).map (d :: ·)
def mB (bf : List D → Option Nw) (ma : Env → R (List BV × Env)) : Env → R (BV × Env) := fun Γ => (ma Γ).bind fun y => match (rsA y.2 y.1).bind bf with
  | some nw => .ok (nw.bv, y.2)
  | none => .bad
def mT (m : Env → R (BV × Env)) : Env → R (Bool × Env) := fun Γ => (m Γ).bind fun x => match x.1 with
  | .v (.bl k) => .ok (k, x.2)
  | _ => .bad
def mAnd (a b : Env → R (Bool × Env)) : Env → R (Bool × Env) := fun Γ => (a Γ).bind fun x => if x.1 = true then b x.2 else .ok (false, x.2)
def mOr (a b : Env → R (Bool × Env)) : Env → R (Bool × Env) := fun Γ => (a Γ).bind fun x => if x.1 = true then .ok (true, x.2) else b x.2
def mNot (a : Env → R (Bool × Env)) : Env → R (Bool × Env) := fun Γ => (a Γ).bind fun x => .ok (!x.1, x.2)
def mIfE (c : Env → R (Bool × Env)) (a b : Env → R (BV × Env)) : Env → R (BV × Env) := fun Γ => (c Γ).bind fun x => if x.1 = true then a x.2 else b x.2
def Rh (K : PySem.W.Frag) (F H : Hp) (v : V) (d : D) : Prop := (∃ p vs ds, v = .ref p ∧ d = .lst ds ∧ H p = some (.lst vs) ∧ RpA K F vs ds) ∨ Rp K F v d
inductive RhA (K : PySem.W.Frag) (F H : Hp) : List V → List D → Prop
  | nil : RhA K F H [] []
  | cons {v : V} {vs : List V} {d : D} {ds : List D} : Rh K F H v d → RhA K F H vs ds → RhA K F H (v :: vs) (d :: ds)
section
variable {K : PySem.W.Frag} {F H : Hp} {v : V}
theorem Rh.lst {ds : List D} (e : Ex F H) (h : Rh K F H v (.lst ds)) : ∃ p vs, v = .ref p ∧ H p = some (.lst vs) ∧ RpA K F vs ds := by
  rcases h with ⟨p, vs, ds', rfl, q, h1, h2⟩ | h
  · cases q; exact ⟨p, vs, rfl, h1, h2⟩
  · cases h with
    | lst h1 h2 => exact ⟨_, _, rfl, e _ _ h1, h2⟩
theorem Rh.rp {d : D} (h : Rh K F H v d) (n : ∀ ds, d ≠ .lst ds) : Rp K F v d := by
  rcases h with ⟨p, vs, ds', rfl, q, h1, h2⟩ | h
  · exact absurd q (n _)
  · exact h
theorem Rh.tup {ds : List D} (e : Ex F H) (h : Rh K F H v (.tup ds)) : ∃ p vs, v = .ref p ∧ SqT K H p vs ∧ RpA K F vs ds := by
  have h := h.rp (fun _ z => by cases z)
  cases h with
  | tup h1 h2 => exact ⟨_, _, rfl, Evl.ex_t e h1, h2⟩
theorem Rh.int {i : Int} (h : Rh K F H v (.int i)) : v = .int i := by
  have h := h.rp (fun _ z => by cases z)
  cases h; rfl
theorem Rh.bl {i : Bool} (h : Rh K F H v (.bl i)) : v = .bl i := by
  have h := h.rp (fun _ z => by cases z)
  cases h; rfl
theorem Rh.str {i : Str} (h : Rh K F H v (.str i)) : v = .str i := by
  have h := h.rp (fun _ z => by cases z)
  cases h; rfl
theorem Rh.ty {n : String} (h : Rh K F H v (.ty n)) : v = .ty n := by
  have h := h.rp (fun _ z => by cases z)
  cases h; rfl
theorem Rh.non (h : Rh K F H v .non) : v = .non := by
  have h := h.rp (fun _ z => by cases z)
  cases h; rfl
theorem Rh.scr {ns : List Int} (e : Ex F H) (h : Rh K F H v (.scr ns)) : ∃ p, v = .ref p ∧ SqL K H p (ns.map V.int) := by
  have h := h.rp (fun _ z => by cases z)
  cases h with
  | scr _ h1 => exact ⟨_, rfl, Evl.ex_l e h1⟩
end
def Yld (K : PySem.W.Frag) (F H : Hp) (nw : Nw) (Q : VK) : Prop := match nw with
  | .v d => (∀ v, Rp K F v d → Q v H) ∧ ∀ ds p vs, d = .tup ds → H p = none → RpA K F vs ds → Q (.ref p) (upd H p (.tup vs))
  | .o xs => ∀ p vs, H p = none → RpA K F vs xs → Q (.ref p) (upd H p (.lst vs))
section
variable {K : PySem.W.Frag} {mg : Str → Option Value} {a0 : Addr} {G F F1 H : Hp} {Γ : Env} {σ : L2.St} {W : WX}
theorem Rel.rs {v : V} {b : BV} {d : D} (r : Rel K a0 G Γ σ H F) (h : BOk K σ F v b) (e : rs Γ b = some d) : Rh K F H v d := by
  cases b with
  | v d' => cases e; exact .inr h
  | o xs => exact h.elim
  | s i =>
    have h : σ[i]? = some (some v) := h
    unfold Rg.rs at e
    dsimp only at e
    cases q : gt Γ i with
    | no => rw [q] at e; cases e
    | v d' =>
      rw [q] at e; cases e
      obtain ⟨v', h1, h2⟩ := r.getv q
      rw [h1] at h; cases h
      exact .inr h2
    | o xs =>
      rw [q] at e; cases e
      obtain ⟨p, vs, h1, h2, h3, _⟩ := r.geto q
      rw [h1] at h; cases h
      exact .inl ⟨p, vs, xs, rfl, rfl, h2, h3⟩
theorem Rel.rsA (r : Rel K a0 G Γ σ H F) : ∀ {vs : List V} {bs : List BV} {ds : List D}, BsA K σ F vs bs → rsA Γ bs = some ds → RhA K F H vs ds
  | _, _, _, .nil, e => by cases e; exact .nil
  | _, _, _, .cons (b := b) (bs := bs) h a, e => by
    unfold Rg.rsA at e
    cases q : Rg.rs Γ b with
    | none => rw [q] at e; cases e
    | some d =>
      rw [q] at e
      cases q2 : Rg.rsA Γ bs with
      | none => rw [Option.bind_some, q2] at e; cases e
      | some ds =>
        rw [Option.bind_some, q2] at e; cases e
        exact .cons (r.rs h q) (r.rsA a q2)
theorem Rel.yld {nw : Nw} {Q : VK} (r : Rel K a0 G Γ σ H F1) (e : Ex F F1) (h : PX K a0 G F σ Q (nw.bv, Γ)) : Yld K F1 H nw Q := by
  cases nw with
  | v d =>
    refine ⟨fun v hv => h v H F1 e r hv, fun ds p vs hd hp hvs => ?_⟩
    subst hd
    obtain ⟨e2, r2⟩ := r.newF (o := .tup vs) hp
    exact h (.ref p) _ _ (Ex.trans e e2) r2 (.tup (.inl (.inl upd_same)) (hvs.mono e2))
  | o xs =>
    intro p vs hp hvs
    obtain ⟨hG, r2⟩ := r.newT (vs := vs) hp
    exact h p vs _ F1 e hG r2 hvs
theorem sdA_nil : SdA K mg W tNil mA0 := fun a0 G Γ σ H F Q r h => h [] H F (Ex.refl F) r .nil
theorem sdA_cons {t : TE} {tr : TA} {m : Env → R (BV × Env)} {mr : Env → R (List BV × Env)} (ht : SdX K mg W t m) (hr : SdA K mg W tr mr) : SdA K mg W (tCons t tr) (mA1 m mr) := by
  intro a0 G Γ σ H F Q r h
  refine ht a0 G Γ σ H F _ r (okG_bind h fun x _ hx => ?_)
  obtain ⟨b, Γ1⟩ := x
  refine PX_fz fun v H1 F1 e1 r1 hv => ?_
  refine hr a0 G Γ1 σ H1 F1 _ r1 (okG_mono e1 (okG_bind hx fun y _ hy => hy) fun y _ hy => ?_)
  exact fun vs H2 F2 e2 r2 hb => hy (v :: vs) H2 F2 (Ex.trans e1 e2) r2 (.cons (hv.mono e2) hb)
theorem Rel.up {H' : Hp} (r : Rel K a0 G Γ σ H F) (e : Ex H H') : Rel K a0 G Γ σ H' F := by
  obtain ⟨O, ad, x⟩ := r
  exact ⟨O, ad, ⟨⟨Ex.trans x.wd.f e, Ex.trans x.wd.g e, x.wd.d, x.wd.tb.to (fun b o q _ => e b o q) x.wd.tb.nf x.wd.tb.ng⟩, Ex.trans x.o e, x.fo, x.go, x.v, x.ow, x.inj, x.z, x.len, x.ol⟩⟩
theorem sdX_BG {t : TE} {ta : TA} {r : List V → Hp → VK → Prop} {bf : List D → Option Nw} {ma : Env → R (List BV × Env)} (ha : SdA K mg W ta ma) (ht : ∀ σ H Q, (ta σ H fun vs H1 => r vs H1 Q) → t σ H Q)
    (hr : ∀ F H vs ds nw Q, Ex F H → RhA K F H vs ds → bf ds = some nw → (∀ H', Ex H H' → Yld K F H' nw Q) → r vs H Q) : SdX K mg W t (mB bf ma) := by
  intro a0 G Γ σ H F Q rel h
  refine ht σ H Q (ha a0 G Γ σ H F _ rel (okG_bind h fun y _ hy => ?_))
  obtain ⟨bs, Γ1⟩ := y
  intro vs H1 F1 e1 r1 hb
  dsimp only at hy
  cases q : rsA Γ1 bs with
  | none => rw [q] at hy; exact hy.elim
  | some ds =>
    rw [q, Option.bind_some] at hy
    cases q2 : bf ds with
    | none => rw [q2] at hy; exact hy.elim
    | some nw =>
      rw [q2] at hy
      exact hr F1 H1 vs ds nw Q r1.wd.f (r1.rsA hb q) q2 fun H' e' => (r1.up e').yld e1 hy
theorem sdX_B {t : TE} {ta : TA} {r : List V → Hp → VK → Prop} {bf : List D → Option Nw} {ma : Env → R (List BV × Env)} (ha : SdA K mg W ta ma) (ht : ∀ σ H Q, (ta σ H fun vs H1 => r vs H1 Q) → t σ H Q)
    (hr : ∀ F H vs ds nw Q, Ex F H → RhA K F H vs ds → bf ds = some nw → Yld K F H nw Q → r vs H Q) : SdX K mg W t (mB bf ma) :=
  sdX_BG ha ht fun F H vs ds nw Q e hv hf hy => hr F H vs ds nw Q e hv hf (hy H (Ex.refl H))
theorem sdT_of {t : TE} {m : Env → R (BV × Env)} (h : SdX K mg W t m) : SdT K mg W (tB t) (mT m) := by
  intro a0 G Γ σ H F Q r hk
  refine h a0 G Γ σ H F _ r (okG_bind hk fun x _ hx => ?_)
  obtain ⟨b, Γ1⟩ := x
  dsimp only at hx
  cases b with
  | s i => exact hx.elim
  | o xs => exact hx.elim
  | v d =>
    cases d with
    | bl k => exact fun v H1 F1 e1 r1 hv => by cases hv; exact ⟨k, rfl, hx H1 F1 e1 r1⟩
    | _ => exact hx.elim
theorem sdT_and {t u : TT} {a b : Env → R (Bool × Env)} (h1 : SdT K mg W t a) (h2 : SdT K mg W u b) : SdT K mg W (tAnd t u) (mAnd a b) := by
  intro a0 G Γ σ H F Q r hk
  refine h1 a0 G Γ σ H F _ r (okG_bind hk fun x _ hx => ?_)
  obtain ⟨k, Γ1⟩ := x
  intro H1 F1 e1 r1
  dsimp only at hx ⊢
  cases k with
  | true => simp only [if_true] at hx ⊢; exact h2 a0 G Γ1 σ H1 F1 Q r1 (okG_mono e1 hx fun y _ hy H2 F2 e2 => hy H2 F2 (Ex.trans e1 e2))
  | false => exact hx H1 F1 e1 r1
theorem sdT_or {t u : TT} {a b : Env → R (Bool × Env)} (h1 : SdT K mg W t a) (h2 : SdT K mg W u b) : SdT K mg W (tOr t u) (mOr a b) := by
  intro a0 G Γ σ H F Q r hk
  refine h1 a0 G Γ σ H F _ r (okG_bind hk fun x _ hx => ?_)
  obtain ⟨k, Γ1⟩ := x
  intro H1 F1 e1 r1
  dsimp only at hx ⊢
  cases k with
  | false => simp only [Bool.false_eq_true, if_false] at hx ⊢; exact h2 a0 G Γ1 σ H1 F1 Q r1 (okG_mono e1 hx fun y _ hy H2 F2 e2 => hy H2 F2 (Ex.trans e1 e2))
  | true => exact hx H1 F1 e1 r1
theorem sdT_not {t : TT} {a : Env → R (Bool × Env)} (h1 : SdT K mg W t a) : SdT K mg W (tNot t) (mNot a) := by
  intro a0 G Γ σ H F Q r hk
  exact h1 a0 G Γ σ H F _ r (okG_bind hk fun x _ hx H1 F1 e1 r1 => hx H1 F1 e1 r1)
theorem sdX_if {c : TT} {t u : TE} {mc : Env → R (Bool × Env)} {a b : Env → R (BV × Env)} (hc : SdT K mg W c mc) (h1 : SdX K mg W t a) (h2 : SdX K mg W u b) : SdX K mg W (tIf c t u) (mIfE mc a b) := by
  intro a0 G Γ σ H F Q r hk
  refine hc a0 G Γ σ H F _ r (okG_bind hk fun x _ hx => ?_)
  obtain ⟨k, Γ1⟩ := x
  intro H1 F1 e1 r1
  dsimp only at hx ⊢
  cases k with
  | true => simp only [if_true] at hx ⊢; exact h1 a0 G Γ1 σ H1 F1 Q r1 (okG_mono e1 hx fun y _ hy => hy.mono e1)
  | false => simp only [Bool.false_eq_true, if_false] at hx ⊢; exact h2 a0 G Γ1 σ H1 F1 Q r1 (okG_mono e1 hx fun y _ hy => hy.mono e1)
end
section
variable {X : Cx} {W : WX} {e a b c : Expr} {es : List Expr} {pos : Pos}
theorem sx_name (i : Nat) {x : Str} (hN : X.N[i]? = some x := by rfl) (hv : Vis X.env.scope x := by first | exact Or.inl rfl | exact Or.inr (Or.inl rfl) | exact Or.inr (Or.inr rfl)) (hd : (x == ("__debug__" : Str)) = false := by decide)
    (hcd : (x == ("__classdict__" : Str)) = false := by decide) : SX X W (.Name x pos) (mN i) := by
  refine ⟨_, pe_var hN hv hd hcd, fun a0 G Γ σ H F Q r h => ?_⟩
  unfold mN at h
  cases q : gt Γ i with
  | no => rw [q] at h; exact h.elim
  | v d =>
    rw [q] at h
    obtain ⟨v, h1, h2⟩ := r.getv q
    exact ⟨v, h1, h v H F (Ex.refl F) r h2⟩
  | o xs =>
    rw [q] at h
    obtain ⟨p, vs, h1, h2, _⟩ := r.geto q
    exact ⟨.ref p, h1, h (.ref p) H F (Ex.refl F) r h1⟩
theorem sx_const {v : V} {d : D} (h : PE X e (tC v)) (hr : ∀ K F, Rp K F v d) : SX X W e (mK d) :=
  ⟨_, h, fun a0 G Γ σ H F Q r hk => hk v H F (Ex.refl F) r (hr _ _)⟩
theorem sx_int {i : Int} {j : Nat} : SX X W (.Constant (.int i) j pos) (mK (.int i)) := sx_const pe_int fun _ _ => .int i
theorem sx_bl {i : Bool} {j : Nat} : SX X W (.Constant (.bool i) j pos) (mK (.bl i)) := sx_const pe_bl fun _ _ => .bl i
theorem sx_non {j : Nat} : SX X W (.Constant .none j pos) (mK .non) := sx_const pe_non fun _ _ => .non
theorem sx_str {i : Str} {j : Nat} : SX X W (.Constant (.str i) j pos) (mK (.str i)) := sx_const pe_str fun _ _ => .str i
theorem sa_nil : SA X W [] mA0 := ⟨_, pa_nil, sdA_nil⟩
theorem sa_cons {m : Env → R (BV × Env)} {mr : Env → R (List BV × Env)} (h : SX X W e m) (hr : SA X W es mr) (hs : starEach (e :: es) X.env = (false, eval e X.env) :: starEach es X.env := by rfl) : SA X W (e :: es) (mA1 m mr) := by
  obtain ⟨t, p, s⟩ := h
  obtain ⟨t', p', s'⟩ := hr
  exact ⟨_, pa_cons p p' hs, sdA_cons s s'⟩
theorem sk_nil : SK X W [] mA0 := ⟨_, pk_nil, sdA_nil⟩
theorem sk_cons {nm : Option Str} {kpos : Pos} {kws : List Keyword} {m : Env → R (BV × Env)} {mr : Env → R (List BV × Env)} (h : SX X W e m) (hr : SK X W kws mr) : SK X W (⟨nm, e, kpos⟩ :: kws) (mA1 m mr) := by
  obtain ⟨t, p, s⟩ := h
  obtain ⟨t', p', s'⟩ := hr
  exact ⟨_, pk_cons p p', sdA_cons s s'⟩
def OpS (X : Cx) (f : Value → Value → Sem Value) (bf : List D → Option Nw) : Prop := ∃ r, OpR X f r ∧ ∀ F H x y dx dy nw Q, Ex F H → Rh X.K F H x dx → Rh X.K F H y dy → bf [dx, dy] = some nw → Yld X.K F H nw Q → r x y H Q
theorem sdX_op {f : Value → Value → Sem Value} {bf : List D → Option Nw} {r : R2} {ta tb : TE} {ma mb : Env → R (BV × Env)} (hl : ∀ ds nw, bf ds = some nw → ds.length = 2)
    (hr : ∀ F H x y dx dy nw Q, Ex F H → Rh X.K F H x dx → Rh X.K F H y dy → bf [dx, dy] = some nw → Yld X.K F H nw Q → r x y H Q) (ha : SdX X.K X.mg W ta ma) (hb : SdX X.K X.mg W tb mb) :
    SdX X.K X.mg W (tOp r ta tb) (mB bf (mA1 ma (mA1 mb mA0))) := by
  refine sdX_B (r := fun vs H Q => match vs with | [x, y] => r x y H Q | _ => False) (sdA_cons ha (sdA_cons hb sdA_nil)) (fun σ H Q h => h) fun F H vs ds nw Q e hv hf hy => ?_
  have := hl ds nw hf
  cases hv with
  | nil => simp at this
  | cons h1 hv =>
    cases hv with
    | nil => simp at this
    | cons h2 hv =>
      cases hv with
      | nil => exact hr F H _ _ _ _ nw Q e h1 h2 hf hy
      | cons _ _ => simp at this
end
end Rg
namespace Rg
open PySem L2
def SZ : Nat := 1000000
theorem sz_le {n : Nat} (h : n ≤ SZ) : n ≤ sizeLine := Nat.le_trans h (by decide)
theorem sz_lt {n : Nat} (h : n < SZ) : n < sizeLine := Nat.lt_of_lt_of_le h (by decide)
mutual
def toP : D → PyData
  | .non => .none
  | .bl b => .bool b
  | .int i => .int i
  | .str s => .str s
  | .tup xs => .tuple (toPA xs)
  | .lst xs => .list (toPA xs)
  | .scr ns => .list (ns.map PyData.int)
  | .ty _ => .dict []
  | .fn _ _ _ => .dict []
def toPA : List D → List PyData
  | [] => []
  | d :: ds => toP d :: toPA ds
end
section
variable {K : PySem.W.Frag} {F H : Hp}
theorem toPA_cons (d : D) (ds : List D) : toPA (d :: ds) = toP d :: toPA ds := by rw [toPA]
theorem dpInts : ∀ ns : List Int, DpAll K H (ns.map V.int) (ns.map PyData.int)
  | [] => .nil
  | n :: ns => .cons (.int n) (dpInts ns)
mutual
theorem Rp.dp (e : Ex F H) : ∀ {v : V} {d : D}, Rp K F v d → SeqAt.shaped (toP d) = true → Dp K H v (toP d)
  | _, _, .non, _ => by rw [toP]; exact .non
  | _, _, .bl b, _ => by rw [toP]; exact .bl b
  | _, _, .int i, _ => by rw [toP]; exact .int i
  | _, _, .str x, _ => by rw [toP]; exact .str x
  | _, _, .tup h a, hs => by rw [toP] at hs ⊢; exact .tup (Evl.ex_t e h) (RpA.dp e a (SeqAt.canLay_of_shaped hs))
  | _, _, .lst h a, hs => by rw [toP] at hs ⊢; exact .lst (.inl (.inl (e _ _ h))) (RpA.dp e a (SeqAt.canLay_of_shaped hs))
  | _, _, .scr ns h, _ => by rw [toP]; exact .lst (Evl.ex_l e h) (dpInts ns)
  | _, _, .ty n, hs => by
    rw [toP] at hs
    have := SeqAt.canLay_of_shaped hs
    simp [PyData.canLay0] at this
  | _, _, .fn _ _, hs => by
    rw [toP] at hs
    have := SeqAt.canLay_of_shaped hs
    simp [PyData.canLay0] at this
theorem Rp.dpc (e : Ex F H) : ∀ {v : V} {d : D}, Rp K F v d → (toP d).canLay0 = true → Dp K H v (toP d)
  | _, _, .non, _ => by rw [toP]; exact .non
  | _, _, .bl b, _ => by rw [toP]; exact .bl b
  | _, _, .int i, _ => by rw [toP]; exact .int i
  | _, _, .str x, _ => by rw [toP]; exact .str x
  | _, _, .tup h a, hs => by rw [toP] at hs ⊢; exact .tup (Evl.ex_t e h) (RpA.dp e a hs)
  | _, _, .lst h a, hs => by rw [toP] at hs ⊢; exact .lst (.inl (.inl (e _ _ h))) (RpA.dp e a hs)
  | _, _, .scr ns h, _ => by rw [toP]; exact .lst (Evl.ex_l e h) (dpInts ns)
  | _, _, .ty n, hs => by rw [toP] at hs; simp [PyData.canLay0] at hs
  | _, _, .fn _ _, hs => by rw [toP] at hs; simp [PyData.canLay0] at hs
theorem RpA.dp (e : Ex F H) : ∀ {vs : List V} {ds : List D}, RpA K F vs ds → PyData.canLay0 (.tuple (toPA ds)) = true → DpAll K H vs (toPA ds)
  | _, _, .nil, _ => by rw [toPA]; exact .nil
  | _, _, .cons (d := d) (ds := ds) h a, hs => by
    rw [toPA] at hs ⊢
    have hs' : (toP d).canLay0 = true ∧ PyData.canLayAll0 (toPA ds) = true := by simpa [PyData.canLay0, PyData.canLayAll0] using hs
    exact .cons (Rp.dpc e h hs'.1) (RpA.dp e a (by simpa [PyData.canLay0] using hs'.2))
end
theorem Rh.dp {v : V} {d : D} (e : Ex F H) (h : Rh K F H v d) (hs : SeqAt.shaped (toP d) = true) : Dp K H v (toP d) := by
  rcases h with ⟨p, vs, ds, rfl, rfl, h1, h2⟩ | h
  · rw [toP] at hs ⊢
    exact .lst (.inl (.inl h1)) (h2.dp e (SeqAt.canLay_of_shaped hs))
  · exact h.dp e hs
end
def eqD (a b : D) : Bool := PyData.eqv (toP a) (toP b)
def shp (d : D) : Bool := SeqAt.shaped (toP d)
def fEq : List D → Option Nw
  | [a, b] => if (shp a && shp b) = true then some (.v (.bl (eqD a b))) else none
  | _ => none
def fNe : List D → Option Nw
  | [a, b] => if (shp a && shp b) = true then some (.v (.bl (!eqD a b))) else none
  | _ => none
section
variable {X : Cx}
theorem os_eq (hu : X.A.units + 64 < cLine) : OpS X (compareOp .Eq) fEq := by
  refine ⟨_, op_eqD hu, fun F H x y dx dy nw Q e hx hy hf hq => ?_⟩
  simp only [fEq] at hf
  split at hf
  · rename_i h
    cases hf
    have h := Bool.and_eq_true_iff.mp h
    exact ⟨_, _, hx.dp e h.1, hy.dp e h.2, h.1, h.2, hq.1 _ (.bl _)⟩
  · cases hf
theorem os_ne (hu : X.A.units + 64 < cLine) : OpS X (compareOp .NotEq) fNe := by
  refine ⟨_, op_neD hu, fun F H x y dx dy nw Q e hx hy hf hq => ?_⟩
  simp only [fNe] at hf
  split at hf
  · rename_i h
    cases hf
    have h := Bool.and_eq_true_iff.mp h
    exact ⟨_, _, hx.dp e h.1, hy.dp e h.2, h.1, h.2, hq.1 _ (.bl _)⟩
  · cases hf
end
def fAdd : List D → Option Nw
  | [.int i, .int j] => some (.v (.int (i + j)))
  | [.lst a, .lst b] => if a.length + b.length ≤ SZ then some (.o (a ++ b)) else none
  | [.tup a, .tup b] => if a.length + b.length ≤ SZ then some (.v (.tup (a ++ b))) else none
  | [.str a, .str b] => if a.length + b.length ≤ SZ then some (.v (.str (a ++ b))) else none
  | _ => none
def fSub : List D → Option Nw
  | [.int i, .int j] => some (.v (.int (i - j)))
  | _ => none
noncomputable def fMul : List D → Option Nw
  | [.int i, .int j] => @ite _ ((-(2 ^ 64) < i ∧ i < 2 ^ 64) ∨ (-(2 ^ 64) < j ∧ j < 2 ^ 64)) (Classical.propDecidable _) (some (.v (.int (i * j)))) none
  | [.lst a, .int k] => @ite _ (-1000000 ≤ k ∧ k ≤ 1000000 ∧ a.length * k.toNat ≤ SZ) (Classical.propDecidable _) (some (.o (List.replicate k.toNat a).flatten)) none
  | _ => none
def fMod : List D → Option Nw
  | [.int i, .int j] => if 0 < j then some (.v (.int (i % j))) else none
  | _ => none
noncomputable def fDiv : List D → Option Nw
  | [.int i, .int j] => @ite _ (0 < j ∧ j < 2 ^ 128) (Classical.propDecidable _) (some (.v (.int (i / j)))) none
  | _ => none
noncomputable def fPow : List D → Option Nw
  | [.int i, .int j] => @ite _ (0 ≤ j ∧ j ≤ 1000000 ∧ i.natAbs < 2 ^ 64) (Classical.propDecidable _) (some (.v (.int (i ^ j.toNat)))) none
  | _ => none
section
variable {X : Cx}
theorem os_add : OpS X (binaryOp .Add) fAdd := by
  refine ⟨_, op_add.or (op_cat.or (op_catA.or op_add_str)), fun F H x y dx dy nw Q e hx hy hf hq => ?_⟩
  cases dx <;> cases dy <;> simp only [fAdd] at hf <;> try (cases hf; done)
  case int.int i j => cases hf; cases hx.int; cases hy.int; exact .inl ⟨i, j, rfl, rfl, hq.1 _ (.int _)⟩
  case str.str a b =>
    split at hf
    · rename_i hz; cases hf; cases hx.str; cases hy.str; exact .inr (.inr (.inr ⟨a, b, rfl, rfl, sz_le hz, hq.1 _ (.str _)⟩))
    · cases hf
  case tup.tup a b =>
    split at hf
    · rename_i hz
      cases hf
      obtain ⟨p, vs, rfl, h1, h2⟩ := hx.tup e
      obtain ⟨q, ws, rfl, h3, h4⟩ := hy.tup e
      have hx' := hx.rp (fun _ z => by cases z)
      have hy' := hy.rp (fun _ z => by cases z)
      refine .inr (.inr (.inl ⟨p, q, vs, ws, rfl, rfl, h1, h3, ?_, fun z => hq.1 _ ?_, fun z z2 => hq.1 _ ?_, fun z z2 r hr => hq.2 _ r _ rfl hr (h2.append h4)⟩))
      · rw [h2.length, h4.length]; exact sz_le hz
      · subst z; cases h2; exact hy'
      · subst z2; cases h4; rw [List.append_nil]; exact hx'
    · cases hf
  case lst.lst a b =>
    split at hf
    · rename_i hz
      cases hf
      obtain ⟨p, vs, rfl, h1, h2⟩ := hx.lst e
      obtain ⟨q, ws, rfl, h3, h4⟩ := hy.lst e
      refine .inr (.inl ⟨p, q, vs, ws, rfl, rfl, h1, h3, ?_, fun r hr => hq r _ hr (h2.append h4)⟩)
      rw [h2.length, h4.length]; exact sz_le hz
    · cases hf
theorem os_sub : OpS X (binaryOp .Sub) fSub := by
  refine ⟨_, op_sub, fun F H x y dx dy nw Q e hx hy hf hq => ?_⟩
  cases dx <;> cases dy <;> simp only [fSub] at hf <;> try (cases hf; done)
  case int.int i j => cases hf; cases hx.int; cases hy.int; exact ⟨i, j, rfl, rfl, hq.1 _ (.int _)⟩
theorem os_mul : OpS X (binaryOp .Mult) fMul := by
  refine ⟨_, op_mul.or op_rep, fun F H x y dx dy nw Q e hx hy hf hq => ?_⟩
  cases dx <;> cases dy <;> simp only [fMul] at hf <;> try (cases hf; done)
  case int.int i j =>
    split at hf
    · rename_i hz; cases hf; cases hx.int; cases hy.int; exact .inl ⟨i, j, rfl, rfl, hz, hq.1 _ (.int _)⟩
    · cases hf
  case lst.int a k =>
    split at hf
    · rename_i hz
      cases hf
      cases hy.int
      obtain ⟨p, vs, rfl, h1, h2⟩ := hx.lst e
      refine .inr ⟨p, k, vs, rfl, rfl, h1, ?_, ?_, ?_, fun r hr => hq r _ hr (h2.rep _)⟩
      · have := hz.1; omega
      · have := hz.2.1; omega
      · rw [h2.length]; exact sz_le hz.2.2
    · cases hf
theorem os_mod : OpS X (binaryOp .Mod) fMod := by
  refine ⟨_, op_mod, fun F H x y dx dy nw Q e hx hy hf hq => ?_⟩
  cases dx <;> cases dy <;> simp only [fMod] at hf <;> try (cases hf; done)
  case int.int i j =>
    split at hf
    · rename_i hz; cases hf; cases hx.int; cases hy.int; exact ⟨i, j, rfl, rfl, hz, hq.1 _ (.int _)⟩
    · cases hf
theorem cdivW {i j : Int} (h : 0 < j ∧ j < 2 ^ 128) : CDivW i j := wide_div (b := 128) h.1 (by omega) (by decide) (by decide)
theorem os_div : OpS X (binaryOp .FloorDiv) fDiv := by
  refine ⟨_, op_fdivW, fun F H x y dx dy nw Q e hx hy hf hq => ?_⟩
  cases dx <;> cases dy <;> simp only [fDiv] at hf <;> try (cases hf; done)
  case int.int i j =>
    split at hf
    · rename_i hz; cases hf; cases hx.int; cases hy.int; exact ⟨i, j, rfl, rfl, cdivW hz, hq.1 _ (.int _)⟩
    · cases hf
theorem os_pow : OpS X (binaryOp .Pow) fPow := by
  refine ⟨_, op_pow, fun F H x y dx dy nw Q e hx hy hf hq => ?_⟩
  cases dx <;> cases dy <;> simp only [fPow] at hf <;> try (cases hf; done)
  case int.int i j =>
    split at hf
    · rename_i hz; cases hf; cases hx.int; cases hy.int; exact ⟨i, j, rfl, rfl, hz, hq.1 _ (.int _)⟩
    · cases hf
end
def fCmp (p : Int → Int → Bool) : List D → Option Nw
  | [.int i, .int j] => some (.v (.bl (p i j)))
  | _ => none
abbrev fLt := fCmp fun i j => decide (i < j)
abbrev fLe := fCmp fun i j => decide (i ≤ j)
abbrev fGt := fCmp fun i j => decide (j < i)
abbrev fGe := fCmp fun i j => decide (j ≤ i)
section
variable {X : Cx}
theorem os_cmp {op : CmpOp} {p : Int → Int → Bool} (h : OpR X (compareOp op) (rI0 fun i j => .bl (p i j))) : OpS X (compareOp op) (fCmp p) := by
  refine ⟨_, h, fun F H x y dx dy nw Q e hx hy hf hq => ?_⟩
  cases dx <;> cases dy <;> simp only [fCmp] at hf <;> try (cases hf; done)
  case int.int i j => cases hf; cases hx.int; cases hy.int; exact ⟨i, j, rfl, rfl, hq.1 _ (.bl _)⟩
theorem os_lt : OpS X (compareOp .Lt) fLt := os_cmp op_lt
theorem os_le : OpS X (compareOp .LtE) fLe := os_cmp op_le
theorem os_gt : OpS X (compareOp .Gt) fGt := os_cmp op_gt
theorem os_ge : OpS X (compareOp .GtE) fGe := os_cmp op_ge
end
def intsOf : List D → Option (List Int)
  | [] => some []
  | .int i :: ds => (intsOf ds).map (i :: ·)
  | _ :: _ => none
theorem intsOf_eq : ∀ {ds : List D} {ns : List Int}, intsOf ds = some ns → ds = ns.map D.int
  | [], ns, h => by simp only [intsOf] at h; cases h; rfl
  | d :: ds, ns, h => by
    cases d <;> simp only [intsOf] at h <;> try (cases h; done)
    rename_i i
    cases q : intsOf ds with
    | none => rw [q] at h; cases h
    | some ms => rw [q] at h; cases h; rw [intsOf_eq q]; rfl
theorem intsOf_map : ∀ ns : List Int, intsOf (ns.map D.int) = some ns
  | [] => rfl
  | n :: ns => by simp only [List.map_cons, intsOf, intsOf_map ns]; rfl
def fIn (neg : Bool) : List D → Option Nw
  | [.int i, .tup ds] => (intsOf ds).map fun ns => .v (.bl (if neg then !ns.contains i else ns.contains i))
  | [.int i, .lst ds] => (intsOf ds).map fun ns => .v (.bl (if neg then !ns.contains i else ns.contains i))
  | _ => none
theorem inV_ints (i : Int) (ns : List Int) : inV (.int i) (ns.map V.int) = ns.contains i := by
  induction ns with
  | nil => rfl
  | cons n ns ih =>
    simp only [inV, List.map_cons, List.any_cons, List.contains_cons] at ih ⊢
    rw [ih]
    congr 1
    show (n == i) = (i == n)
    exact Bool.beq_comm
theorem flat_ints (ns : List Int) : (ns.map V.int).all flatV = true := by
  induction ns with
  | nil => rfl
  | cons n ns ih => simp only [List.map_cons, List.all_cons, ih, Bool.and_true]; rfl
section
variable {X : Cx}
theorem os_inG {op : CmpOp} {neg : Bool} (h : OpR X (compareOp op) (rIn X.K neg)) : OpS X (compareOp op) (fIn neg) := by
  refine ⟨_, h, fun F H x y dx dy nw Q e hx hy hf hq => ?_⟩
  cases dx <;> cases dy <;> simp only [fIn] at hf <;> try (cases hf; done)
  case int.tup i ds =>
    cases q : intsOf ds with
    | none => rw [q] at hf; cases hf
    | some ns =>
      rw [q] at hf; cases hf
      cases hx.int
      obtain ⟨p, vs, rfl, h1, h2⟩ := hy.tup e
      rw [intsOf_eq q] at h2
      rw [h2.toInts] at h1
      refine ⟨p, _, rfl, .inr h1, rfl, flat_ints ns, hq.1 _ ?_⟩
      rw [inV_ints]; exact .bl _
  case int.lst i ds =>
    cases q : intsOf ds with
    | none => rw [q] at hf; cases hf
    | some ns =>
      rw [q] at hf; cases hf
      cases hx.int
      obtain ⟨p, vs, rfl, h1, h2⟩ := hy.lst e
      rw [intsOf_eq q] at h2
      rw [h2.toInts] at h1
      refine ⟨p, _, rfl, .inl (SqL.of h1), rfl, flat_ints ns, hq.1 _ ?_⟩
      rw [inV_ints]; exact .bl _
theorem os_in : OpS X (compareOp .In) (fIn false) := os_inG op_in_seq
theorem os_notIn : OpS X (compareOp .NotIn) (fIn true) := os_inG op_notIn_seq
end
def isNon : D → Bool
  | .non => true
  | _ => false
def fIs (neg : Bool) : List D → Option Nw
  | [d, .non] => some (.v (.bl (if neg then !isNon d else isNon d)))
  | _ => none
theorem Rh.isN {K : PySem.W.Frag} {F H : Hp} {v : V} {d : D} (h : Rh K F H v d) : decide (v = .non) = isNon d := by
  rcases h with ⟨p, vs, ds, rfl, rfl, _⟩ | h
  · rfl
  · cases h <;> rfl
section
variable {X : Cx}
theorem os_is : OpS X (compareOp .Is) (fIs false) := by
  refine ⟨_, op_isN, fun F H x y dx dy nw Q e hx hy hf hq => ?_⟩
  cases dy <;> simp only [fIs] at hf <;> try (cases hf; done)
  cases hf
  refine ⟨hy.non, hq.1 _ ?_⟩
  rw [hx.isN]
  exact .bl _
theorem os_isNot : OpS X (compareOp .IsNot) (fIs true) := by
  refine ⟨_, op_notN, fun F H x y dx dy nw Q e hx hy hf hq => ?_⟩
  cases dy <;> simp only [fIs] at hf <;> try (cases hf; done)
  cases hf
  refine ⟨hy.non, hq.1 _ ?_⟩
  rw [hx.isN]
  exact .bl _
end
section
variable {X : Cx} {W : WX} {a b c : Expr} {pos : Pos} {ma mb mc : Env → R (BV × Env)}
def two (bf : List D → Option Nw) : List D → Option Nw
  | [x, y] => bf [x, y]
  | _ => none
theorem two_len {bf : List D → Option Nw} : ∀ ds nw, two bf ds = some nw → ds.length = 2
  | [], _, h => by simp [two] at h
  | [_], _, h => by simp [two] at h
  | [_, _], _, _ => rfl
  | _ :: _ :: _ :: _, _, h => by simp [two] at h
theorem sx_bin {op : Operator} {bf : List D → Option Nw} (ho : OpS X (binaryOp op) bf) (ha : SX X W a ma) (hb : SX X W b mb) : SX X W (.BinOp a op b pos) (mB (two bf) (mA1 ma (mA1 mb mA0))) := by
  obtain ⟨r, h1, h2⟩ := ho
  obtain ⟨ta, pa, sa⟩ := ha
  obtain ⟨tb, pb, sb⟩ := hb
  exact ⟨_, pe_op h1 pa pb, sdX_op (f := binaryOp op) two_len h2 sa sb⟩
theorem sx_cmp {op : CmpOp} {bf : List D → Option Nw} (ho : OpS X (compareOp op) bf) (ha : SX X W a ma) (hb : SX X W b mb) (hm : behindInMarks op b = false) : SX X W (.Compare a [op] [b] pos) (mB (two bf) (mA1 ma (mA1 mb mA0))) := by
  obtain ⟨r, h1, h2⟩ := ho
  obtain ⟨ta, pa, sa⟩ := ha
  obtain ⟨tb, pb, sb⟩ := hb
  exact ⟨_, pe_cmpR h1 pa pb hm, sdX_op (f := compareOp op) two_len h2 sa sb⟩
theorem st_cmp {op : CmpOp} {bf : List D → Option Nw} (ho : OpS X (compareOp op) bf) (ha : SX X W a ma) (hb : SX X W b mb) (hm : behindInMarks op b = false) : ST X W (.Compare a [op] [b] pos) (mT (mB (two bf) (mA1 ma (mA1 mb mA0)))) := by
  obtain ⟨r, h1, h2⟩ := ho
  obtain ⟨ta, pa, sa⟩ := ha
  obtain ⟨tb, pb, sb⟩ := hb
  exact ⟨_, pt_cmpR h1 pa pb hm, sdT_of (sdX_op (f := compareOp op) two_len h2 sa sb)⟩
def mCh (p q : Int → Int → Bool) (ma mb mc : Env → R (BV × Env)) : Env → R (BV × Env) := fun Γ => (mA1 ma (mA1 mb mA0) Γ).bind fun y => match rsA y.2 y.1 with
  | some [.int i, .int j] => if p i j = true then (mc y.2).bind fun z => (match rs z.2 z.1.fz with
      | some (.int k) => .ok (.v (.bl (q j k)), z.2)
      | _ => .bad) else .ok (.v (.bl false), y.2)
  | _ => .bad
theorem sdX_chain {p q : Int → Int → Bool} {ta tb tc : TE} (ha : SdX X.K X.mg W ta ma) (hb : SdX X.K X.mg W tb mb) (hc : SdX X.K X.mg W tc mc) :
    SdX X.K X.mg W (tChain (rI0 fun i j => .bl (p i j)) (rI0 fun i j => .bl (q i j)) ta tb tc) (mCh p q ma mb mc) := by
  intro a0 G Γ σ H F Q r h
  have key := sdA_cons ha (sdA_cons hb sdA_nil) a0 G Γ σ H F (fun vs H2 => match vs with
    | [x, y] => rI0 (fun i j => .bl (p i j)) x y H2 fun z H3 => ∃ k, z = .bl k ∧ (if k = true then tc σ H3 fun w' H4 => rI0 (fun i j => .bl (q i j)) y w' H4 Q else Q (.bl false) H3)
    | _ => False) r (okG_bind h fun y _ hy => ?_)
  · exact key
  · obtain ⟨bs, Γ1⟩ := y
    intro vs H1 F1 e1 r1 hb
    dsimp only at hy
    cases q1 : rsA Γ1 bs with
    | none => rw [q1] at hy; exact hy.elim
    | some ds =>
      rw [q1] at hy
      have hv := r1.rsA hb q1
      try dsimp only at hy
      split at hy
      · rename_i i j e
        cases e
        cases hv with
        | cons h1 hv =>
          cases hv with
          | cons h2 hv =>
            cases hv
            cases h1.int
            cases h2.int
            refine ⟨i, j, rfl, rfl, _, rfl, ?_⟩
            split at hy
            · rename_i hp
              rw [if_pos hp]
              refine hc a0 G Γ1 σ H1 F1 _ r1 (okG_mono e1 (okG_bind hy fun z _ hz => hz) fun z _ hz => ?_)
              obtain ⟨b, Γ2⟩ := z
              refine PX_fz fun v H2 F2 e2 r2 hv2 => ?_
              dsimp only at hz
              cases q2 : rs Γ2 b.fz with
              | none => rw [q2] at hz; exact hz.elim
              | some d =>
                rw [q2] at hz
                have h3 := r2.rs hv2 q2
                cases d <;> try exact hz.elim
                rename_i k
                cases h3.int
                exact ⟨j, k, rfl, rfl, hz (.bl _) H2 F2 (Ex.trans e1 e2) r2 (.bl _)⟩
            · rename_i hp
              rw [if_neg hp]
              exact hy (.bl false) H1 F1 e1 r1 (.bl _)
      · exact hy.elim
theorem sx_chain {op op' : CmpOp} {p q : Int → Int → Bool} (ho : OpR X (compareOp op) (rI0 fun i j => .bl (p i j))) (ho' : OpR X (compareOp op') (rI0 fun i j => .bl (q i j))) (ha : SX X W a ma) (hb : SX X W b mb) (hc : SX X W c mc)
    (hm : lastMarks [op, op'] [b, c] = false := by with_unfolding_all rfl) : SX X W (.Compare a [op, op'] [b, c] pos) (mCh p q ma mb mc) := by
  obtain ⟨ta, pa, sa⟩ := ha
  obtain ⟨tb, pb, sb⟩ := hb
  obtain ⟨tc, pc, sc⟩ := hc
  exact ⟨_, pe_chain ho ho' pa pb pc hm, sdX_chain sa sb sc⟩
theorem st_chain {op op' : CmpOp} {p q : Int → Int → Bool} (ho : OpR X (compareOp op) (rI0 fun i j => .bl (p i j))) (ho' : OpR X (compareOp op') (rI0 fun i j => .bl (q i j))) (ha : SX X W a ma) (hb : SX X W b mb) (hc : SX X W c mc)
    (hm : lastMarks [op, op'] [b, c] = false := by with_unfolding_all rfl) : ST X W (.Compare a [op, op'] [b, c] pos) (mT (mCh p q ma mb mc)) := by
  obtain ⟨ta, pa, sa⟩ := ha
  obtain ⟨tb, pb, sb⟩ := hb
  obtain ⟨tc, pc, sc⟩ := hc
  exact ⟨_, pt_chain ho ho' pa pb pc hm, sdT_of (sdX_chain sa sb sc)⟩
def fNeg : List D → Option Nw
  | [.int i] => some (.v (.int (-i)))
  | _ => none
def mNeg (m : Env → R (BV × Env)) : Env → R (BV × Env) := mB fNeg (mA1 m mA0)
theorem sx_neg (ha : SX X W a ma) : SX X W (.UnaryOp .USub a pos) (mNeg ma) := by
  obtain ⟨ta, pa, sa⟩ := ha
  refine ⟨_, pe_un un_neg pa, sdX_B (r := fun vs H Q => match vs with | [x] => rU (fun i => .int (-i)) x H Q | _ => False) (sdA_cons sa sdA_nil) (fun σ H Q h => h) fun F H vs ds nw Q e hv hf hy => ?_⟩
  unfold fNeg at hf
  split at hf
  · rename_i i
    cases hf
    cases hv with
    | cons h1 hv => cases hv; cases h1.int; exact ⟨i, rfl, hy.1 _ (.int _)⟩
  · cases hf
theorem st_val (h : SX X W a ma) (he : ∀ whole, isTrue a X.env whole = (do let v ← whole; standAt a.pos; holding [v] (truthy v)) := by intro _; rfl) : ST X W a (mT ma) := by
  obtain ⟨t, p, s⟩ := h
  exact ⟨_, pt_val p he, sdT_of s⟩
variable {ta tb : Env → R (Bool × Env)} {rest : List Expr}
theorem sw_and1 (h : ST X W a ta) : SW X W (.BoolOp .And [a] pos) ta := let ⟨_, p, s⟩ := h; ⟨_, pw_and1 p, s⟩
theorem sw_or1 (h : ST X W a ta) : SW X W (.BoolOp .Or [a] pos) ta := let ⟨_, p, s⟩ := h; ⟨_, pw_or1 p, s⟩
theorem sw_and (h : ST X W a ta) (h2 : SW X W (.BoolOp .And (b :: rest) pos) tb) : SW X W (.BoolOp .And (a :: b :: rest) pos) (mAnd ta tb) := let ⟨_, p, s⟩ := h; let ⟨_, p2, s2⟩ := h2; ⟨_, pw_and p p2, sdT_and s s2⟩
theorem sw_or (h : ST X W a ta) (h2 : SW X W (.BoolOp .Or (b :: rest) pos) tb) : SW X W (.BoolOp .Or (a :: b :: rest) pos) (mOr ta tb) := let ⟨_, p, s⟩ := h; let ⟨_, p2, s2⟩ := h2; ⟨_, pw_or p p2, sdT_or s s2⟩
theorem SW.t (h : SW X W a ta) : ST X W a ta := let ⟨_, p, s⟩ := h; ⟨_, p.pt, s⟩
theorem st_not (h : ST X W a ta) : ST X W (.UnaryOp .Not a pos) (mNot ta) := let ⟨_, p, s⟩ := h; ⟨_, pt_not p, sdT_not s⟩
theorem sx_if {mc' : Env → R (Bool × Env)} (hc : ST X W c mc') (ha : SX X W a ma) (hb : SX X W b mb) : SX X W (.IfExp c a b pos) (mIfE mc' ma mb) := let ⟨_, p, s⟩ := hc; let ⟨_, p1, s1⟩ := ha; let ⟨_, p2, s2⟩ := hb; ⟨_, pe_ifExp p p1 p2, sdX_if s s1 s2⟩
def mAndV (a b : Env → R (BV × Env)) : Env → R (BV × Env) := fun Γ => (mT a Γ).bind fun x => if x.1 = true then b x.2 else .ok (.v (.bl false), x.2)
def mOrV (a b : Env → R (BV × Env)) : Env → R (BV × Env) := fun Γ => (mT a Γ).bind fun x => if x.1 = true then .ok (.v (.bl true), x.2) else b x.2
def mNotV (a : Env → R (BV × Env)) : Env → R (BV × Env) := fun Γ => (mT a Γ).bind fun x => .ok (.v (.bl (!x.1)), x.2)
theorem sx_and (h : SX X W a ma) (h2 : SX X W (.BoolOp .And (b :: rest) pos) mb) : SX X W (.BoolOp .And (a :: b :: rest) pos) (mAndV ma mb) := by
  obtain ⟨t, p, s⟩ := h
  obtain ⟨t2, p2, s2⟩ := h2
  refine ⟨_, pe_and p p2, fun a0 G Γ σ H F Q r hk => ?_⟩
  refine sdT_of s a0 G Γ σ H F (fun c H1 => if c = true then t2 σ H1 Q else Q (.bl false) H1) r (okG_bind hk fun x _ hx => ?_)
  obtain ⟨k, Γ1⟩ := x
  intro H1 F1 e1 r1
  dsimp only at hx ⊢
  cases k with
  | true => simp only [if_true] at hx ⊢; exact s2 a0 G Γ1 σ H1 F1 Q r1 (okG_mono e1 hx fun y _ hy => hy.mono e1)
  | false => simp only [Bool.false_eq_true, if_false] at hx ⊢; exact hx _ H1 F1 e1 r1 (.bl _)
theorem sx_or (h : SX X W a ma) (h2 : SX X W (.BoolOp .Or (b :: rest) pos) mb) : SX X W (.BoolOp .Or (a :: b :: rest) pos) (mOrV ma mb) := by
  obtain ⟨t, p, s⟩ := h
  obtain ⟨t2, p2, s2⟩ := h2
  refine ⟨_, pe_or p p2, fun a0 G Γ σ H F Q r hk => ?_⟩
  refine sdT_of s a0 G Γ σ H F (fun c H1 => if c = true then Q (.bl true) H1 else t2 σ H1 Q) r (okG_bind hk fun x _ hx => ?_)
  obtain ⟨k, Γ1⟩ := x
  intro H1 F1 e1 r1
  dsimp only at hx ⊢
  cases k with
  | false => simp only [Bool.false_eq_true, if_false] at hx ⊢; exact s2 a0 G Γ1 σ H1 F1 Q r1 (okG_mono e1 hx fun y _ hy => hy.mono e1)
  | true => simp only [if_true] at hx ⊢; exact hx _ H1 F1 e1 r1 (.bl _)
theorem sx_one {op : BoolOp} (h : SX X W a ma) : SX X W (.BoolOp op [a] pos) ma := let ⟨_, p, s⟩ := h; ⟨_, pe_one p, s⟩
theorem sx_not (h : SX X W a ma) : SX X W (.UnaryOp .Not a pos) (mNotV ma) := by
  obtain ⟨t, p, s⟩ := h
  refine ⟨_, pe_not p, fun a0 G Γ σ H F Q r hk => ?_⟩
  refine sdT_of s a0 G Γ σ H F (fun c H1 => Q (.bl (!c)) H1) r (okG_bind hk fun x _ hx => ?_)
  exact fun H1 F1 e1 r1 => hx _ H1 F1 e1 r1 (.bl _)
end
end Rg
namespace Rg
open PySem L2
theorem RhA.one {K : PySem.W.Frag} {F H : Hp} {vs : List V} {d : D} (h : RhA K F H vs [d]) : ∃ x, vs = [x] ∧ Rh K F H x d := by
  cases h with
  | cons h1 h => cases h; exact ⟨_, rfl, h1⟩
theorem RhA.two {K : PySem.W.Frag} {F H : Hp} {vs : List V} {d d2 : D} (h : RhA K F H vs [d, d2]) : ∃ x y, vs = [x, y] ∧ Rh K F H x d ∧ Rh K F H y d2 := by
  cases h with
  | cons h1 h => cases h with
    | cons h2 h => cases h; exact ⟨_, _, rfl, h1, h2⟩
theorem RhA.three {K : PySem.W.Frag} {F H : Hp} {vs : List V} {d d2 d3 : D} (h : RhA K F H vs [d, d2, d3]) : ∃ x y z, vs = [x, y, z] ∧ Rh K F H x d ∧ Rh K F H y d2 ∧ Rh K F H z d3 := by
  cases h with
  | cons h1 h => cases h with
    | cons h2 h => cases h with
      | cons h3 h => cases h; exact ⟨_, _, _, rfl, h1, h2, h3⟩
section
variable {X : Cx} {W : WX} {e a b c : Expr} {es : List Expr} {pos : Pos} {m ma mb mc : Env → R (BV × Env)} {mas : Env → R (List BV × Env)}
def CalS (X : Cx) (f : Value) (bf : List D → Option Nw) : Prop := ∃ r, CallR X f r ∧ ∀ F H vs ds nw Q, Ex F H → RhA X.K F H vs ds → bf ds = some nw → Yld X.K F H nw Q → r vs H Q
theorem sx_callB {x : Str} {id : String} {bf : List D → Option Nw} {p : Pos} (hc : CalS X (.builtin id) bf) (hg : Gl X x) (hm : X.mg x = none) (hv : bootBuiltins x = some (.builtin id)) (ha : SA X W (e :: es) mas) (hn : x ≠ "__name__" := by decide)
    (hdb : (x == ("__debug__" : Str)) = false := by decide) (he : starEach (e :: es) X.env = (false, eval e X.env) :: starEach es X.env := by rfl) (hpl : (backTo pos (starEach es X.env)).any (·.1) = false := by rfl) :
    SX X W (.Call (.Name x p) (e :: es) [] pos) (mB bf mas) := by
  obtain ⟨r, h1, h2⟩ := hc
  obtain ⟨t, pa, sa⟩ := ha
  exact ⟨_, pe_callB h1 hg hm hv pa hn hdb he hpl, sdX_B (r := r) sa (fun σ H Q h => h) h2⟩
theorem sx_callTy {x : Str} {T : String} {bf : List D → Option Nw} {p : Pos} (hc : CalS X (.type T) bf) (hg : Gl X x) (hm : X.mg x = none) (hv : bootBuiltins x = some (.type T)) (ha : SA X W (e :: es) mas) (hn : x ≠ "__name__" := by decide)
    (hdb : (x == ("__debug__" : Str)) = false := by decide) (he : starEach (e :: es) X.env = (false, eval e X.env) :: starEach es X.env := by rfl) (hpl : (backTo pos (starEach es X.env)).any (·.1) = false := by rfl) :
    SX X W (.Call (.Name x p) (e :: es) [] pos) (mB bf mas) := by
  obtain ⟨r, h1, h2⟩ := hc
  obtain ⟨t, pa, sa⟩ := ha
  exact ⟨_, pe_callTy h1 hg hm hv pa hn hdb he hpl, sdX_B (r := r) sa (fun σ H Q h => h) h2⟩
theorem sx_ty {x : Str} {n : String} (hg : Gl X x) (hm : X.mg x = none) (hv : bootBuiltins x = some (.type n)) (hn : x ≠ "__name__" := by decide) (hd : (x == ("__debug__" : Str)) = false := by decide) : SX X W (.Name x pos) (mK (.ty n)) :=
  sx_const (pe_bltn hg hm hv (v := .ty n) rfl hn hd) fun _ _ => .ty n
theorem sx_globI {x : Str} {i : Int} {t : Tok} (hg : Gl X x) (hm : X.mg x = some (.int i t)) (hd : (x == ("__debug__" : Str)) = false := by decide) : SX X W (.Name x pos) (mK (.int i)) :=
  sx_const (pe_glob hg hm (v := .int i) ⟨t, rfl⟩ hd) fun _ _ => .int i
theorem sx_globT {x : Str} {a : Addr} {ns : List Int} (hg : Gl X x) (hm : X.mg x = some (.ref a)) (hT : ∀ F, SqT X.K F a (ns.map V.int)) (hd : (x == ("__debug__" : Str)) = false := by decide) : SX X W (.Name x pos) (mK (.tup (ns.map D.int))) :=
  ⟨_, pe_glob hg hm (v := .ref a) rfl hd, fun a0 G Γ σ H F Q r hk => hk (.ref a) H F (Ex.refl F) r (.tup (hT F) .ints)⟩
def fLen : List D → Option Nw
  | [.lst xs] => some (.v (.int xs.length))
  | [.tup xs] => some (.v (.int xs.length))
  | [.scr xs] => some (.v (.int xs.length))
  | [.str x] => if x.length ≤ SZ then some (.v (.int x.length)) else none
  | _ => none
theorem cs_len : CalS X (.builtin "len") fLen := by
  refine ⟨_, call_len, fun F H vs ds nw Q e hv hf hq => ?_⟩
  cases hv with
  | nil => simp [fLen] at hf
  | cons h hv =>
    cases hv with
    | cons _ _ => simp [fLen] at hf
    | nil =>
      rename_i d
      cases d <;> simp only [fLen] at hf <;> try (cases hf; done)
      case str x =>
        split at hf
        · rename_i hz; cases hf; cases h.str; exact ⟨_, _, rfl, ⟨sz_le hz, rfl⟩, hq.1 _ (.int _)⟩
        · cases hf
      case lst xs =>
        cases hf
        obtain ⟨p, vs, rfl, h1, h2⟩ := h.lst e
        exact ⟨_, _, rfl, .inl ⟨vs, SqL.of h1, h2.length.symm⟩, hq.1 _ (.int _)⟩
      case tup xs =>
        cases hf
        obtain ⟨p, vs, rfl, h1, h2⟩ := h.tup e
        exact ⟨_, _, rfl, .inr ⟨vs, h1, h2.length.symm⟩, hq.1 _ (.int _)⟩
      case scr xs =>
        cases hf
        obtain ⟨p, rfl, h1⟩ := h.scr e
        exact ⟨_, _, rfl, .inl ⟨_, h1, by rw [List.length_map]⟩, hq.1 _ (.int _)⟩
def fList : List D → Option Nw
  | [.lst xs] => some (.o xs)
  | [.tup xs] => some (.o xs)
  | _ => none
theorem cs_list : CalS X (.type "list") fList := by
  refine ⟨_, call_list_of, fun F H vs ds nw Q e hv hf hq => ?_⟩
  cases hv with
  | nil => simp [fList] at hf
  | cons h hv =>
    cases hv with
    | cons _ _ => simp [fList] at hf
    | nil =>
      rename_i d
      cases d <;> simp only [fList] at hf <;> try (cases hf; done)
      case lst xs =>
        cases hf
        obtain ⟨p, vs, rfl, h1, h2⟩ := h.lst e
        exact ⟨p, vs, rfl, .inl (SqL.of h1), fun l hl => hq l vs hl h2⟩
      case tup xs =>
        cases hf
        obtain ⟨p, vs, rfl, h1, h2⟩ := h.tup e
        exact ⟨p, vs, rfl, .inr h1, fun l hl => hq l vs hl h2⟩
def fTuple : List D → Option Nw
  | [.lst xs] => some (.v (.tup xs))
  | [.tup xs] => some (.v (.tup xs))
  | _ => none
theorem cs_tuple : CalS X (.type "tuple") fTuple := by
  refine ⟨_, call_tuple_of, fun F H vs ds nw Q e hv hf hq => ?_⟩
  cases hv with
  | nil => simp [fTuple] at hf
  | cons h hv =>
    cases hv with
    | cons _ _ => simp [fTuple] at hf
    | nil =>
      rename_i d
      cases d <;> simp only [fTuple] at hf <;> try (cases hf; done)
      case lst xs =>
        cases hf
        obtain ⟨p, vs, rfl, h1, h2⟩ := h.lst e
        exact ⟨p, vs, rfl, .inl ⟨SqL.of h1, fun l hl => hq.2 _ l vs rfl hl h2⟩⟩
      case tup xs =>
        cases hf
        have h' := h.rp (fun _ z => by cases z)
        obtain ⟨p, vs, rfl, h1, h2⟩ := h.tup e
        exact ⟨p, vs, rfl, .inr ⟨h1, hq.1 _ h'⟩⟩
def fInt : List D → Option Nw
  | [.int i] => some (.v (.int i))
  | [.bl b] => some (.v (.int (if b then 1 else 0)))
  | _ => none
theorem cs_int : CalS X (.type "int") fInt := by
  refine ⟨_, call_int1, fun F H vs ds nw Q e hv hf hq => ?_⟩
  cases hv with
  | nil => simp [fInt] at hf
  | cons h hv =>
    cases hv with
    | cons _ _ => simp [fInt] at hf
    | nil =>
      rename_i d
      cases d <;> simp only [fInt] at hf <;> try (cases hf; done)
      case int i => cases hf; cases h.int; exact .inl ⟨i, rfl, hq.1 _ (.int _)⟩
      case bl k => cases hf; cases h.bl; exact .inr ⟨k, rfl, hq.1 _ (.int _)⟩
def fAbs : List D → Option Nw
  | [.int i] => some (.v (.int (if i < 0 then -i else i)))
  | _ => none
theorem cs_abs : CalS X (.builtin "abs") fAbs := by
  refine ⟨_, call_abs, fun F H vs ds nw Q e hv hf hq => ?_⟩
  cases hv with
  | nil => simp [fAbs] at hf
  | cons h hv =>
    cases hv with
    | cons _ _ => simp [fAbs] at hf
    | nil =>
      rename_i d
      cases d <;> simp only [fAbs] at hf <;> try (cases hf; done)
      case int i => cases hf; cases h.int; exact ⟨i, rfl, hq.1 _ (.int _)⟩
def fMax : List D → Option Nw
  | [.int i, .int j] => some (.v (.int (if j > i then j else i)))
  | _ => none
theorem cs_max (hc : X.calm = true) : CalS X (.builtin "max") fMax := by
  refine ⟨_, call_max2 hc, fun F H vs ds nw Q e hv hf hq => ?_⟩
  unfold fMax at hf
  split at hf
  · rename_i i j
    cases hf
    obtain ⟨x, y, rfl, h1, h2⟩ := hv.two
    cases h1.int
    cases h2.int
    exact ⟨i, j, rfl, hq.1 _ (.int _)⟩
  · cases hf
def fMin : List D → Option Nw
  | [.int i, .int j] => some (.v (.int (if j < i then j else i)))
  | _ => none
theorem cs_min (hc : X.calm = true) : CalS X (.builtin "min") fMin := by
  refine ⟨_, call_min2 hc, fun F H vs ds nw Q e hv hf hq => ?_⟩
  unfold fMin at hf
  split at hf
  · rename_i i j
    cases hf
    obtain ⟨x, y, rfl, h1, h2⟩ := hv.two
    cases h1.int
    cases h2.int
    exact ⟨i, j, rfl, hq.1 _ (.int _)⟩
  · cases hf
def blsOf : List D → Option (List Bool)
  | [] => some []
  | .bl i :: ds => (blsOf ds).map (i :: ·)
  | _ :: _ => none
theorem blsOf_eq : ∀ {ds : List D} {ns : List Bool}, blsOf ds = some ns → ds = ns.map D.bl
  | [], ns, h => by simp only [blsOf] at h; cases h; rfl
  | d :: ds, ns, h => by
    cases d <;> simp only [blsOf] at h <;> try (cases h; done)
    rename_i i
    cases q : blsOf ds with
    | none => rw [q] at h; cases h
    | some ms => rw [q] at h; cases h; rw [blsOf_eq q]; rfl
theorem blsOf_map : ∀ ns : List Bool, blsOf (ns.map D.bl) = some ns
  | [] => rfl
  | n :: ns => by simp only [List.map_cons, blsOf, blsOf_map ns]; rfl
def fAll : List D → Option Nw
  | [.lst ds] => (blsOf ds).map fun bs => .v (.bl (bs.all id))
  | _ => none
theorem cs_all (hc : X.calm = true) : CalS X (.builtin "all") fAll := by
  refine ⟨_, cr_all hc, fun F H vs ds nw Q e hv hf hq => ?_⟩
  cases hv with
  | nil => simp [fAll] at hf
  | cons h hv =>
    cases hv with
    | cons _ _ => simp [fAll] at hf
    | nil =>
      rename_i d
      cases d <;> simp only [fAll] at hf <;> try (cases hf; done)
      case lst xs =>
        cases q : blsOf xs with
        | none => rw [q] at hf; cases hf
        | some bs =>
          rw [q] at hf; cases hf
          obtain ⟨p, vs, rfl, h1, h2⟩ := h.lst e
          rw [blsOf_eq q] at h2
          rw [h2.toBls] at h1
          exact ⟨p, bs, rfl, SqL.of h1, hq.1 _ (.bl _)⟩
def fAny : List D → Option Nw
  | [.lst ds] => (blsOf ds).map fun bs => .v (.bl (bs.any id))
  | _ => none
theorem cs_any (hc : X.calm = true) : CalS X (.builtin "any") fAny := by
  refine ⟨_, cr_any hc, fun F H vs ds nw Q e hv hf hq => ?_⟩
  cases hv with
  | nil => simp [fAny] at hf
  | cons h hv =>
    cases hv with
    | cons _ _ => simp [fAny] at hf
    | nil =>
      rename_i d
      cases d <;> simp only [fAny] at hf <;> try (cases hf; done)
      case lst xs =>
        cases q : blsOf xs with
        | none => rw [q] at hf; cases hf
        | some bs =>
          rw [q] at hf; cases hf
          obtain ⟨p, vs, rfl, h1, h2⟩ := h.lst e
          rw [blsOf_eq q] at h2
          rw [h2.toBls] at h1
          exact ⟨p, bs, rfl, SqL.of h1, hq.1 _ (.bl _)⟩
def fSum : List D → Option Nw
  | [.lst ds] => (intsOf ds).map fun bs => .v (.int bs.sum)
  | _ => none
theorem cs_sum (hc : X.calm = true) : CalS X (.builtin "sum") fSum := by
  refine ⟨_, cr_sum hc, fun F H vs ds nw Q e hv hf hq => ?_⟩
  cases hv with
  | nil => simp [fSum] at hf
  | cons h hv =>
    cases hv with
    | cons _ _ => simp [fSum] at hf
    | nil =>
      rename_i d
      cases d <;> simp only [fSum] at hf <;> try (cases hf; done)
      case lst xs =>
        cases q : intsOf xs with
        | none => rw [q] at hf; cases hf
        | some bs =>
          rw [q] at hf; cases hf
          obtain ⟨p, vs, rfl, h1, h2⟩ := h.lst e
          rw [intsOf_eq q] at h2
          rw [h2.toInts] at h1
          exact ⟨p, bs, rfl, SqL.of h1, hq.1 _ (.int _)⟩
def tyn : D → Option String
  | .non => some "NoneType"
  | .bl _ => some "bool"
  | .int _ => some "int"
  | .str _ => some "str"
  | .tup _ => some "tuple"
  | .lst _ => some "list"
  | _ => none
def isT (a b : String) : Bool := a == b || (a == "bool" && b == "int")
def isTys : List String := ["NoneType", "bool", "int", "str", "tuple", "list"]
def isCls : List String := ["bool", "int", "str", "tuple", "list"]
theorem kit_tab : ∀ a ∈ isTys, ∀ b ∈ isCls, kitB a b = some (isT a b) := by decide +kernel
def fIsi : List D → Option Nw
  | [d, .ty n] => if n ∈ isCls then (tyn d).map fun t => .v (.bl (isT t n)) else none
  | _ => none
def fIsi2 (a b : String) : List D → Option Nw
  | [d] => if a ∈ isCls ∧ b ∈ isCls then (tyn d).map fun t => .v (.bl (isT t a || isT t b)) else none
  | _ => none
theorem tyn_mem {d : D} {t : String} (h : tyn d = some t) : t ∈ isTys := by
  cases d <;> simp only [tyn] at h <;> first | (cases h; decide) | cases h
theorem tyx {K : PySem.W.Frag} {F H : Hp} {v : V} {d : D} {t : String} (e : Ex F H) (h : Rh K F H v d) (ht : tyn d = some t) : TyX K H v (.type t) := by
  cases d <;> simp only [tyn] at ht <;> try (cases ht; done)
  case non => cases ht; cases h.non; exact .base .non
  case bl => cases ht; cases h.bl; exact .base (.bl _)
  case int => cases ht; cases h.int; exact .base (.int _)
  case str => cases ht; cases h.str; exact .base (.str _)
  case lst =>
    cases ht
    obtain ⟨p, vs, rfl, h1, h2⟩ := h.lst e
    exact .base (.lst h1)
  case tup =>
    cases ht
    obtain ⟨p, vs, rfl, h1, h2⟩ := h.tup e
    rcases h1 with (h1 | ⟨o, h1⟩) | ⟨o, its, n, hk, hc, _⟩
    · exact .base (.tup h1)
    · exact .fTuple h1
    · exact .kTuple hk hc
theorem cs_isi : CalS X (.builtin "isinstance") fIsi := by
  refine ⟨_, call_isi, fun F H vs ds nw Q e hv hf hq => ?_⟩
  unfold fIsi at hf
  split at hf
  · rename_i d n
    split at hf
    · rename_i hn
      cases q : tyn d with
      | none => rw [q] at hf; cases hf
      | some t =>
        rw [q] at hf; cases hf
        obtain ⟨x, y, rfl, h1, h2⟩ := hv.two
        cases h2.ty
        exact ⟨x, .ty n, .type t, .type n, _, rfl, .ty n, tyx e h1 q, kit_ty (kit_tab t (tyn_mem q) n hn), hq.1 _ (.bl _)⟩
    · cases hf
  · cases hf
theorem sx_isi2 {na nb : String} {xa xb : Str} {p pa pb tp : Pos} {k : Nat} (hg : Gl X "isinstance") (hm : X.mg "isinstance" = none) (he : SX X W e m) (ga : Gl X xa) (ma : X.mg xa = none) (va : bootBuiltins xa = some (.type na)) (gb : Gl X xb) (mb : X.mg xb = none) (vb : bootBuiltins xb = some (.type nb))
    (hv : bootBuiltins "isinstance" = some (.builtin "isinstance") := by decide +kernel) (hna : xa ≠ "__name__" := by decide) (hda : (xa == ("__debug__" : Str)) = false := by decide) (hnb : xb ≠ "__name__" := by decide) (hdb : (xb == ("__debug__" : Str)) = false := by decide)
    (hs : starEach [e, .Tuple [.Name xa pa, .Name xb pb] k tp] X.env = (false, eval e X.env) :: starEach [.Tuple [.Name xa pa, .Name xb pb] k tp] X.env := by rfl)
    (hs2 : starEach [.Tuple [.Name xa pa, .Name xb pb] k tp] X.env = (false, eval (.Tuple [.Name xa pa, .Name xb pb] k tp) X.env) :: starEach [] X.env := by rfl)
    (hs3 : starEach [.Name xa pa, .Name xb pb] X.env = (false, eval (.Name xa pa) X.env) :: starEach [.Name xb pb] X.env := by rfl) (hs4 : starEach [.Name xb pb] X.env = (false, eval (.Name xb pb) X.env) :: starEach [] X.env := by rfl)
    (hpl : (backTo pos (starEach [.Tuple [.Name xa pa, .Name xb pb] k tp] X.env)).any (·.1) = false := by rfl) :
    SX X W (.Call (.Name "isinstance" p) [e, .Tuple [.Name xa pa, .Name xb pb] k tp] [] pos) (mB (fIsi2 na nb) (mA1 m mA0)) := by
  obtain ⟨t, pt, st⟩ := he
  refine ⟨_, pe_callB call_isiT hg hm hv (pa_cons pt (pa_cons (pe_tup (pa_cons (pe_bltn ga ma va (v := .ty na) rfl hna hda) (pa_cons (pe_bltn gb mb vb (v := .ty nb) rfl hnb hdb) pa_nil hs4) hs3)) pa_nil hs2) hs) (by decide) (by decide) hs hpl,
    sdX_BG (r := fun vs H Q => match vs with | [x] => 2 ≤ sizeLine ∧ ∀ p, H p = none → rIsiT X.K [x, .ref p] (upd H p (.tup [.ty na, .ty nb])) Q | _ => False) (sdA_cons st sdA_nil) (fun σ H Q h => h) fun F H vs ds nw Q e hv hf hy => ?_⟩
  unfold fIsi2 at hf
  split at hf
  · rename_i d
    split at hf
    · rename_i hn
      cases q : tyn d with
      | none => rw [q] at hf; cases hf
      | some t =>
        rw [q] at hf; cases hf
        obtain ⟨x, rfl, h1⟩ := hv.one
        refine ⟨by decide, fun p hp => ?_⟩
        have e2 : Ex H (upd H p (.tup [.ty na, .ty nb])) := ex_new hp
        have h1' : Rh X.K F (upd H p (.tup [.ty na, .ty nb])) x d := by
          rcases h1 with ⟨p', vs, ds, rfl, rfl, a1, a2⟩ | h1
          · exact .inl ⟨p', vs, ds, rfl, rfl, e2 _ _ a1, a2⟩
          · exact .inr h1
        refine ⟨x, p, _, .type t, [.type na, .type nb], isT t na || isT t nb, rfl, upd_same, .cons (.ty na) (.cons (.ty nb) .nil), tyx (Ex.trans e e2) h1' q, ?_, (hy _ e2).1 _ (.bl _)⟩
        refine kitAny_cons (kit_ty (kit_tab t (tyn_mem q) na hn.1)) (fun z => ?_) (fun z => by rw [z, Bool.true_or])
        rw [z, Bool.false_or]
        refine kitAny_cons (kit_ty (kit_tab t (tyn_mem q) nb hn.2)) (fun z => ?_) (fun z => z)
        rw [z]; exact kitAny_nil
    · cases hf
  · cases hf
theorem RhA.rpA {K : PySem.W.Frag} {F H : Hp} : ∀ {vs : List V} {ds : List D}, (∀ d ∈ ds, Rg.lf d = true ∨ ∀ xs, d ≠ .lst xs) → RhA K F H vs ds → RpA K F vs ds
  | _, _, _, .nil => .nil
  | _, _, h, .cons q a => .cons (q.rp fun xs z => by
      subst z
      rcases h _ (List.mem_cons_self ..) with z | z
      · rw [lf_lst] at z; cases z
      · exact z xs rfl) (RhA.rpA (fun d hd => h d (List.mem_cons_of_mem _ hd)) a)
def fz1 (b : BV) (ds : List D) (Γ : Env) : Option (List D × Env) := match b with
  | .v d => some (d :: ds, Γ)
  | .s i => (match gt Γ i with
    | .o xs => some (.lst xs :: ds, Γ.set i (.v (.lst xs)))
    | .v d => some (d :: ds, Γ)
    | .no => none)
  | .o _ => none
def fzL : List BV → Env → Option (List D × Env)
  | [], Γ => some ([], Γ)
  | b :: bs, Γ => (fzL bs Γ).bind fun z => fz1 b z.1 z.2
def mFzA (ma : Env → R (List BV × Env)) : Env → R (List D × Env) := fun Γ => (ma Γ).bind fun y => match fzL y.1 y.2 with
  | some z => .ok z
  | none => .bad
theorem Rel.fzA {K : PySem.W.Frag} {a0 : Addr} {G : Hp} {σ : L2.St} {H : Hp} : ∀ {bs : List BV} {vs : List V} {Γ : Env} {F : Hp} {ds : List D} {Γ' : Env}, Rel K a0 G Γ σ H F → BsA K σ F vs bs →
    fzL bs Γ = some (ds, Γ') → ∃ F', Ex F F' ∧ Rel K a0 G Γ' σ H F' ∧ RpA K F' vs ds
  | [], _, Γ, F, ds, Γ', r, .nil, h => by
    simp only [fzL] at h
    cases h
    exact ⟨F, Ex.refl F, r, .nil⟩
  | b :: bs, _, Γ, F, ds, Γ', r, .cons hb a, h => by
    simp only [fzL] at h
    cases q : fzL bs Γ with
    | none => rw [q] at h; cases h
    | some z =>
      rw [q] at h
      obtain ⟨es, Γ1⟩ := z
      obtain ⟨F1, e1, r1, h1⟩ := Rel.fzA r a q
      simp only [Option.bind_some, fz1] at h
      cases b with
      | o xs => cases h
      | v d => cases h; exact ⟨F1, e1, r1, .cons (Rp.mono e1 hb) h1⟩
      | s i =>
        have hb : σ[i]? = some (some _) := hb
        dsimp only at h
        cases g : gt Γ1 i with
        | no => rw [g] at h; cases h
        | v d =>
          rw [g] at h; cases h
          obtain ⟨v, a1, a2⟩ := r1.getv g
          rw [a1] at hb; cases hb
          exact ⟨F1, e1, r1, .cons a2 h1⟩
        | o xs =>
          rw [g] at h; cases h
          obtain ⟨p, vs, a1, e2, a2, r2⟩ := r1.frz g
          rw [a1] at hb; cases hb
          exact ⟨_, Ex.trans e1 e2, r2, .cons (.lst upd_same (a2.mono e2)) (h1.mono e2)⟩
theorem sdA_fz {K : PySem.W.Frag} {mg : Str → Option Value} {t : TA} {ma : Env → R (List BV × Env)} (h : SdA K mg W t ma) {a0 : Addr} {G : Hp} {Γ : Env} {σ : L2.St} {H F : Hp} {Q : List V → Hp → Prop} (r : Rel K a0 G Γ σ H F)
    (hk : OkG K mg G F W (fun y => ∀ vs H' F', Ex F F' → Rel K a0 G y.2 σ H' F' → RpA K F' vs y.1 → Q vs H') (mFzA ma Γ)) : t σ H Q := by
  refine h a0 G Γ σ H F Q r (okG_bind hk fun y _ hy => ?_)
  intro vs H1 F1 e1 r1 hb
  cases x : fzL y.1 y.2 with
  | none => rw [x] at hy; exact hy.elim
  | some z =>
    rw [x] at hy
    obtain ⟨ds, Γ'⟩ := z
    obtain ⟨F2, e2, r2, h2⟩ := Rel.fzA r1 hb x
    exact hy vs H1 F2 (Ex.trans e1 e2) r2 h2
def mTup (ma : Env → R (List BV × Env)) : Env → R (BV × Env) := fun Γ => (mFzA ma Γ).bind fun y => if y.1.length ≤ SZ then .ok (.v (.tup y.1), y.2) else .bad
def mLst (ma : Env → R (List BV × Env)) : Env → R (BV × Env) := fun Γ => (mFzA ma Γ).bind fun y => if y.1.length ≤ SZ then .ok (.o y.1, y.2) else .bad
theorem sx_tup {k : Nat} (h : SA X W es mas) : SX X W (.Tuple es k pos) (mTup mas) := by
  obtain ⟨t, p, s⟩ := h
  refine ⟨_, pe_tup p, fun a0 G Γ σ H F Q r hk => ?_⟩
  refine sdA_fz s r (okG_bind hk fun y _ hy vs H1 F1 e1 r1 hv => ?_)
  split at hy
  · rename_i hz
    refine ⟨by rw [hv.length]; exact sz_le hz, fun p hp => ?_⟩
    obtain ⟨e2, r2⟩ := r1.newF (o := .tup vs) hp
    exact hy (.ref p) _ _ (Ex.trans e1 e2) r2 (.tup (.inl (.inl upd_same)) (hv.mono e2))
  · exact hy.elim
theorem sx_lst (h : SA X W es mas) : SX X W (.List es pos) (mLst mas) := by
  obtain ⟨t, p, s⟩ := h
  refine ⟨_, pe_lst p, fun a0 G Γ σ H F Q r hk => ?_⟩
  refine sdA_fz s r (okG_bind hk fun y _ hy vs H1 F1 e1 r1 hv => ?_)
  split at hy
  · rename_i hz
    refine ⟨by rw [hv.length]; exact sz_le hz, fun p hp => ?_⟩
    obtain ⟨hG, r2⟩ := r1.newT (vs := vs) hp
    exact hy p vs _ F1 e1 hG r2 hv
  · exact hy.elim
theorem RpA.atI {K : PySem.W.Frag} {F : Hp} {vs : List V} {ds : List D} {i : Int} {d : D} (h : RpA K F vs ds) (e : atI ds i = some d) : ∃ v, L2.atI vs i = some v ∧ Rp K F v d := by
  unfold L2.atI at e ⊢
  rw [h.length]
  cases q : ixN ds.length i with
  | none => rw [q] at e; cases e
  | some j =>
    rw [q] at e
    exact h.get e
def fIx : List D → Option Nw
  | [.lst xs, .int i] => (atI xs i).map .v
  | [.tup xs, .int i] => (atI xs i).map .v
  | [.str x, .int i] => if x.length ≤ SZ then (atI x.cps.toList i).map fun c => .v (.str ⟨#[c]⟩) else none
  | _ => none
theorem sx_ix (ha : SX X W a ma) (hb : SX X W b mb) (hs : PlainIx b := by exact fun _ _ => rfl) : SX X W (.Subscript a b pos) (mB (two fIx) (mA1 ma (mA1 mb mA0))) := by
  obtain ⟨ta, pa, sa⟩ := ha
  obtain ⟨tb, pb, sb⟩ := hb
  refine ⟨_, pe_ix ix_seq pa pb hs, sdX_op (f := getItem) two_len (fun F H x y dx dy nw Q e hx hy hf hq => ?_) sa sb⟩
  simp only [two] at hf
  unfold fIx at hf
  split at hf
  · rename_i xs i h0
    cases h0
    cases q : L2.atI xs i with
    | none => rw [q] at hf; cases hf
    | some d =>
      rw [q] at hf; cases hf
      cases hy.int
      obtain ⟨p, vs, rfl, h1, h2⟩ := hx.lst e
      obtain ⟨v, h3, h4⟩ := h2.atI q
      exact .inl ⟨p, vs, i, v, rfl, rfl, SqL.of h1, h3, hq.1 _ h4⟩
  · rename_i xs i h0
    cases h0
    cases q : L2.atI xs i with
    | none => rw [q] at hf; cases hf
    | some d =>
      rw [q] at hf; cases hf
      cases hy.int
      obtain ⟨p, vs, rfl, h1, h2⟩ := hx.tup e
      obtain ⟨v, h3, h4⟩ := h2.atI q
      exact .inr (.inl ⟨p, vs, i, v, rfl, rfl, h1, h3, hq.1 _ h4⟩)
  · rename_i x i h0
    cases h0
    split at hf
    · rename_i hz
      cases q : L2.atI x.cps.toList i with
      | none => rw [q] at hf; cases hf
      | some c =>
        rw [q] at hf; cases hf
        cases hy.int
        cases hx.str
        exact .inr (.inr ⟨x, i, c, rfl, rfl, sz_le hz, q, hq.1 _ (.str _)⟩)
    · cases hf
  · cases hf
def cutD (xs : List D) (lo hi : Option Int) : List D := (xs.drop (HT.sIx xs.length 0 lo)).take (HT.sIx xs.length xs.length hi - HT.sIx xs.length 0 lo)
theorem RpA.cut {K : PySem.W.Frag} {F : Hp} {vs : List V} {ds : List D} (h : RpA K F vs ds) (lo hi : Option Int) : RpA K F (cutV vs lo hi) (cutD ds lo hi) := by
  unfold cutV cutD
  rw [h.length]
  exact (h.drop _).take _
def fSl (lo hi : Option Int) : D → Option Nw
  | .lst xs => some (.o (cutD xs lo hi))
  | .tup xs => some (.v (.tup (cutD xs lo hi)))
  | .scr ns => some (.o (cutD (ns.map D.int) lo hi))
  | _ => none
theorem sl_any {F H : Hp} {x : V} {d : D} {nw : Nw} {lo hi : Option Int} {Q : VK} (e : Ex F H) (hx : Rh X.K F H x d) (hf : fSl lo hi d = some nw) (hq : Yld X.K F H nw Q) : (rSlL X.K x lo hi H Q ∨ rSlA X.K x lo hi H Q) := by
  cases d <;> simp only [fSl] at hf <;> try (cases hf; done)
  case lst xs =>
    cases hf
    obtain ⟨p, vs, rfl, h1, h2⟩ := hx.lst e
    exact .inl ⟨p, vs, rfl, SqL.of h1, fun q hp => hq q _ hp (h2.cut lo hi)⟩
  case scr ns =>
    cases hf
    obtain ⟨p, rfl, h1⟩ := hx.scr e
    exact .inl ⟨p, _, rfl, h1, fun q hp => hq q _ hp (RpA.ints.cut lo hi)⟩
  case tup xs =>
    cases hf
    have hx' := hx.rp (fun _ z => by cases z)
    obtain ⟨p, vs, rfl, h1, h2⟩ := hx.tup e
    refine .inr ⟨p, vs, rfl, h1, fun z => hq.1 _ ?_, fun _ q hp => hq.2 _ q _ rfl hp (h2.cut lo hi)⟩
    have : cutD xs lo hi = xs := by
      unfold cutD
      rw [h2.length] at z
      rw [z.1, z.2]
      simp
    rw [this]
    exact hx'
def fSlH : List D → Option Nw
  | [x, .int i] => fSl none (some i) x
  | _ => none
def fSlL : List D → Option Nw
  | [x, .int i] => fSl (some i) none x
  | _ => none
def fSlB : List D → Option Nw
  | [x, .int i, .int j] => fSl (some i) (some j) x
  | _ => none
theorem sx_slH {p2 : Pos} (ha : SX X W a ma) (hb : SX X W b mb) : SX X W (.Subscript a (.Slice none (some b) none p2) pos) (mB fSlH (mA1 ma (mA1 mb mA0))) := by
  obtain ⟨ta, pa, sa⟩ := ha
  obtain ⟨tb, pb, sb⟩ := hb
  refine ⟨_, pe_slice (sl_list.or sl_tupA) pa po_none (po_some pb), sdX_B (r := fun vs H Q => match vs with | [x, y] => ∃ i, y = .int i ∧ (rSlL X.K x none (some i) H Q ∨ rSlA X.K x none (some i) H Q) | _ => False) (sdA_cons sa (sdA_cons sb sdA_nil)) (fun σ H Q h => h) fun F H vs ds nw Q e hv hf hy => ?_⟩
  unfold fSlH at hf
  split at hf
  · rename_i x i
    obtain ⟨x, y, rfl, h1, h2⟩ := hv.two
    cases h2.int
    exact ⟨i, rfl, sl_any e h1 hf hy⟩
  · cases hf
theorem sx_slL {p2 : Pos} (ha : SX X W a ma) (hb : SX X W b mb) : SX X W (.Subscript a (.Slice (some b) none none p2) pos) (mB fSlL (mA1 ma (mA1 mb mA0))) := by
  obtain ⟨ta, pa, sa⟩ := ha
  obtain ⟨tb, pb, sb⟩ := hb
  refine ⟨_, pe_slice (sl_list.or sl_tupA) pa (po_some pb) po_none, sdX_B (r := fun vs H Q => match vs with | [x, y] => ∃ i, y = .int i ∧ (rSlL X.K x (some i) none H Q ∨ rSlA X.K x (some i) none H Q) | _ => False) (sdA_cons sa (sdA_cons sb sdA_nil)) (fun σ H Q h => h) fun F H vs ds nw Q e hv hf hy => ?_⟩
  unfold fSlL at hf
  split at hf
  · rename_i x i
    obtain ⟨x, y, rfl, h1, h2⟩ := hv.two
    cases h2.int
    exact ⟨i, rfl, sl_any e h1 hf hy⟩
  · cases hf
end
end Rg
namespace Rg
open PySem L2
inductive Fl where
  | nx (Γ : Env) | rt (w : Nw) (Γ : Env) | bk (Γ : Env) | ct (Γ : Env)
def PF (K : PySem.W.Frag) (a0 : Addr) (G F : Hp) (E : Ends) : Fl → Prop
  | .nx Γ => ∀ σ H F', Ex F F' → Rel K a0 G Γ σ H F' → E.nx σ H
  | .bk Γ => ∀ σ H F', Ex F F' → Rel K a0 G Γ σ H F' → E.bk σ H
  | .ct Γ => ∀ σ H F', Ex F F' → Rel K a0 G Γ σ H F' → E.ct σ H
  | .rt (.v d) Γ => ∀ σ v H F', Ex F F' → Rel K a0 G Γ σ H F' → Rp K F' v d → E.rt v H
  | .rt (.o xs) Γ => ∀ σ p vs H F', Ex F F' → G p = none → Rel K a0 (upd G p (.lst vs)) Γ σ H F' → RpA K F' vs xs → E.rt (.ref p) H
def SdS (K : PySem.W.Frag) (mg : Str → Option Value) (W : WX) (t : TS) (m : Env → R Fl) : Prop :=
  ∀ a0 G Γ σ H F E, Rel K a0 G Γ σ H F → OkG K mg G F W (PF K a0 G F E) (m Γ) → t E σ H
def SS (X : Cx) (W : WX) (st : Stmt) (m : Env → R Fl) : Prop := ∃ t, PS X st t ∧ SdS X.K X.mg W t m
def SSs (X : Cx) (W : WX) (st : List Stmt) (m : Env → R Fl) : Prop := ∃ t, PSs X st t ∧ SdS X.K X.mg W t m
section
variable {K : PySem.W.Frag} {mg : Str → Option Value} {a0 : Addr} {G F F1 H : Hp} {Γ : Env} {σ : L2.St} {W : WX}
theorem PF.mono {E : Ends} {f : Fl} (e : Ex F F1) (h : PF K a0 G F E f) : PF K a0 G F1 E f := by
  cases f with
  | nx Γ => exact fun σ H F' e' => h σ H F' (Ex.trans e e')
  | bk Γ => exact fun σ H F' e' => h σ H F' (Ex.trans e e')
  | ct Γ => exact fun σ H F' e' => h σ H F' (Ex.trans e e')
  | rt w Γ =>
    cases w with
    | v d => exact fun σ v H F' e' => h σ v H F' (Ex.trans e e')
    | o xs => exact fun σ p vs H F' e' => h σ p vs H F' (Ex.trans e e')
theorem Rel.forget {i : Nat} {o : Option V} (r : Rel K a0 G Γ σ H F) : Rel K a0 G (Γ.set i .no) (σ.set i o) H F := by
  obtain ⟨O, ad, x⟩ := r
  have key : ∀ {j s}, gt (Γ.set i .no) j = s → s ≠ .no → j ≠ i ∧ gt Γ j = s := fun {j s} q n => by
    have hj : j ≠ i := fun z => by
      subst z
      have hl : j < Γ.length := by simpa using gt_lt q n
      rw [gt_set_same hl] at q; exact n q.symm
    rw [gt_set_ne hj] at q
    exact ⟨hj, q⟩
  refine ⟨O, ad, ⟨x.wd, x.o, x.fo, x.go, fun j d q => ?_, fun j xs q => ?_, fun j k xs ys q1 q2 q3 => x.inj j k xs ys (key q1 (by simp)).2 (key q2 (by simp)).2 q3, fun xs q => x.z xs (key q (by simp)).2, by simpa using x.len, x.ol⟩⟩
  · obtain ⟨hj, q'⟩ := key q (by simp)
    rw [List.getElem?_set_ne (Ne.symm hj)]
    exact x.v j d q'
  · obtain ⟨hj, q'⟩ := key q (by simp)
    rw [List.getElem?_set_ne (Ne.symm hj)]
    exact x.ow j xs q'
theorem Rel.forget' {i : Nat} (r : Rel K a0 G Γ σ H F) : Rel K a0 G (Γ.set i .no) σ H F := by
  have h := r.forget (i := i) (o := σ[i]?.join)
  by_cases hi : i < σ.length
  · have : σ.set i σ[i]?.join = σ := by
      rw [List.getElem?_eq_getElem hi, Option.join_some, List.set_getElem_self]
    rwa [this] at h
  · rw [List.set_eq_of_length_le (Nat.le_of_not_lt hi)] at h
    exact h
theorem Rel.give {i : Nat} {xs : List D} (r : Rel K a0 G Γ σ H F) (g : gt Γ i = .o xs) : ∃ p vs, σ[i]? = some (some (.ref p)) ∧ G p = none ∧ Rel K a0 (upd G p (.lst vs)) (Γ.set i .no) σ H F ∧ RpA K F vs xs := by
  have r0 := r
  obtain ⟨O, ad, x⟩ := r
  obtain ⟨h1, vs, h2, h3⟩ := x.ow i xs g
  have hF : F (ad i) = none := (x.fo (ad i)).elim id fun q => by rw [h2] at q; cases q
  have hG : G (ad i) = none := (x.go (ad i)).elim id fun q => by rw [h2] at q; cases q
  have hl : i < Γ.length := gt_lt g (by simp)
  have key : ∀ {j s}, gt (Γ.set i .no) j = s → s ≠ .no → j ≠ i ∧ gt Γ j = s := fun {j s} q n => by
    have hj : j ≠ i := fun z => by subst z; rw [gt_set_same hl] at q; exact n q.symm
    rw [gt_set_ne hj] at q
    exact ⟨hj, q⟩
  have eO : Ex (fun b => if b = ad i then none else O b) O := fun b u q => by
    by_cases hb : b = ad i
    · simp [hb] at q
    · simpa [hb] using q
  refine ⟨ad i, vs, h1, hG, ⟨fun b => if b = ad i then none else O b, ad, ⟨⟨x.wd.f, ex_updL x.wd.g (x.o _ _ h2), dj_upd' x.wd.d hF, x.wd.tb.to (fun _ _ q _ => q) x.wd.tb.nf (ng_upd x.wd.tb.ng)⟩, Ex.trans eO x.o, fun b => (x.fo b).elim .inl fun q => .inr (none_of_ex eO q), fun b => ?_, fun j d q => ?_, fun j ys q => ?_,
    fun j k ys zs q1 q2 q3 => x.inj j k ys zs (key q1 (by simp)).2 (key q2 (by simp)).2 q3, fun ys q => x.z ys (key q (by simp)).2, by simpa using x.len, fun b o q => x.ol b o (eO b o q)⟩⟩, h3⟩
  · by_cases hb : b = ad i
    · exact .inr (if_pos hb)
    · rw [upd_ne hb]; exact (x.go b).elim .inl fun q => .inr (none_of_ex eO q)
  · obtain ⟨hj, q'⟩ := key q (by simp)
    exact x.v j d q'
  · obtain ⟨hj, q'⟩ := key q (by simp)
    obtain ⟨a1, us, a2, a3⟩ := x.ow j ys q'
    refine ⟨a1, us, ?_, a3⟩
    show (if ad j = ad i then none else O (ad j)) = _
    rw [if_neg fun z => hj (x.inj j i ys xs q' g z)]
    exact a2
end
def mNx : Env → R Fl := fun Γ => .ok (.nx Γ)
def mSeq (a b : Env → R Fl) : Env → R Fl := fun Γ => (a Γ).bind fun f => match f with
  | .nx Γ1 => b Γ1
  | f => .ok f
def mDrop (m : Env → R (BV × Env)) : Env → R Fl := fun Γ => (m Γ).bind fun x => .ok (.nx x.2)
def mRet (m : Env → R (BV × Env)) : Env → R Fl := fun Γ => (m Γ).bind fun x => match x.1 with
  | .v d => .ok (.rt (.v d) x.2)
  | .o xs => .ok (.rt (.o xs) x.2)
  | .s i => (match gt x.2 i with
    | .o xs => .ok (.rt (.o xs) (x.2.set i .no))
    | .v d => .ok (.rt (.v d) x.2)
    | .no => .bad)
def mRetN : Env → R Fl := fun Γ => .ok (.rt (.v .non) Γ)
def mIf (c : Env → R (Bool × Env)) (a b : Env → R Fl) : Env → R Fl := fun Γ => (c Γ).bind fun x => if x.1 = true then a x.2 else b x.2
def mBad : Env → R Fl := fun _ => .bad
def mBk : Env → R Fl := fun Γ => .ok (.bk Γ)
def mCt : Env → R Fl := fun Γ => .ok (.ct Γ)
def stB (i : Nat) (b : BV) (Γ : Env) : Option Env := match b with
  | .v d => some (Γ.set i (.v d))
  | .o xs => if 0 < i then some (Γ.set i (.o xs)) else none
  | .s j => (match gt Γ j with
    | .o xs => some ((Γ.set j (.v (.lst xs))).set i (.v (.lst xs)))
    | .v d => some (Γ.set i (.v d))
    | .no => none)
def mSet (i : Nat) (m : Env → R (BV × Env)) : Env → R Fl := fun Γ => (m Γ).bind fun x => match stB i x.1 x.2 with
  | some Γ1 => .ok (.nx Γ1)
  | none => .bad
section
variable {X : Cx} {W : WX} {st : Stmt} {sts : List Stmt} {e a b c : Expr} {pos : Pos} {m ma mb : Env → R Fl} {me mi : Env → R (BV × Env)} {mc : Env → R (Bool × Env)} {mas : Env → R (List BV × Env)}
theorem ss_nil : SSs X W [] mNx := ⟨_, pss_nil, fun a0 G Γ σ H F E r h => h σ H F (Ex.refl F) r⟩
theorem ss_cons (h1 : SS X W st ma) (h2 : SSs X W sts mb) : SSs X W (st :: sts) (mSeq ma mb) := by
  obtain ⟨t, p, s⟩ := h1
  obtain ⟨u, q, z⟩ := h2
  refine ⟨_, pss_cons p q, fun a0 G Γ σ H F E r h => ?_⟩
  refine s a0 G Γ σ H F { E with nx := u E } r (okG_bind h fun f _ hf => ?_)
  cases f with
  | nx Γ1 => exact fun σ1 H1 F1 e1 r1 => z a0 G Γ1 σ1 H1 F1 E r1 (okG_mono e1 hf fun f _ hf => hf.mono e1)
  | bk Γ1 => exact hf
  | ct Γ1 => exact hf
  | rt w Γ1 => cases w <;> exact hf
theorem ss_one (h1 : SS X W st ma) : SSs X W [st] ma := let ⟨_, p, s⟩ := h1; ⟨_, pss_one p, s⟩
theorem ss_pass : SS X W (.Pass pos) mNx := ⟨_, ps_pass, fun a0 G Γ σ H F E r h => h σ H F (Ex.refl F) r⟩
theorem ss_break : SS X W (.Break pos) mBk := ⟨_, ps_break, fun a0 G Γ σ H F E r h => h σ H F (Ex.refl F) r⟩
theorem ss_continue : SS X W (.Continue pos) mCt := ⟨_, ps_continue, fun a0 G Γ σ H F E r h => h σ H F (Ex.refl F) r⟩
theorem ss_never : SS X W st mBad := ⟨_, ps_never, fun a0 G Γ σ H F E r h => h.elim⟩
theorem ss_expr (h : SX X W e me) (hs : swapsWith e none pos.line X.env = pure false := by rfl) : SS X W (.Expr e pos) (mDrop me) := by
  obtain ⟨t, p, s⟩ := h
  refine ⟨_, ps_expr p hs, fun a0 G Γ σ H F E r h => ?_⟩
  refine s a0 G Γ σ H F _ r (okG_bind h fun x _ hx => ?_)
  obtain ⟨b, Γ1⟩ := x
  exact PX_fz fun v H1 F1 e1 r1 _ => hx σ H1 F1 e1 r1
theorem ss_ret (h : SX X W e me) : SS X W (.Return (some e) pos) (mRet me) := by
  obtain ⟨t, p, s⟩ := h
  refine ⟨_, ps_ret p, fun a0 G Γ σ H F E r h => ?_⟩
  refine s a0 G Γ σ H F _ r (okG_bind h fun x _ hx => ?_)
  obtain ⟨b, Γ1⟩ := x
  cases b with
  | v d => exact fun v H1 F1 e1 r1 hv => hx σ v H1 F1 e1 r1 hv
  | o xs => exact fun p vs H1 F1 e1 hG r1 hv => hx σ p vs H1 F1 e1 hG r1 hv
  | s i =>
    intro v H1 F1 e1 r1 hv
    dsimp only at hx
    cases g : gt Γ1 i with
    | no => rw [g] at hx; exact hx.elim
    | v d =>
      rw [g] at hx
      obtain ⟨v', h1, h2⟩ := r1.getv g
      rw [h1] at hv; cases hv
      exact hx σ v H1 F1 e1 r1 h2
    | o xs =>
      rw [g] at hx
      obtain ⟨p, vs, h1, hG, r2, h2⟩ := r1.give g
      rw [h1] at hv; cases hv
      exact hx σ p vs H1 F1 e1 hG r2 h2
theorem ss_retN : SS X W (.Return none pos) mRetN := ⟨_, ps_retN, fun a0 G Γ σ H F E r h => h σ .non H F (Ex.refl F) r .non⟩
theorem ss_if {sa sb : List Stmt} (hc : ST X W c mc) (ha : SSs X W sa ma) (hb : SSs X W sb mb) : SS X W (.If c sa sb pos) (mIf mc ma mb) := by
  obtain ⟨t, p, s⟩ := hc
  obtain ⟨t1, p1, s1⟩ := ha
  obtain ⟨t2, p2, s2⟩ := hb
  refine ⟨_, ps_if p p1 p2, fun a0 G Γ σ H F E r h => ?_⟩
  refine s a0 G Γ σ H F _ r (okG_bind h fun x _ hx => ?_)
  obtain ⟨k, Γ1⟩ := x
  intro H1 F1 e1 r1
  dsimp only at hx ⊢
  cases k with
  | true => simp only [if_true] at hx ⊢; exact s1 a0 G Γ1 σ H1 F1 E r1 (okG_mono e1 hx fun y _ hy => hy.mono e1)
  | false => simp only [Bool.false_eq_true, if_false] at hx ⊢; exact s2 a0 G Γ1 σ H1 F1 E r1 (okG_mono e1 hx fun y _ hy => hy.mono e1)
theorem Rel.stB {K : PySem.W.Frag} {a0 : Addr} {G F : Hp} {σ : L2.St} {i : Nat} {b : BV} {Γ Γ' : Env} {N : L2.St → Hp → Prop} (hs : Rg.stB i b Γ = some Γ') (h : ∀ σ H F', Ex F F' → Rel K a0 G Γ' σ H F' → N σ H) :
    PX K a0 G F σ (fun v H => N (σ.set i (some v)) H) (b, Γ) := by
  cases b with
  | v d => cases hs; exact fun v H F' e r hv => h _ H F' e (r.setv hv)
  | o xs =>
    unfold Rg.stB at hs
    dsimp only at hs
    split at hs
    · rename_i hi; cases hs; exact fun p vs H F' e hG r hv => h _ H F' e (Rel.seto hi hG r hv)
    · cases hs
  | s j =>
    intro v H F' e r hv
    unfold Rg.stB at hs
    dsimp only at hs
    cases g : gt Γ j with
    | no => rw [g] at hs; cases hs
    | v d =>
      rw [g] at hs; cases hs
      obtain ⟨v', h1, h2⟩ := r.getv g
      rw [h1] at hv; cases hv
      exact h _ H F' e (r.setv h2)
    | o xs =>
      rw [g] at hs; cases hs
      obtain ⟨p, vs, h1, e2, h2, r2⟩ := r.frz g
      rw [h1] at hv; cases hv
      exact h _ H _ (Ex.trans e e2) (r2.setv (.lst upd_same (h2.mono e2)))
theorem sdS_set {t : TE} {i : Nat} (s : SdX X.K X.mg W t me) : SdS X.K X.mg W (tAsg t (gName i)) (mSet i me) := by
  intro a0 G Γ σ H F E r h
  refine s a0 G Γ σ H F _ r (okG_bind h fun x _ hx => ?_)
  obtain ⟨b, Γ1⟩ := x
  dsimp only at hx
  cases q : Rg.stB i b Γ1 with
  | none => rw [q] at hx; exact hx.elim
  | some Γ2 => rw [q] at hx; exact Rel.stB q fun σ H F' e r => hx σ H F' e r
theorem ss_set (i : Nat) {x : Str} {pos' : Pos} (hN : X.N.Nodup) (h : SX X W e me) (hi : X.N[i]? = some x := by rfl) (hx : Loc X.env.scope x := by first | exact Or.inl rfl | exact Or.inr rfl) (hs : swapsWith e (some (.Name x pos')) pos.line X.env = pure false := by rfl)
    (hf : X.fn x = true ∨ X.env.scope.names.lookup x = some .local := by first | exact .inl rfl | exact .inr rfl | assumption) : SS X W (.Assign [.Name x pos'] e pos) (mSet i me) := by
  obtain ⟨t, p, s⟩ := h
  exact ⟨_, ps_set hN hi hx p hs hf, sdS_set s⟩
theorem wipe_set_ne (σ : L2.St) (v : Option V) (i : Nat) : ∀ vs : List Nat, i ∉ vs → wipe (σ.set i v) vs = (wipe σ vs).set i v
  | [], _ => rfl
  | w :: vs, h => by
    have h' : i ≠ w ∧ i ∉ vs := ⟨fun z => h (by rw [z]; exact List.mem_cons_self ..), fun z => h (List.mem_cons_of_mem _ z)⟩
    simp only [wipe, wipe_set_ne σ v i vs h'.2]
    exact List.set_comm _ _ h'.1
theorem wipe_set (σ : L2.St) (v : Option V) (i : Nat) : ∀ vs : List Nat, i ∈ vs → wipe (σ.set i v) vs = wipe σ vs
  | [], h => by simp at h
  | w :: vs, h => by
    by_cases hm : i ∈ vs
    · simp only [wipe, wipe_set σ v i vs hm]
    · have e : i = w := (List.mem_cons.mp h).resolve_right hm
      subst e
      simp only [wipe, wipe_set_ne σ v i vs hm, List.set_set]
def Wp (σ' σ : L2.St) (ws : List Nat) : Prop := ∀ vs, (∀ w ∈ ws, w ∈ vs) → wipe σ' vs = wipe σ vs
def SdG (K : PySem.W.Frag) (g : TG) (f : D → Env → Option Env) (ws : List Nat) : Prop := ∀ a0 G Γ σ H F v d Γ' Q, Rel K a0 G Γ σ H F → Rp K F v d → f d Γ = some Γ' → (∀ σ' H' F', Ex F F' → Rel K a0 G Γ' σ' H' F' → Wp σ' σ ws → Q σ' H') → g v σ H Q
def SdGs (K : PySem.W.Frag) (g : TGs) (f : List D → Env → Option Env) (ws : List Nat) : Prop := ∀ a0 G Γ σ H F vs ds Γ' Q, Rel K a0 G Γ σ H F → RpA K F vs ds → f ds Γ = some Γ' → (∀ σ' H' F', Ex F F' → Rel K a0 G Γ' σ' H' F' → Wp σ' σ ws → Q σ' H') → g vs σ H Q
def SG (X : Cx) (tg : Expr) (f : D → Env → Option Env) (ws : List Nat) : Prop := ∃ g, PG X tg g ∧ SdG X.K g f ws
def SGs (X : Cx) (tgs : List Expr) (f : List D → Env → Option Env) (ws : List Nat) : Prop := ∃ g, PGs X tgs g ∧ SdGs X.K g f ws
def gN (i : Nat) : D → Env → Option Env := fun d Γ => some (Γ.set i (.v d))
def gs0 : List D → Env → Option Env := fun ds Γ => match ds with
  | [] => some Γ
  | _ => none
def gs1 (f : D → Env → Option Env) (fs : List D → Env → Option Env) : List D → Env → Option Env := fun ds Γ => match ds with
  | d :: ds => (f d Γ).bind fun Γ1 => fs ds Γ1
  | [] => none
def gT (n : Nat) (fs : List D → Env → Option Env) : D → Env → Option Env := fun d Γ => match d with
  | .tup ds => if ds.length = n then fs ds Γ else none
  | _ => none
theorem sg_name (i : Nat) {x : Str} (hN : X.N.Nodup) (hi : X.N[i]? = some x := by rfl) (hx : Loc X.env.scope x := by first | exact Or.inl rfl | exact Or.inr rfl) (hf : X.fn x = true ∨ X.env.scope.names.lookup x = some .local := by first | exact .inl rfl | exact .inr rfl | assumption) :
    SG X (.Name x pos) (gN i) [i] :=
  ⟨_, pg_name hN hi hx hf, fun a0 G Γ σ H F v d Γ' Q r hv hf h => by cases hf; exact h _ H F (Ex.refl F) (r.setv hv) fun vs hw => wipe_set σ _ i vs (hw i (List.mem_cons_self ..))⟩
theorem sgs_nil : SGs X [] gs0 [] := ⟨_, pgs_nil, fun a0 G Γ σ H F vs ds Γ' Q r hv hf h => by
  cases hv with
  | nil => cases hf; exact ⟨rfl, h σ H F (Ex.refl F) r fun _ _ => rfl⟩
  | cons _ _ => cases hf⟩
theorem sgs_cons {tg : Expr} {tgs : List Expr} {f : D → Env → Option Env} {fs : List D → Env → Option Env} {ws ws2 : List Nat} (h1 : SG X tg f ws) (h2 : SGs X tgs fs ws2) (hs : (assignEach (tg :: tgs) X.env).map (·.2) = assign tg X.env :: (assignEach tgs X.env).map (·.2) := by rfl) :
    SGs X (tg :: tgs) (gs1 f fs) (ws ++ ws2) := by
  obtain ⟨g, p, s⟩ := h1
  obtain ⟨u, q, z⟩ := h2
  refine ⟨_, pgs_cons p q hs, fun a0 G Γ σ H F vs ds Γ' Q r hv hf h => ?_⟩
  cases hv with
  | nil => cases hf
  | cons hv ha =>
    rename_i v vs d ds
    simp only [gs1] at hf
    cases q1 : f d Γ with
    | none => rw [q1] at hf; cases hf
    | some Γ1 =>
      rw [q1, Option.bind_some] at hf
      exact ⟨v, vs, rfl, s a0 G Γ σ H F v d Γ1 _ r hv q1 fun σ1 H1 F1 e1 r1 w1 => z a0 G Γ1 σ1 H1 F1 vs ds Γ' Q r1 (ha.mono e1) hf fun σ2 H2 F2 e2 r2 w2 => h σ2 H2 F2 (Ex.trans e1 e2) r2 fun us hu =>
        (w2 us fun w hw => hu w (List.mem_append_right _ hw)).trans (w1 us fun w hw => hu w (List.mem_append_left _ hw))⟩
theorem sg_tup {tgs : List Expr} {k n : Nat} {fs : List D → Env → Option Env} {ws : List Nat} (hc : X.calm = true) (h : SGs X tgs fs ws) (hn : (assignEach tgs X.env).length = n := by rfl) (hst : (assignEach tgs X.env).findIdx? (·.1) = none := by rfl) : SG X (.Tuple tgs k pos) (gT n fs) ws := by
  obtain ⟨g, p, s⟩ := h
  refine ⟨_, pg_tup hc p hn hst, fun a0 G Γ σ H F v d Γ' Q r hv hf h => ?_⟩
  unfold gT at hf
  split at hf
  · rename_i ds
    split at hf
    · rename_i hl
      cases hv with
      | tup h1 h2 => exact ⟨_, _, rfl, Evl.ex_t r.wd.f h1, h2.length.trans hl, s a0 G Γ σ H F _ ds Γ' Q r h2 hf h⟩
    · cases hf
  · cases hf
def mFz1 (m : Env → R (BV × Env)) : Env → R (D × Env) := fun Γ => (m Γ).bind fun x => match x.1.fz with
  | .v d => .ok (d, x.2)
  | .s i => (match gt x.2 i with
    | .o xs => .ok (.lst xs, x.2.set i (.v (.lst xs)))
    | .v d => .ok (d, x.2)
    | .no => .bad)
  | .o _ => .bad
theorem sdX_fz {K : PySem.W.Frag} {mg : Str → Option Value} {t : TE} {m : Env → R (BV × Env)} (h : SdX K mg W t m) {a0 : Addr} {G : Hp} {Γ : Env} {σ : L2.St} {H F : Hp} {Q : VK} (r : Rel K a0 G Γ σ H F)
    (hk : OkG K mg G F W (fun y => ∀ v H' F', Ex F F' → Rel K a0 G y.2 σ H' F' → Rp K F' v y.1 → Q v H') (mFz1 m Γ)) : t σ H Q := by
  refine h a0 G Γ σ H F Q r (okG_bind hk fun y _ hy => ?_)
  obtain ⟨b, Γ1⟩ := y
  refine PX_fz fun v H1 F1 e1 r1 hb => ?_
  dsimp only at hy
  cases q : b.fz with
  | o xs => rw [q] at hb; exact hb.elim
  | v d => rw [q] at hy hb; exact hy v H1 F1 e1 r1 hb
  | s i =>
    rw [q] at hy hb
    have hb : σ[i]? = some (some v) := hb
    dsimp only at hy
    cases g : gt Γ1 i with
    | no => rw [g] at hy; exact hy.elim
    | v d =>
      rw [g] at hy
      obtain ⟨v', h1, h2⟩ := r1.getv g
      rw [h1] at hb; cases hb
      exact hy v H1 F1 e1 r1 h2
    | o xs =>
      rw [g] at hy
      obtain ⟨p, vs, h1, e2, h2, r2⟩ := r1.frz g
      rw [h1] at hb; cases hb
      exact hy _ H1 _ (Ex.trans e1 e2) r2 (.lst upd_same (h2.mono e2))
def mAsg (f : D → Env → Option Env) (m : Env → R (BV × Env)) : Env → R Fl := fun Γ => (mFz1 m Γ).bind fun x => match f x.1 x.2 with
  | some Γ1 => .ok (.nx Γ1)
  | none => .bad
theorem ss_asg {tg : Expr} {f : D → Env → Option Env} {ws : List Nat} (h : SX X W e me) (hg : SG X tg f ws) (hs : swapsWithSole [tg] e pos.line X.env = pure false := by rfl) (hw : swappedStores [tg] e X.env = pure none := by rfl)
    (h1 : (assignEach [tg] X.env).map (·.2) = [assign tg X.env] := by rfl) : SS X W (.Assign [tg] e pos) (mAsg f me) := by
  obtain ⟨t, p, s⟩ := h
  obtain ⟨g, q, z⟩ := hg
  refine ⟨_, ps_asg p q hs hw h1, fun a0 G Γ σ H F E r h => ?_⟩
  refine sdX_fz s r (okG_bind h fun x _ hx v H1 F1 e1 r1 hv => ?_)
  cases q1 : f x.1 x.2 with
  | none => rw [q1] at hx; exact hx.elim
  | some Γ1 =>
    rw [q1] at hx
    exact z a0 G x.2 σ H1 F1 v x.1 Γ1 _ r1 hv q1 fun σ2 H2 F2 e2 r2 _ => hx σ2 H2 F2 (Ex.trans e1 e2) r2
def mPar (i j : Nat) (ma : Env → R (List BV × Env)) : Env → R Fl := fun Γ => (mFzA ma Γ).bind fun y => match y.1 with
  | [d, d2] => .ok (.nx ((y.2.set i (.v d)).set j (.v d2)))
  | _ => .bad
theorem ss_par (i j : Nat) {x y : Str} {px py pt pt2 : Pos} {kt k2 : Nat} (hc : X.calm = true) (hN : X.N.Nodup) (ha : SA X W [a, b] mas) (hi : X.N[i]? = some x := by rfl) (hj : X.N[j]? = some y := by rfl) (hij : i ≠ j := by decide)
    (hx : X.env.scope.names.lookup x = some .local := by rfl) (hy : X.env.scope.names.lookup y = some .local := by rfl)
    (hw : swappedStores [.Tuple [.Name x px, .Name y py] kt pt] (.Tuple [a, b] k2 pt2) X.env = pure (some [x, y]) := by rfl)
    (hs : swapsWithSole [.Tuple [.Name x px, .Name y py] kt pt] (.Tuple [a, b] k2 pt2) pos.line X.env = pure false := by rfl) :
    SS X W (.Assign [.Tuple [.Name x px, .Name y py] kt pt] (.Tuple [a, b] k2 pt2) pos) (mPar i j mas) := by
  obtain ⟨t, p, s⟩ := ha
  refine ⟨_, ps_par hc hN hi hj hij hx hy p hw hs, fun a0 G Γ σ H F E r h => ?_⟩
  refine sdA_fz s r (okG_bind h fun z _ hz vs H1 F1 e1 r1 hv => ?_)
  obtain ⟨ds, Γ1⟩ := z
  dsimp only at hz hv
  split at hz
  · cases hv with
    | cons h1 hv => cases hv with
      | cons h2 hv => cases hv; exact ⟨_, _, rfl, hz _ H1 F1 e1 ((r1.setv h1).setv h2)⟩
  · exact hz.elim
def mAug (i : Nat) (bf : List D → Option Nw) (m : Env → R (BV × Env)) : Env → R Fl := fun Γ => match gt Γ i with
  | .v (.int a) => (m Γ).bind fun x => (match x.1 with
    | .v (.int b) => (match bf [.int a, .int b] with
      | some (.v (.int c)) => .ok (.nx (x.2.set i (.v (.int c))))
      | _ => .bad)
    | _ => .bad)
  | _ => .bad
def IpS (X : Cx) (op : Operator) (bf : List D → Option Nw) : Prop := ∃ r, PIp X op r ∧ ∀ H a b c Q, bf [.int a, .int b] = some (.v (.int c)) → Q (.int c) H → r (.int a) (.int b) H Q
theorem is_add : IpS X .Add fAdd := ⟨_, ip_add, fun H a b c Q h q => by simp only [fAdd] at h; cases h; exact ⟨a, b, rfl, rfl, q⟩⟩
theorem is_sub : IpS X .Sub fSub := ⟨_, ip_sub, fun H a b c Q h q => by simp only [fSub] at h; cases h; exact ⟨a, b, rfl, rfl, q⟩⟩
theorem is_mul : IpS X .Mult fMul := ⟨_, iop_mul, fun H a b c Q h q => by
  simp only [fMul] at h
  split at h
  · rename_i hz; cases h; exact ⟨a, b, rfl, rfl, hz, q⟩
  · cases h⟩
theorem is_div : IpS X .FloorDiv fDiv := ⟨_, iop_fdivW, fun H a b c Q h q => by
  simp only [fDiv] at h
  split at h
  · rename_i hz; cases h; exact ⟨a, b, rfl, rfl, cdivW hz, q⟩
  · cases h⟩
theorem ss_aug (i : Nat) {x : Str} {op : Operator} {bf : List D → Option Nw} {pos' : Pos} (hN : X.N.Nodup) (ho : IpS X op bf) (h : SX X W e me) (hi : X.N[i]? = some x := by rfl) (hx : Loc X.env.scope x := by first | exact Or.inl rfl | exact Or.inr rfl)
    (hf : X.fn x = true ∨ X.env.scope.names.lookup x = some .local := by first | exact .inl rfl | exact .inr rfl | assumption) : SS X W (.AugAssign (.Name x pos') op e pos) (mAug i bf me) := by
  obtain ⟨t, p, s⟩ := h
  obtain ⟨r0, p0, s0⟩ := ho
  refine ⟨_, ps_aug hN hi hx p p0 hf, fun a0 G Γ σ H F E r h => ?_⟩
  unfold mAug at h
  split at h
  · rename_i a g
    obtain ⟨v, h1, h2⟩ := r.getv g
    cases h2
    refine ⟨.int a, h1, s a0 G Γ σ H F _ r (okG_bind h fun y _ hy => ?_)⟩
    obtain ⟨b, Γ1⟩ := y
    dsimp only at hy
    split at hy
    · rename_i k _
      split at hy
      · rename_i c hc
        intro v H1 F1 e1 r1 hv
        cases hv
        exact s0 H1 a k c _ hc (hy _ H1 F1 e1 (r1.setv (.int c)))
      · exact hy.elim
    · exact hy.elim
  · exact h.elim
def mSetIx (k : Nat) (mi me : Env → R (BV × Env)) : Env → R Fl := fun Γ => (mFz1 me Γ).bind fun x => match gt x.2 k with
  | .o _ => (mi x.2).bind fun y => (match y.1, gt y.2 k with
    | .v (.int i), .o xs => (match ixN xs.length i with
      | some j => .ok (.nx (y.2.set k (.o (xs.set j x.1))))
      | none => .bad)
    | _, _ => .bad)
  | _ => .bad
theorem ss_setIx (k : Nat) {x : Str} {i : Expr} {p1 p2 : Pos} (he : SX X W e me) (hi : SX X W i mi) (hN : X.N[k]? = some x := by rfl) (hv : Vis X.env.scope x := by first | exact Or.inl rfl | exact Or.inr (Or.inl rfl) | exact Or.inr (Or.inr rfl)) (hd : (x == ("__debug__" : Str)) = false := by decide)
    (hcd : (x == ("__classdict__" : Str)) = false := by decide) (ha : ∀ v, assign (.Subscript (.Name x p1) i p2) X.env v = (do
      let ov ← holding [v] (eval (.Name x p1) X.env)
      let iv ← holding [v, ov] (eval i X.env)
      standAt p2
      holding [v, ov, iv] (setItem ov iv v)
      release [v, ov, iv] []) := by intros; rfl) (hs : swapsWithSole [.Subscript (.Name x p1) i p2] e pos.line X.env = pure false := by rfl) (hw : swappedStores [.Subscript (.Name x p1) i p2] e X.env = pure none := by rfl)
    (h1 : (assignEach [.Subscript (.Name x p1) i p2] X.env).map (·.2) = [assign (.Subscript (.Name x p1) i p2) X.env] := by rfl) : SS X W (.Assign [.Subscript (.Name x p1) i p2] e pos) (mSetIx k mi me) := by
  obtain ⟨t, p, s⟩ := he
  obtain ⟨ti, pi, si⟩ := hi
  refine ⟨_, ps_asg p (pg_sub (pe_var hN hv hd hcd) pi set_list ha) hs hw h1, fun a0 G Γ σ H F E r h => ?_⟩
  refine sdX_fz s r (okG_bind h fun y _ hy v H1 F1 e1 r1 hv => ?_)
  obtain ⟨d, Γ1⟩ := y
  dsimp only at hy hv r1
  split at hy
  · rename_i xs0 g0
    obtain ⟨q, vs0, h1, h2, h3, h4, h5⟩ := r1.geto g0
    refine ⟨.ref q, h1, si a0 G Γ1 σ H1 F1 _ r1 (okG_mono e1 (okG_bind hy fun z _ hz => hz) fun z _ hz => ?_)⟩
    obtain ⟨b, Γ2⟩ := z
    dsimp only at hz
    split at hz
    · rename_i n xs hg _
      split at hz
      · rename_i j hj
        intro u H2 F2 e2 r2 hu
        cases hu
        obtain ⟨q', vs, a1, a2, a3, a4, a5⟩ := r2.geto hg
        rw [h1] at a1; cases a1
        exact ⟨q, vs, n, j, rfl, rfl, a2, by rw [a3.length]; exact hj, hz σ _ F2 (Ex.trans e1 e2) (r2.mut hg h1 (a3.set (hv.mono e2) j))⟩
      · exact hz.elim
    · exact hz.elim
  · exact hy.elim
end
end Rg
namespace Rg
open PySem L2
section
variable {X : Cx} {W : WX} {st : Stmt} {sts : List Stmt} {e a b c i : Expr} {es : List Expr} {pos : Pos} {m ma mb : Env → R Fl} {me mi : Env → R (BV × Env)} {mc : Env → R (Bool × Env)} {mas : Env → R (List BV × Env)}
def rGetL (K : PySem.W.Frag) : V → V → Hp → VK → Prop := fun o i H Q => ∃ p xs k v, o = .ref p ∧ i = .int k ∧ SqL K H p xs ∧ 0 ≤ k ∧ k < 2 ^ 63 ∧ xs[k.toNat]? = some v ∧ Q v H
theorem get_list : PGet X (rGetL X.K) := by
  intro pins s σ H o i ov iv Q I r1 r2 h
  obtain ⟨p, xs, k, v, rfl, rfl, hq, h0, h1, hx, q⟩ := h
  cases r1
  obtain ⟨t, rfl⟩ := r2
  obtain ⟨its, r, pl, hz⟩ := I.list hq
  obtain ⟨u, hu, ru⟩ := r.get hx
  exact PyProof.Rows.getItem_listL pl.isList h0 h1 hu ⟨v, H, I, ru, q⟩
noncomputable def mAugIx (k : Nat) (bf : List D → Option Nw) (mi me : Env → R (BV × Env)) : Env → R Fl := fun Γ => match gt Γ k with
  | .o _ => (mi Γ).bind fun y => (match y.1, gt y.2 k with
    | .v (.int i), .o xs => @ite _ (0 ≤ i ∧ i < 2 ^ 63) (Classical.propDecidable _) (match xs[i.toNat]? with
      | some (.int a) => (me y.2).bind fun z => (match z.1, gt z.2 k with
        | .v (.int b), .o ys => (match bf [.int a, .int b], ixN ys.length i with
          | some (.v (.int c)), some j => .ok (.nx (z.2.set k (.o (ys.set j (.int c)))))
          | _, _ => .bad)
        | _, _ => .bad)
      | _ => .bad) .bad
    | _, _ => .bad)
  | _ => .bad
theorem ss_augIx (k : Nat) {x : Str} {op : Operator} {bf : List D → Option Nw} {p1 p2 : Pos} (ho : IpS X op bf) (hi : SX X W i mi) (he : SX X W e me) (hN : X.N[k]? = some x := by rfl) (hv : Vis X.env.scope x := by first | exact Or.inl rfl | exact Or.inr (Or.inl rfl) | exact Or.inr (Or.inr rfl)) (hd : (x == ("__debug__" : Str)) = false := by decide)
    (hcd : (x == ("__classdict__" : Str)) = false := by decide) (ha : ∀ ov iv new, augStore i ov iv new = (do holding [new, ov, iv] (setItem ov iv new); release [new, ov, iv] []; pure .next) := by intros; rfl) :
    SS X W (.AugAssign (.Subscript (.Name x p1) i p2) op e pos) (mAugIx k bf mi me) := by
  obtain ⟨t, p, s⟩ := he
  obtain ⟨ti, pi, si⟩ := hi
  obtain ⟨r0, p0, s0⟩ := ho
  refine ⟨_, ps_augS (pe_var hN hv hd hcd) pi get_list p p0 set_list ha, fun a0 G Γ σ H F E r h => ?_⟩
  unfold mAugIx at h
  split at h
  · rename_i xs0 g0
    obtain ⟨q, vs0, h1, h2, h3, h4, h5⟩ := r.geto g0
    refine ⟨.ref q, h1, si a0 G Γ σ H F _ r (okG_bind h fun y _ hy => ?_)⟩
    obtain ⟨b, Γ1⟩ := y
    dsimp only at hy
    split at hy
    · rename_i n xs hg _
      split at hy
      · rename_i hn
        split at hy
        · rename_i a ha'
          intro u H1 F1 e1 r1 hu
          cases hu
          obtain ⟨q', vs, a1, a2, a3, a4, a5⟩ := r1.geto hg
          rw [h1] at a1; cases a1
          obtain ⟨w, hw, rw'⟩ := a3.get ha'
          cases rw'
          refine ⟨q, vs, n, .int a, rfl, rfl, SqL.of a2, hn.1, hn.2, hw, ?_⟩
          refine s a0 G Γ1 σ H1 F1 _ r1 (okG_mono e1 (okG_bind hy fun z _ hz => hz) fun z _ hz => ?_)
          obtain ⟨b2, Γ2⟩ := z
          dsimp only at hz
          split at hz
          · rename_i k2 ys hg2 _
            split at hz
            · rename_i c j hc hj
              intro u2 H2 F2 e2 r2 hu2
              cases hu2
              obtain ⟨q2, vs2, b1, b2, b3, b4, b5⟩ := r2.geto hg2
              rw [h1] at b1; cases b1
              refine s0 H2 a k2 c _ hc ?_
              exact ⟨q, vs2, n, j, rfl, rfl, b2, by rw [b3.length]; exact hj, hz σ _ F2 (Ex.trans e1 e2) (r2.mut hg2 h1 (b3.set (.int c) j))⟩
            · exact hz.elim
          · exact hz.elim
        · exact hy.elim
      · exact hy.elim
    · exact hy.elim
  · exact h.elim
def MeS (X : Cx) (id : String) (f : List D → List D → Option (D × List D)) : Prop := ∃ r, MtR X id r ∧ ∀ F H p vs xs ws ds d xs' Q, Ex F H → H p = some (.lst vs) → RpA X.K F vs xs → RpA X.K F ws ds → f xs ds = some (d, xs') →
  (∀ v vs', Rp X.K F v d → RpA X.K F vs' xs' → Q v (upd H p (.lst vs'))) → r (.ref p) ws H Q
def mMe (k : Nat) (f : List D → List D → Option (D × List D)) (ma : Env → R (List BV × Env)) : Env → R (BV × Env) := fun Γ => match gt Γ k with
  | .o _ => (mFzA ma Γ).bind fun y => (match gt y.2 k with
    | .o xs => (match f xs y.1 with
      | some z => .ok (.v z.1, y.2.set k (.o z.2))
      | none => .bad)
    | _ => .bad)
  | _ => .bad
theorem sdX_me {k : Nat} {f : List D → List D → Option (D × List D)} {r : V → List V → Hp → VK → Prop} {t : TA} (hr : ∀ F H p vs xs ws ds d xs' Q, Ex F H → H p = some (.lst vs) → RpA X.K F vs xs → RpA X.K F ws ds → f xs ds = some (d, xs') →
  (∀ v vs', Rp X.K F v d → RpA X.K F vs' xs' → Q v (upd H p (.lst vs'))) → r (.ref p) ws H Q) (s : SdA X.K X.mg W t mas) : SdX X.K X.mg W (tBM X.K "list" r (tVar k) t) (mMe k f mas) := by
  intro a0 G Γ σ H F Q rel h
  unfold mMe at h
  split at h
  · rename_i xs0 g0
    obtain ⟨q, vs0, h1, h2, h3, h4, h5⟩ := rel.geto g0
    refine ⟨.ref q, h1, .inl ⟨rfl, vs0, SqL.of h2⟩, sdA_fz s rel (okG_bind h fun y _ hy ws H1 F1 e1 r1 hv => ?_)⟩
    split at hy
    · rename_i xs g
      split at hy
      · rename_i z hz
        obtain ⟨q', vs, a1, a2, a3, a4, a5⟩ := r1.geto g
        rw [h1] at a1; cases a1
        exact hr F1 H1 q vs xs ws y.1 z.1 z.2 Q r1.wd.f a2 a3 hv hz fun v vs' hv' ha => hy v _ F1 e1 (r1.mut g h1 ha) hv'
      · exact hy.elim
    · exact hy.elim
  · exact h.elim
theorem sx_me (k : Nat) {x : Str} {name : Str} {id : String} {f : List D → List D → Option (D × List D)} {p1 apos : Pos} (slot : Slot "list" name id) (hty : typeOf (.builtin id) = pure (.type "method_descriptor")) (hm : MeS X id f) (ha : SA X W (e :: es) mas)
    (hN : X.N[k]? = some x := by rfl) (hv : Vis X.env.scope x := by first | exact Or.inl rfl | exact Or.inr (Or.inl rfl) | exact Or.inr (Or.inr rfl)) (hd : (x == ("__debug__" : Str)) = false := by decide) (hcd : (x == ("__classdict__" : Str)) = false := by decide)
    (hbase : attributeBase (.Name x p1) name X.env (eval (.Name x p1) X.env) = eval (.Name x p1) X.env := by rfl)
    (hfew : ((backTo pos (starEach (e :: es) X.env)).all (fun x => !x.1) && (backToKw pos (keywordEach [] X.env)).all (fun x => x.1.isSome)
      && decide ((e :: es).length + ([] : List Keyword).length + (if ([] : List Keyword).isEmpty then 0 else 1) < 30)) = true := by rfl)
    (hline : (apos.endLine == pos.line) = true := by rfl) (hs : starEach (e :: es) X.env = (false, eval e X.env) :: starEach es X.env := by rfl) (hplain : (backTo pos (starEach es X.env)).any (·.1) = false := by rfl) :
    SX X W (.Call (.Attribute (.Name x p1) name apos) (e :: es) [] pos) (mMe k f mas) := by
  obtain ⟨r, h1, h2⟩ := hm
  obtain ⟨t, p, s⟩ := ha
  exact ⟨_, pe_bm PySem.F.plainAttrs_list slot hty h1 (pe_var hN hv hd hcd) p hbase hfew hline hs hplain, sdX_me h2 s⟩
theorem sx_me0 (k : Nat) {x : Str} {name : Str} {id : String} {f : List D → List D → Option (D × List D)} {p1 apos : Pos} (slot : Slot "list" name id) (hty : typeOf (.builtin id) = pure (.type "method_descriptor")) (hm : MeS X id f)
    (hN : X.N[k]? = some x := by rfl) (hv : Vis X.env.scope x := by first | exact Or.inl rfl | exact Or.inr (Or.inl rfl) | exact Or.inr (Or.inr rfl)) (hd : (x == ("__debug__" : Str)) = false := by decide) (hcd : (x == ("__classdict__" : Str)) = false := by decide)
    (hbase : attributeBase (.Name x p1) name X.env (eval (.Name x p1) X.env) = eval (.Name x p1) X.env := by rfl) (hline : (apos.endLine == pos.line) = true := by rfl) :
    SX X W (.Call (.Attribute (.Name x p1) name apos) [] [] pos) (mMe k f mA0) := by
  obtain ⟨r, h1, h2⟩ := hm
  exact ⟨_, pe_bm0 PySem.F.plainAttrs_list slot hty h1 (pe_var hN hv hd hcd) hbase hline, sdX_me (t := tNil) h2 sdA_nil⟩
def fApp : List D → List D → Option (D × List D)
  | xs, [d] => if xs.length < SZ then some (.non, xs ++ [d]) else none
  | _, _ => none
theorem ms_append : MeS X "list.append" fApp := by
  refine ⟨_, mt_append, fun F H p vs xs ws ds d xs' Q e hp hx hw hf hq => ?_⟩
  unfold fApp at hf
  split at hf
  · split at hf
    · rename_i hz
      cases hf
      cases hw with
      | cons h1 hw => cases hw; exact ⟨p, vs, _, rfl, rfl, hp, by rw [hx.length]; exact sz_lt hz, hq _ _ .non (hx.append (.cons h1 .nil))⟩
    · cases hf
  · cases hf
def fPop : List D → List D → Option (D × List D)
  | xs, [] => xs.getLast?.map fun d => (d, xs.dropLast)
  | _, _ => none
theorem ms_pop : MeS X "list.pop" fPop := by
  refine ⟨_, mt_pop, fun F H p vs xs ws ds d xs' Q e hp hx hw hf hq => ?_⟩
  unfold fPop at hf
  split at hf
  · cases hw
    cases q : xs.getLast? with
    | none => rw [q] at hf; cases hf
    | some y =>
      rw [q] at hf; cases hf
      rw [List.getLast?_eq_getElem?] at q
      obtain ⟨v, h1, h2⟩ := hx.get q
      exact ⟨p, vs, v, rfl, rfl, hp, by rw [hx.length]; exact h1, hq _ _ h2 hx.dropLast⟩
  · cases hf
def fIns : List D → List D → Option (D × List D)
  | xs, [.int i, d] => if xs.length < SZ ∧ 0 ≤ i ∧ i < 2 ^ 63 then some (.non, xs.take i.toNat ++ [d] ++ xs.drop i.toNat) else none
  | _, _ => none
theorem ms_insert : MeS X "list.insert" fIns := by
  refine ⟨_, mt_insert, fun F H p vs xs ws ds d xs' Q e hp hx hw hf hq => ?_⟩
  unfold fIns at hf
  split at hf
  · rename_i i d
    split at hf
    · rename_i hz
      cases hf
      cases hw with
      | cons h1 hw => cases hw with
        | cons h2 hw =>
          cases hw
          cases h1
          exact ⟨p, vs, i, _, rfl, rfl, hp, by rw [hx.length]; exact sz_lt hz.1, hz.2.1, hz.2.2, hq _ _ .non (((hx.take _).append (.cons h2 .nil)).append (hx.drop _))⟩
    · cases hf
  · cases hf
def fExt : List D → List D → Option (D × List D)
  | xs, [.lst ys] => if xs.length + ys.length ≤ SZ then some (.non, xs ++ ys) else none
  | _, _ => none
theorem ms_extend : MeS X "list.extend" fExt := by
  refine ⟨_, mt_extend, fun F H p vs xs ws ds d xs' Q e hp hx hw hf hq => ?_⟩
  unfold fExt at hf
  split at hf
  · split at hf
    · rename_i hz
      cases hf
      cases hw with
      | cons h1 hw =>
        cases hw
        cases h1 with
        | lst h2 h3 => exact ⟨p, _, vs, _, rfl, rfl, hp, e _ _ h2, by rw [hx.length, h3.length]; exact sz_le hz, hq _ _ .non (hx.append h3)⟩
    · cases hf
  · cases hf
def mWh (c : Env → R (Bool × Env)) (b : Env → R Fl) : Nat → Env → R Fl
  | 0, _ => .bad
  | n + 1, Γ => (c Γ).bind fun x => if x.1 = true then (b x.2).bind fun f => (match f with
    | .nx Γ1 => mWh c b n Γ1
    | .ct Γ1 => mWh c b n Γ1
    | .bk Γ1 => .ok (.nx Γ1)
    | .rt w Γ1 => .ok (.rt w Γ1)) else .ok (.nx x.2)
theorem ss_while (n : Nat) {body : List Stmt} (hp : PassesOwn (model X.prog X.w) X.A X.env X.xe) (hc : ST X W c mc) (hb : SSs X W body mb) : SS X W (.While c body [] pos) (mWh mc mb n) := by
  obtain ⟨tc, pc, sc⟩ := hc
  obtain ⟨t, p, s⟩ := hb
  refine ⟨_, ps_while hp pc p, fun a0 G Γ σ H F E r h => ?_⟩
  refine ⟨fun n σ H => ∃ Γ F', Ex F F' ∧ Rel X.K a0 G Γ σ H F' ∧ OkG X.K X.mg G F' W (PF X.K a0 G F' E) (mWh mc mb n Γ), ⟨n, Γ, F, Ex.refl F, r, h⟩, ?_⟩
  rintro n σ1 H1 ⟨Γ1, F1, e1, r1, h1⟩
  cases n with
  | zero => exact h1.elim
  | succ n =>
    refine sc a0 G Γ1 σ1 H1 F1 _ r1 (okG_bind h1 fun x _ hx => ?_)
    obtain ⟨k, Γ2⟩ := x
    intro H2 F2 e2 r2
    dsimp only at hx ⊢
    cases k with
    | false => simp only [Bool.false_eq_true, if_false] at hx ⊢; exact hx σ1 H2 F2 e2 r2
    | true =>
      simp only [if_true] at hx ⊢
      refine ⟨fun σ H => ∃ Γ F', Ex F F' ∧ Rel X.K a0 G Γ σ H F' ∧ OkG X.K X.mg G F' W (PF X.K a0 G F' E) (mWh mc mb n Γ), fun σ' H' hN => ⟨n, Nat.lt_succ_self n, hN⟩, ?_⟩
      refine s a0 G Γ2 σ1 H2 F2 _ r2 (okG_mono e2 (okG_bind hx fun f _ hf => hf) fun f _ hf => ?_)
      cases f with
      | nx Γ3 => exact fun σ3 H3 F3 e3 r3 => ⟨Γ3, F3, Ex.trans e1 (Ex.trans e2 e3), r3, okG_mono (Ex.trans e2 e3) hf fun y _ hy => hy.mono (Ex.trans e2 e3)⟩
      | ct Γ3 => exact fun σ3 H3 F3 e3 r3 => ⟨Γ3, F3, Ex.trans e1 (Ex.trans e2 e3), r3, okG_mono (Ex.trans e2 e3) hf fun y _ hy => hy.mono (Ex.trans e2 e3)⟩
      | bk Γ3 => exact fun σ3 H3 F3 e3 r3 => hf σ3 H3 F3 (Ex.trans e2 e3) r3
      | rt w Γ3 => cases w with
        | v d => exact fun σ3 v H3 F3 e3 r3 hv => hf σ3 v H3 F3 (Ex.trans e2 e3) r3 hv
        | o xs => exact fun σ3 p vs H3 F3 e3 hG r3 hv => hf σ3 p vs H3 F3 (Ex.trans e2 e3) hG r3 hv
def Gv (K : PySem.W.Frag) (F' : Hp) (ds : List D) (n : Nat) (Gd : Hp → Prop) (Y : Nat → Hp → V → Hp → Prop) : Prop :=
  ds.length = n ∧ (∀ F2 H2, Ex F' F2 → Ex F2 H2 → Gd H2) ∧ ∀ i d, ds[i]? = some d → ∀ F2 H2 x H3, Ex F' F2 → Ex F2 H2 → Y i H2 x H3 →
    (H3 = H2 ∧ Rp K F2 x d) ∨ ∃ T vs ds', x = .ref T ∧ H2 T = none ∧ H3 = upd H2 T (.tup vs) ∧ d = .tup ds' ∧ RpA K F2 vs ds'
def PIt (K : PySem.W.Frag) (a0 : Addr) (G F : Hp) (σ : L2.St) (Rr : It → Hp → Prop) : List D × Env → Prop := fun y => ∀ J n Gd Y H F', Ex F F' → Rel K a0 G y.2 σ H F' → Walk J n Gd Y → Gv K F' y.1 n Gd Y → Rr J H
def SdI (K : PySem.W.Frag) (mg : Str → Option Value) (W : WX) (wi : TI) (m : Env → R (List D × Env)) : Prop :=
  ∀ a0 G Γ σ H F Rr, Rel K a0 G Γ σ H F → OkG K mg G F W (PIt K a0 G F σ Rr) (m Γ) → wi σ H Rr
def SI (X : Cx) (W : WX) (tg iter : Expr) (m : Env → R (List D × Env)) : Prop := ∃ wi, PI X tg iter wi ∧ SdI X.K X.mg W wi m
def mForL (f : D → Env → Option Env) (b : Env → R Fl) : List D → Env → R Fl
  | [], Γ => .ok (.nx Γ)
  | d :: ds, Γ => match f d Γ with
    | none => .bad
    | some Γ1 => (b Γ1).bind fun g => (match g with
      | .nx Γ2 => mForL f b ds Γ2
      | .ct Γ2 => mForL f b ds Γ2
      | .bk Γ2 => .ok (.nx Γ2)
      | .rt w Γ2 => .ok (.rt w Γ2))
def mFor (mi : Env → R (List D × Env)) (f : D → Env → Option Env) (b : Env → R Fl) : Env → R Fl := fun Γ => (mi Γ).bind fun y => mForL f b y.1 y.2
theorem Rel.item {K : PySem.W.Frag} {a0 : Addr} {G F' H : Hp} {Γ : Env} {σ : L2.St} {F : Hp} {ds : List D} {n i : Nat} {Gd : Hp → Prop} {Y : Nat → Hp → V → Hp → Prop} {d : D} {x : V} {H3 : Hp} (gv : Gv K F' ds n Gd Y) (e : Ex F' F) (r : Rel K a0 G Γ σ H F) (hd : ds[i]? = some d) (hy : Y i H x H3) :
    ∃ F2, Ex F F2 ∧ Rel K a0 G Γ σ H3 F2 ∧ Rp K F2 x d := by
  rcases gv.2.2 i d hd F H x H3 e r.wd.f hy with ⟨rfl, hx⟩ | ⟨T, vs, ds', rfl, hT, rfl, rfl, hv⟩
  · exact ⟨F, Ex.refl F, r, hx⟩
  · obtain ⟨e2, r2⟩ := r.newF (o := .tup vs) hT
    exact ⟨_, e2, r2, .tup (.inl (.inl upd_same)) (hv.mono e2)⟩
theorem ss_for {tg iter : Expr} {body : List Stmt} {mit : Env → R (List D × Env)} {f : D → Env → Option Env} {ws : List Nat} (hp : PassesOwn (model X.prog X.w) X.A X.env X.xe) (hc : X.calm = true) (hi : SI X W tg iter mit) (hg : SG X tg f ws) (hb : SSs X W body mb)
    (hs : ∀ x, foldedSetIterable iter X.env x = pure x := by intro _; rfl) : SS X W (.For tg iter body [] pos) (mFor mit f mb) := by
  obtain ⟨wi, pi, si⟩ := hi
  obtain ⟨g, pg, sg⟩ := hg
  obtain ⟨t, p, s⟩ := hb
  refine ⟨_, ps_for hp hc pi pg p hs, fun a0 G Γ σ H F E r h => ?_⟩
  refine si a0 G Γ σ H F _ r (okG_bind h fun y _ hy J n Gd Y H1 F1 e1 r1 wk gv => ?_)
  obtain ⟨ds, Γ1⟩ := y
  dsimp only at hy r1 gv
  refine for_it wk (fun i σ H => ∃ Γ F', Ex F1 F' ∧ Rel X.K a0 G Γ σ H F' ∧ OkG X.K X.mg G F' W (PF X.K a0 G F' E) (mForL f mb (ds.drop i) Γ)) ⟨Γ1, F1, Ex.refl F1, r1, okG_mono e1 hy fun y _ hy => hy.mono e1⟩ ?_ ?_ ?_
  · rintro i σ2 H2 _ ⟨Γ2, F2, e2, r2, _⟩
    exact gv.2.1 F2 H2 e2 r2.wd.f
  · rintro i x σ2 H2 H3 hin ⟨Γ2, F2, e2, r2, h2⟩ hY
    have hil : i < ds.length := by rw [gv.1]; exact hin
    have hd : ds[i]? = some ds[i] := List.getElem?_eq_getElem hil
    obtain ⟨F3, e3, r3, hx⟩ := Rel.item gv e2 r2 hd hY
    rw [List.drop_eq_getElem_cons hil] at h2
    simp only [mForL] at h2
    split at h2
    · exact h2.elim
    · rename_i Γ3 hf
      refine sg a0 G Γ2 σ2 H3 F3 x ds[i] Γ3 _ r3 hx hf fun σ4 H4 F4 e4 r4 _ => ?_
      have e34 : Ex F2 F4 := Ex.trans e3 e4
      refine s a0 G Γ3 σ4 H4 F4 _ r4 (okG_mono e34 (okG_bind h2 fun f _ hf => hf) fun f _ hf => ?_)
      cases f with
      | nx Γ5 => exact fun σ5 H5 F5 e5 r5 => ⟨Γ5, F5, Ex.trans e2 (Ex.trans e34 e5), r5, okG_mono (Ex.trans e34 e5) hf fun y _ hy => hy.mono (Ex.trans e34 e5)⟩
      | ct Γ5 => exact fun σ5 H5 F5 e5 r5 => ⟨Γ5, F5, Ex.trans e2 (Ex.trans e34 e5), r5, okG_mono (Ex.trans e34 e5) hf fun y _ hy => hy.mono (Ex.trans e34 e5)⟩
      | bk Γ5 => exact fun σ5 H5 F5 e5 r5 => hf σ5 H5 F5 (Ex.trans e34 e5) r5
      | rt w Γ5 => cases w with
        | v d => exact fun σ5 v H5 F5 e5 r5 hv => hf σ5 v H5 F5 (Ex.trans e34 e5) r5 hv
        | o xs => exact fun σ5 p vs H5 F5 e5 hG r5 hv => hf σ5 p vs H5 F5 (Ex.trans e34 e5) hG r5 hv
  · rintro σ2 H2 ⟨Γ2, F2, e2, r2, h2⟩
    rw [List.drop_eq_nil_of_le (by rw [gv.1]; exact Nat.le_refl _)] at h2
    exact h2 σ2 H2 F2 (Ex.refl F2) r2
end
end Rg
namespace Rg
open PySem PySem.Spec PyProof.Rows L2
open AutoSeq1 (wpAny_loadPart')
theorem meets_enum_newT (l : Addr) (items : Array Value) (n : Nat) (dct : Option Addr) (sl : Array (Option Value)) :
    Meets (Builtin.«enumerate.__new__» ⟨[.type "enumerate", .ref l], []⟩) (fun _ R s => s.heap.get? l = some { cls := .type "tuple", dict := dct, data := .seq items n, slots := sl } ∧
      R (.ok (.ret (.ref (s.heap.push { cls := .type "tuple_iterator", data := .fields #[.ref l, .int 0 0] }).objs.size)))
        { s with heap := (s.heap.push { cls := .type "tuple_iterator", data := .fields #[.ref l, .int 0 0] }).push { cls := .type "enumerate", data := .fields #[.none, .bool false, .ref s.heap.objs.size, rawInt 0, .none, .none] } }) :=
  .of_wp fun prog w A R s h => by
    obtain ⟨hp, g, d, tk, os⟩ := s; obtain ⟨hl, h⟩ := h
    have hsub := sub_enumerate
    have hL : Heap.IsTuple (Shared.heap ⟨hp, g, d, tk, os⟩) l items := ⟨_, hl, rfl, n, rfl⟩
    wp_walk using wpAny_loadPart' hl
    refine wpAny_stack_any fun st => wpAny_pure ?_
    split
    · rename_i c _ _ _ _ _
      cases (c == Value.type "enumerate")
      · wp_walk using wpAny_loadPart' hl, wpAny_pyIter_tuple hL
        exact ⟨_, rfl, h⟩
      · wp_walk using wpAny_loadPart' hl, wpAny_pyIter_tuple hL
        exact ⟨_, rfl, h⟩
    · wp_walk using wpAny_loadPart' hl, wpAny_pyIter_tuple hL
      exact ⟨_, rfl, h⟩
section
variable {prog : Program} {w : World} {A : Around} {E : Value → Shared → Prop} {s : Shared}
theorem call_enum_tuple {l : Addr} {items : Array Value} {Q : Value → Shared → Prop} (hL : s.heap.IsTuple l items)
    (h : ∀ h', IsEnum h' (s.heap.objs.size + 1) s.heap.objs.size 0 .none → h'.IsTupleIter s.heap.objs.size l 0 → h'.objs.size = s.heap.objs.size + 2 →
      (∀ b o, s.heap.get? b = some o → h'.get? b = some o) → Q (.ref (s.heap.objs.size + 1)) { s with heap := h' }) :
    wpAny (model prog w) A (call (.type "enumerate") [.ref l]) Q E s := by
  obtain ⟨⟨c, dct, dt, sl⟩, hl, hc, n, hd⟩ := hL
  replace hc : c = .type "tuple" := hc
  replace hd : dt = .seq items n := hd
  subst hc hd
  refine callType_new F.called_enumerate (by decide) (F.typeCall_enumerate_1 _) (F.newCall_enumerate_1 _) (fun obj => F.args_object_init_2 obj _) F.entry_enumerate_new
    (meets_enum_newT l items n dct sl) ⟨hl, ?_⟩
  have hz : (s.heap.push { cls := .type "tuple_iterator", data := .fields #[.ref l, .int 0 0] }).objs.size = s.heap.objs.size + 1 := Heap.size_push ..
  show _ ∧ _
  rw [hz]
  have he : IsEnum ((s.heap.push { cls := .type "tuple_iterator", data := .fields #[.ref l, .int 0 0] }).push
      { cls := .type "enumerate", data := .fields #[.none, .bool false, .ref s.heap.objs.size, rawInt 0, .none, .none] }) (s.heap.objs.size + 1) s.heap.objs.size 0 .none := by
    have := Heap.get?_push_size (s.heap.push { cls := .type "tuple_iterator", data := .fields #[.ref l, .int 0 0] })
      (o := { cls := .type "enumerate", data := .fields #[.none, .bool false, .ref s.heap.objs.size, rawInt 0, .none, .none] }) rfl
    rw [hz] at this; exact this
  refine ⟨⟨_, he, rfl⟩, h _ he ⟨_, Heap.get?_push_of_some _ (Heap.get?_push_size _ rfl), rfl, rfl⟩ (by rw [Heap.size_push, hz]) fun b o x => Heap.get?_push_of_some _ (Heap.get?_push_of_some _ x)⟩
end
def IteT (K : PySem.W.Frag) (a : Addr) : It :=
  ⟨fun i H => ∃ (xs : List V) (x : V), SqT K H a xs ∧ xs[i]? = some x, fun i H v H' => ∃ T x, v = .ref T ∧ H T = none ∧ H' = upd H T (.tup [.int (i : Nat), x]) ∧ ∀ xs, SqT K H a xs → xs[i]? = some x, fun i H => ∃ xs : List V, SqT K H a xs ∧ xs.length = i⟩
theorem turn_enumT {P : Program} {w : World} {K : PySem.W.Frag} {elts : List Expr} {kk : Nat} {tpos : Pos} (a e it : Addr) (hai : a ≠ it) (hae : a ≠ e) :
    Turn P w K (.Tuple elts kk tpos) (IteT K a) [e, it] e (fun i h => (∃ old, IsEnum h e it ((i : Nat) : Int) old) ∧ h.IsTupleIter it a i ∧ e ≠ it) where
  mem := by simp
  obj := fun i h st b hb => by
    obtain ⟨⟨old, he⟩, ⟨o, ho, hc, hd⟩, _⟩ := st
    have e' : b = e ∨ b = it := by simpa using hb
    rcases e' with z | z
    · rw [z]; exact ⟨_, he, fun v q => nomatch q⟩
    · rw [z]; exact ⟨o, ho, fun v q => by rw [hd] at q; cases q⟩
  keep := fun i h h' st k => let ⟨⟨old, he⟩, hi, hne⟩ := st; ⟨⟨old, k e (by simp) _ he⟩, hi.at fun o q => k it (by simp) o q, hne⟩
  item := by
    intro X hP hw hK hc i pins s σ H E I hf st hg
    subst hP hw hK
    obtain ⟨⟨old, he⟩, hit, hne⟩ := st
    obtain ⟨xs, x, hq, hx⟩ := hg
    obtain ⟨its, rv, p, hz⟩ := I.tuple hq
    obtain ⟨u, hu, ru⟩ := rv.get hx
    have hel : e < s.heap.objs.size := Heap.lt_size he
    have hil : it < s.heap.objs.size := by obtain ⟨_, q, _⟩ := hit; exact Heap.lt_size q
    have hlt : i < its.toArray.size := by
      rw [List.size_toArray]
      exact (List.getElem?_eq_some_iff.mp hu).1
    refine wpAny_pyNext_enum_itemC (Draws.tuple (by exact I.ok.hd hc) it a hai its.toArray) he ⟨hit, p⟩ hlt hne (by simp [hne, hae.symm]) fun x' h' tk hx' ho hst hT hsz hk => ?_
    have ex' : x' = u := by
      have : its.toArray[i]? = some u := by simpa using hu
      exact Option.some.inj (hx'.symm.trans this)
    subst ex'
    refine ⟨_, rfl, wpAny_letOwnedTupleGo_enum (s := { s with heap := h', toks := tk + 1 }) ho fun h'' he' sb => ?_⟩
    have hT2 : h''.get? s.heap.objs.size = some { cls := .type "tuple", data := .seq #[.int i tk, x'] } := (sb.2 _ (Nat.ne_of_gt hel)).trans hT
    have new : ObjOk X.prog X.w (upd H s.heap.objs.size (.tup [.int (i : Nat), x])) h'' s.heap.objs.size (.tup [.int (i : Nat), x]) :=
      ⟨by show 2 ≤ sizeLine; decide, [.int i tk, x'], .cons ⟨_, rfl⟩ (.cons ru .nil), ⟨_, hT2, rfl, _, rfl⟩⟩
    have I1 : Inv X pins σ (upd H s.heap.objs.size (.tup [.int (i : Nat), x])) { s with heap := h'', toks := tk + 1 } :=
      I.turnedNew (ch := [e, it]) (fun b ob hb q => (sb.2 b (fun z => hb (by simp [z]))).trans (hk b ob (fun z => hb (by simp [z])) (fun z => hb (by simp [z])) q)) hf (Nat.le_refl _) new
    refine ⟨.ref s.heap.objs.size, _, I1, rfl, ⟨_, x, rfl, I.hok.fresh (Nat.le_refl _), rfl, fun ys hy => by rw [I.tuple_inj hy hq]; exact hx⟩, ⟨⟨x', ?_⟩, hst.1.at fun o q => (sb.2 it (Ne.symm hne)).trans q, hne⟩, fun b hb => ?_⟩
    · have e1 : ((i + 1 : Nat) : Int) = (i : Int) + 1 := by omega
      rw [e1]; exact he'
    · have hb' : b < s.heap.objs.size := by
        have e' : b = e ∨ b = it := by simpa using hb
        rcases e' with z | z
        · rw [z]; exact hel
        · rw [z]; exact hil
      rw [upd_ne (Nat.ne_of_lt hb')]
      exact (hf b hb).1
  done := by
    intro X hP hw hK hc i pins s σ H E I hf st hg
    subst hP hw hK
    obtain ⟨⟨old, he⟩, hit, hne⟩ := st
    obtain ⟨xs, hq, hx⟩ := hg
    obtain ⟨its, rv, p, hz⟩ := I.tuple hq
    obtain ⟨f0, f1, f2, f3, f4, f5⟩ := hf it (by simp)
    have hl : its.toArray.size = i := by rw [List.size_toArray, ← rv.length, hx]
    subst hl
    exact wpAny_pyNext_enum_endD (Draws.tuple (by exact I.ok.hd hc) it a hai its.toArray) he ⟨hit, p⟩ fun h' eb => ⟨rfl, I.turned (t' := s.toks) (fun b o hb q => eb b o hb q) f0 f1 f3 f4 f5⟩
  self := fun A i s Q E st h => let ⟨⟨_, he⟩, _⟩ := st; wpAny_pyIter_enum he h
def iEnumT (K : PySem.W.Frag) (ta : TA) : TI := fun σ H R => ta σ H fun vs H1 => ∃ a xs, vs = [.ref a] ∧ SqT K H1 a xs ∧ R (IteT K a) H1
theorem pi_enumT {X : Cx} {e : Expr} {ta : TA} {p pos tpos : Pos} {elts : List Expr} {kk : Nat} (hg : Gl X "enumerate") (hm : X.mg "enumerate" = none) (ha : PA X [e] ta) (hs : starEach [e] X.env = [(false, eval e X.env)] := by rfl) :
    PI X (.Tuple elts kk tpos) (.Call (.Name "enumerate" p) [e] [] pos) (iEnumT X.K ta) := by
  refine ⟨fun pins s σ H R I h => ?_⟩
  refine Call_ (ld_blt I hg hm boot_enumerate (PyProof.Rows.callWith_type1 (thn (ha.run pos pins s σ H _ I h) fun us s1 ⟨vs, H1, I1, r1, q1⟩ => ?_) hs rfl))
  obtain ⟨a, xs, ex, hq, q⟩ := q1
  subst ex
  cases r1 with
  | cons r rr =>
    cases rr
    cases r
    obtain ⟨its, rv, p', hz⟩ := I1.tuple hq
    have hal : a < s1.heap.objs.size := p'.lt
    refine call_enum_tuple p' fun h' he hit hsz hk => wpAny_pyIter_enum he ?_
    have I2 : Inv X pins σ H1 { s1 with heap := h' } := I1.kept (t' := s1.toks) hk
    refine ⟨s1.heap.objs.size + 1, [s1.heap.objs.size + 1, s1.heap.objs.size], _, _, H1, rfl, I2, turn_enumT a (s1.heap.objs.size + 1) s1.heap.objs.size (Nat.ne_of_lt hal) (Nat.ne_of_lt (Nat.lt_succ_of_lt hal)), ⟨⟨.none, he⟩, hit, Nat.succ_ne_self _⟩, fun b hb => ?_, q⟩
    have e' : b = s1.heap.objs.size + 1 ∨ b = s1.heap.objs.size := by simpa using hb
    have hle : s1.heap.objs.size ≤ b := by
      rcases e' with z | z
      · rw [z]; exact Nat.le_add_right _ _
      · rw [z]; exact Nat.le_refl _
    exact I1.fpOk hle (I1.hok.fresh hle)
theorem walk_enumT {K : PySem.W.Frag} {a : Addr} {xs : List V} : Walk (IteT K a) xs.length (fun H => SqT K H a xs) (YPair (fun i => some (.int (i : Nat))) (fun i => xs[i]?)) :=
  ⟨fun i _ hi q => ⟨xs, xs[i], q, by simp [hi]⟩, fun _ q => ⟨xs, q, rfl⟩, fun i H v H' _ q y => by
    obtain ⟨T, x, h1, h2, h3, h4⟩ := y
    exact ⟨T, _, x, h1, h2, h3, rfl, h4 xs q⟩⟩
end Rg
namespace Rg
open PySem L2
def rngD (lo c : Int) (n : Nat) : List D := (List.range n).map fun (k : Nat) => .int (lo + k * c)
theorem rngD_len (lo c : Int) (n : Nat) : (rngD lo c n).length = n := by simp [rngD]
theorem rngD_get {lo c : Int} {n i : Nat} {d : D} (h : (rngD lo c n)[i]? = some d) : d = .int (lo + i * c) := by
  simp only [rngD, List.getElem?_map] at h
  cases q : (List.range n)[i]? with
  | none => rw [q] at h; cases h
  | some k =>
    rw [q] at h; cases h
    have := (List.getElem?_eq_some_iff.mp q).2
    simp at this
    rw [this]
def enumD : Nat → List D → List D
  | _, [] => []
  | k, d :: ds => .tup [.int k, d] :: enumD (k + 1) ds
theorem enumD_len : ∀ (k : Nat) (ds : List D), (enumD k ds).length = ds.length
  | _, [] => rfl
  | k, _ :: ds => by simp [enumD, enumD_len (k + 1) ds]
theorem enumD_get : ∀ {k : Nat} {ds : List D} {i : Nat} {d : D}, (enumD k ds)[i]? = some d → ∃ x, ds[i]? = some x ∧ d = .tup [.int ((k + i : Nat) : Int), x]
  | _, [], _, _, h => by simp [enumD] at h
  | k, x :: ds, 0, d, h => by simp [enumD] at h; exact ⟨x, rfl, by rw [← h]; rfl⟩
  | k, _ :: ds, i + 1, d, h => by
    simp only [enumD, List.getElem?_cons_succ] at h ⊢
    obtain ⟨x, h1, h2⟩ := enumD_get (k := k + 1) h
    exact ⟨x, h1, by rw [h2]; congr 4; omega⟩
def zipD : List D → List D → List D
  | a :: as, b :: bs => .tup [a, b] :: zipD as bs
  | _, _ => []
theorem zipD_len : ∀ (as bs : List D), (zipD as bs).length = min as.length bs.length
  | [], _ => by simp [zipD]
  | _ :: _, [] => by simp [zipD]
  | _ :: as, _ :: bs => by simp [zipD, zipD_len as bs]
theorem zipD_get : ∀ {as bs : List D} {i : Nat} {d : D}, (zipD as bs)[i]? = some d → ∃ x y, as[i]? = some x ∧ bs[i]? = some y ∧ d = .tup [x, y]
  | [], _, _, _, h => by simp [zipD] at h
  | _ :: _, [], _, _, h => by simp [zipD] at h
  | a :: as, b :: bs, 0, d, h => by simp [zipD] at h; exact ⟨a, b, rfl, rfl, h.symm⟩
  | _ :: as, _ :: bs, i + 1, d, h => by
    simp only [zipD, List.getElem?_cons_succ] at h ⊢
    exact zipD_get h
section
variable {X : Cx} {W : WX} {tg e e2 a b c : Expr} {es : List Expr} {pos : Pos} {me : Env → R (BV × Env)} {mas : Env → R (List BV × Env)}
def mIl (m : Env → R (BV × Env)) : Env → R (List D × Env) := fun Γ => (mFz1 m Γ).bind fun x => match x.1 with
  | .lst xs => .ok (xs, x.2)
  | _ => .bad
def mIt (m : Env → R (BV × Env)) : Env → R (List D × Env) := fun Γ => (mFz1 m Γ).bind fun x => match x.1 with
  | .tup xs => .ok (xs, x.2)
  | _ => .bad
theorem si_list (h : SX X W e me) : SI X W tg e (mIl me) := by
  obtain ⟨t, p, s⟩ := h
  refine ⟨_, pi_list p, fun a0 G Γ σ H F Rr r hk => ?_⟩
  refine sdX_fz s r (okG_bind hk fun y _ hy v H1 F1 e1 r1 hv => ?_)
  obtain ⟨d, Γ1⟩ := y
  dsimp only at hy hv
  split at hy
  · cases hv with
    | lst h1 h2 =>
      refine ⟨_, rfl, ⟨_, SqL.of (r1.wd.f _ _ h1)⟩, hy _ _ _ _ H1 F1 e1 r1 walk_list ⟨h2.length.symm, fun F2 H2 e2 e3 => SqL.of (e3 _ _ (e2 _ _ h1)), fun i d hd F2 H2 x H3 e2 e3 hY => ?_⟩⟩
      obtain ⟨rfl, hx⟩ := hY
      obtain ⟨d', q1, q2⟩ := h2.getV hx
      rw [q1] at hd; cases hd
      exact .inl ⟨rfl, q2.mono e2⟩
  · exact hy.elim
theorem si_tup (h : SX X W e me) : SI X W tg e (mIt me) := by
  obtain ⟨t, p, s⟩ := h
  refine ⟨_, pi_tup p, fun a0 G Γ σ H F Rr r hk => ?_⟩
  refine sdX_fz s r (okG_bind hk fun y _ hy v H1 F1 e1 r1 hv => ?_)
  obtain ⟨d, Γ1⟩ := y
  dsimp only at hy hv
  split at hy
  · cases hv with
    | tup h1 h2 =>
      refine ⟨_, rfl, ⟨_, Evl.ex_t r1.wd.f h1⟩, hy _ _ _ _ H1 F1 e1 r1 walk_tup ⟨h2.length.symm, fun F2 H2 e2 e3 => Evl.ex_t e3 (Evl.ex_t e2 h1), fun i d hd F2 H2 x H3 e2 e3 hY => ?_⟩⟩
      obtain ⟨rfl, hx⟩ := hY
      obtain ⟨d', q1, q2⟩ := h2.getV hx
      rw [q1] at hd; cases hd
      exact .inl ⟨rfl, q2.mono e2⟩
  · exact hy.elim
noncomputable def mR1 (ma : Env → R (List BV × Env)) : Env → R (List D × Env) := fun Γ => (mFzA ma Γ).bind fun y => match y.1 with
  | [.int j] => @ite _ (-(2 ^ 62) ≤ j ∧ j < 2 ^ 62) (Classical.propDecidable _) (.ok (rngD 0 1 j.toNat, y.2)) .bad
  | _ => .bad
noncomputable def mR2 (ma : Env → R (List BV × Env)) : Env → R (List D × Env) := fun Γ => (mFzA ma Γ).bind fun y => match y.1 with
  | [.int i, .int j] => @ite _ (-(2 ^ 62) ≤ i ∧ i < 2 ^ 62 ∧ -(2 ^ 62) ≤ j ∧ j < 2 ^ 62) (Classical.propDecidable _) (.ok (rngD i 1 (j - i).toNat, y.2)) .bad
  | _ => .bad
noncomputable def mR3 (ma : Env → R (List BV × Env)) : Env → R (List D × Env) := fun Γ => (mFzA ma Γ).bind fun y => match y.1 with
  | [.int i, .int j, .int c] => @ite _ (-(2 ^ 62) ≤ i ∧ i < 2 ^ 62 ∧ -(2 ^ 62) ≤ j ∧ j < 2 ^ 62 ∧ c = -1) (Classical.propDecidable _) (.ok (rngD i (-1) (i - j).toNat, y.2)) .bad
  | _ => .bad
theorem si_r1 {p : Pos} (hg : Gl X "range") (hm : X.mg "range" = none) (ha : SA X W [a] mas) (hs : starEach [a] X.env = [(false, eval a X.env)] := by rfl) : SI X W tg (.Call (.Name "range" p) [a] [] pos) (mR1 mas) := by
  obtain ⟨t, pa, s⟩ := ha
  refine ⟨_, pi_range1 hg hm pa hs, fun a0 G Γ σ H F Rr r hk => ?_⟩
  refine sdA_fz s r (okG_bind hk fun y _ hy vs H1 F1 e1 r1 hv => ?_)
  obtain ⟨ds, Γ1⟩ := y
  dsimp only at hy hv
  split at hy
  · rename_i j _
    split at hy
    · rename_i hz
      cases hv with
      | cons h1 hv =>
        cases hv
        cases h1
        refine ⟨j, rfl, hz.1, hz.2, hy _ _ _ _ H1 F1 e1 r1 (walk_range (lo := 0)) ⟨rngD_len _ _ _, fun _ _ _ _ => trivial, fun i d hd F2 H2 x H3 _ _ hY => ?_⟩⟩
        obtain ⟨rfl, rfl⟩ := hY
        rw [rngD_get hd]
        exact .inl ⟨rfl, by rw [Int.mul_one]; exact .int _⟩
    · exact hy.elim
  · exact hy.elim
theorem si_r2 {p : Pos} (hg : Gl X "range") (hm : X.mg "range" = none) (ha : SA X W [a, b] mas) (hs : starEach [a, b] X.env = [(false, eval a X.env), (false, eval b X.env)] := by rfl) (hs2 : starEach [b] X.env = [(false, eval b X.env)] := by rfl) :
    SI X W tg (.Call (.Name "range" p) [a, b] [] pos) (mR2 mas) := by
  obtain ⟨t, pa, s⟩ := ha
  refine ⟨_, pi_range2 hg hm pa hs hs2, fun a0 G Γ σ H F Rr r hk => ?_⟩
  refine sdA_fz s r (okG_bind hk fun y _ hy vs H1 F1 e1 r1 hv => ?_)
  obtain ⟨ds, Γ1⟩ := y
  dsimp only at hy hv
  split at hy
  · rename_i k j _
    split at hy
    · rename_i hz
      cases hv with
      | cons h1 hv => cases hv with
        | cons h2 hv =>
          cases hv
          cases h1
          cases h2
          refine ⟨k, j, rfl, hz, hy _ _ _ _ H1 F1 e1 r1 (walk_range (lo := k)) ⟨rngD_len _ _ _, fun _ _ _ _ => trivial, fun i d hd F2 H2 x H3 _ _ hY => ?_⟩⟩
          obtain ⟨rfl, rfl⟩ := hY
          rw [rngD_get hd]
          exact .inl ⟨rfl, by rw [Int.mul_one]; exact .int _⟩
    · exact hy.elim
  · exact hy.elim
theorem si_r3 {p : Pos} (hg : Gl X "range") (hm : X.mg "range" = none) (ha : SA X W [a, b, c] mas) (hs : starEach [a, b, c] X.env = (false, eval a X.env) :: starEach [b, c] X.env := by rfl) (hs2 : (backTo pos (starEach [b, c] X.env)).any (·.1) = false := by rfl) :
    SI X W tg (.Call (.Name "range" p) [a, b, c] [] pos) (mR3 mas) := by
  obtain ⟨t, pa, s⟩ := ha
  refine ⟨_, pi_range3 hg hm pa hs hs2, fun a0 G Γ σ H F Rr r hk => ?_⟩
  refine sdA_fz s r (okG_bind hk fun y _ hy vs H1 F1 e1 r1 hv => ?_)
  obtain ⟨ds, Γ1⟩ := y
  dsimp only at hy hv
  split at hy
  · rename_i k j c _
    split at hy
    · rename_i hz
      obtain ⟨z1, z2, z3, z4, rfl⟩ := hz
      cases hv with
      | cons h1 hv => cases hv with
        | cons h2 hv => cases hv with
          | cons h3 hv =>
            cases hv
            cases h1
            cases h2
            cases h3
            refine ⟨k, j, -1, _, rfl, RgC.neg z1 z2 z3 z4, hy _ _ _ _ H1 F1 e1 r1 (walk_rangeC (lo := k) (c := -1)) ⟨rngD_len _ _ _, fun _ _ _ _ => trivial, fun i d hd F2 H2 x H3 _ _ hY => ?_⟩⟩
            obtain ⟨rfl, rfl⟩ := hY
            rw [rngD_get hd]
            exact .inl ⟨rfl, .int _⟩
    · exact hy.elim
  · exact hy.elim
def mEnL (ma : Env → R (List BV × Env)) : Env → R (List D × Env) := fun Γ => (mFzA ma Γ).bind fun y => match y.1 with
  | [.lst xs] => .ok (enumD 0 xs, y.2)
  | _ => .bad
def mEnT (ma : Env → R (List BV × Env)) : Env → R (List D × Env) := fun Γ => (mFzA ma Γ).bind fun y => match y.1 with
  | [.tup xs] => .ok (enumD 0 xs, y.2)
  | _ => .bad
theorem si_enL {p tpos : Pos} {elts : List Expr} {kk : Nat} (hg : Gl X "enumerate") (hm : X.mg "enumerate" = none) (ha : SA X W [e] mas) (hs : starEach [e] X.env = [(false, eval e X.env)] := by rfl) :
    SI X W (.Tuple elts kk tpos) (.Call (.Name "enumerate" p) [e] [] pos) (mEnL mas) := by
  obtain ⟨t, pa, s⟩ := ha
  refine ⟨_, pi_enum hg hm pa hs, fun a0 G Γ σ H F Rr r hk => ?_⟩
  refine sdA_fz s r (okG_bind hk fun y _ hy vs H1 F1 e1 r1 hv => ?_)
  obtain ⟨ds, Γ1⟩ := y
  dsimp only at hy hv
  split at hy
  · cases hv with
    | cons h1 hv =>
      cases hv
      cases h1 with
      | lst h1 h2 =>
        refine ⟨_, _, rfl, SqL.of (r1.wd.f _ _ h1), hy _ _ _ _ H1 F1 e1 r1 walk_enum ⟨(enumD_len _ _).trans h2.length.symm, fun F2 H2 e2 e3 => SqL.of (e3 _ _ (e2 _ _ h1)), fun i d hd F2 H2 x H3 e2 e3 hY => ?_⟩⟩
        obtain ⟨T, x1, x2, rfl, hT, rfl, q1, q2⟩ := hY
        obtain ⟨z, hz, rfl⟩ := enumD_get hd
        cases q1
        obtain ⟨d', q3, q4⟩ := h2.getV q2
        rw [q3] at hz; cases hz
        exact .inr ⟨T, _, _, rfl, hT, rfl, rfl, .cons (by rw [Nat.zero_add]; exact .int _) (.cons (q4.mono e2) .nil)⟩
  · exact hy.elim
theorem si_enT {p tpos : Pos} {elts : List Expr} {kk : Nat} (hg : Gl X "enumerate") (hm : X.mg "enumerate" = none) (ha : SA X W [e] mas) (hs : starEach [e] X.env = [(false, eval e X.env)] := by rfl) :
    SI X W (.Tuple elts kk tpos) (.Call (.Name "enumerate" p) [e] [] pos) (mEnT mas) := by
  obtain ⟨t, pa, s⟩ := ha
  refine ⟨_, pi_enumT hg hm pa hs, fun a0 G Γ σ H F Rr r hk => ?_⟩
  refine sdA_fz s r (okG_bind hk fun y _ hy vs H1 F1 e1 r1 hv => ?_)
  obtain ⟨ds, Γ1⟩ := y
  dsimp only at hy hv
  split at hy
  · cases hv with
    | cons h1 hv =>
      cases hv
      cases h1 with
      | tup h1 h2 =>
        refine ⟨_, _, rfl, Evl.ex_t r1.wd.f h1, hy _ _ _ _ H1 F1 e1 r1 walk_enumT ⟨(enumD_len _ _).trans h2.length.symm, fun F2 H2 e2 e3 => Evl.ex_t e3 (Evl.ex_t e2 h1), fun i d hd F2 H2 x H3 e2 e3 hY => ?_⟩⟩
        obtain ⟨T, x1, x2, rfl, hT, rfl, q1, q2⟩ := hY
        obtain ⟨z, hz, rfl⟩ := enumD_get hd
        cases q1
        obtain ⟨d', q3, q4⟩ := h2.getV q2
        rw [q3] at hz; cases hz
        exact .inr ⟨T, _, _, rfl, hT, rfl, rfl, .cons (by rw [Nat.zero_add]; exact .int _) (.cons (q4.mono e2) .nil)⟩
  · exact hy.elim
def mZi (ma : Env → R (List BV × Env)) : Env → R (List D × Env) := fun Γ => (mFzA ma Γ).bind fun y => match y.1 with
  | [.lst xs, .lst ys] => .ok (zipD xs ys, y.2)
  | _ => .bad
theorem si_zi {p tpos : Pos} {elts : List Expr} {kk : Nat} (hg : Gl X "zip") (hm : X.mg "zip" = none) (ha : SA X W [e, e2] mas) (hs : starEach [e, e2] X.env = (false, eval e X.env) :: starEach [e2] X.env := by rfl) (hs2 : (backTo pos (starEach [e2] X.env)).any (·.1) = false := by rfl) :
    SI X W (.Tuple elts kk tpos) (.Call (.Name "zip" p) [e, e2] [] pos) (mZi mas) := by
  obtain ⟨t, pa, s⟩ := ha
  refine ⟨_, pi_zip hg hm pa hs hs2, fun a0 G Γ σ H F Rr r hk => ?_⟩
  refine sdA_fz s r (okG_bind hk fun y _ hy vs H1 F1 e1 r1 hv => ?_)
  obtain ⟨ds, Γ1⟩ := y
  dsimp only at hy hv
  split at hy
  · cases hv with
    | cons h1 hv => cases hv with
      | cons h3 hv =>
        cases hv
        cases h1 with
        | lst h1 h2 => cases h3 with
          | lst h3 h4 =>
            refine ⟨_, _, _, _, rfl, SqL.of (r1.wd.f _ _ h1), SqL.of (r1.wd.f _ _ h3), hy _ _ _ _ H1 F1 e1 r1 (walk_zip rfl) ⟨by rw [zipD_len, h2.length, h4.length], fun F2 H2 e2 e3 => ⟨SqL.of (e3 _ _ (e2 _ _ h1)), SqL.of (e3 _ _ (e2 _ _ h3))⟩, fun i d hd F2 H2 x H3 e2 e3 hY => ?_⟩⟩
            obtain ⟨T, x1, x2, rfl, hT, rfl, q1, q2⟩ := hY
            obtain ⟨z1, z2, hz1, hz2, rfl⟩ := zipD_get hd
            obtain ⟨d', q3, q4⟩ := h2.getV q1
            rw [q3] at hz1; cases hz1
            obtain ⟨d', q5, q6⟩ := h4.getV q2
            rw [q5] at hz2; cases hz2
            exact .inr ⟨T, _, _, rfl, hT, rfl, rfl, .cons (q4.mono e2) (.cons (q6.mono e2) .nil)⟩
  · exact hy.elim
theorem PI.or {w1 w2 : TI} {iter : Expr} (h1 : PI X tg iter w1) (h2 : PI X tg iter w2) : PI X tg iter (fun σ H R => w1 σ H R ∨ w2 σ H R) :=
  ⟨fun pins s σ H R I h => h.elim (h1.run pins s σ H R I) (h2.run pins s σ H R I)⟩
def mIs (m : Env → R (BV × Env)) : Env → R (List D × Env) := fun Γ => (mFz1 m Γ).bind fun x => match x.1 with
  | .lst xs => .ok (xs, x.2)
  | .tup xs => .ok (xs, x.2)
  | _ => .bad
theorem si_seq (h : SX X W e me) : SI X W tg e (mIs me) := by
  obtain ⟨w1, p1, s1⟩ := si_list (tg := tg) h
  obtain ⟨w2, p2, s2⟩ := si_tup (tg := tg) h
  refine ⟨_, PI.or p1 p2, fun a0 G Γ σ H F Rr r hk => ?_⟩
  cases q : mFz1 me Γ with
  | bad => unfold mIs at hk; rw [q] at hk; exact hk.elim
  | exc c fs => unfold mIs at hk; rw [q] at hk; exact .inl (s1 a0 G Γ σ H F Rr r (by unfold mIl; rw [q]; exact hk))
  | ok x =>
    obtain ⟨d, Γ1⟩ := x
    unfold mIs at hk
    rw [q] at hk
    cases d with
    | lst xs => exact .inl (s1 a0 G Γ σ H F Rr r (by unfold mIl; rw [q]; exact hk))
    | tup xs => exact .inr (s2 a0 G Γ σ H F Rr r (by unfold mIt; rw [q]; exact hk))
    | _ => exact hk.elim
def mEn (ma : Env → R (List BV × Env)) : Env → R (List D × Env) := fun Γ => (mFzA ma Γ).bind fun y => match y.1 with
  | [.lst xs] => .ok (enumD 0 xs, y.2)
  | [.tup xs] => .ok (enumD 0 xs, y.2)
  | _ => .bad
theorem si_en {p tpos : Pos} {elts : List Expr} {kk : Nat} (hg : Gl X "enumerate") (hm : X.mg "enumerate" = none) (ha : SA X W [e] mas) (hs : starEach [e] X.env = [(false, eval e X.env)] := by rfl) :
    SI X W (.Tuple elts kk tpos) (.Call (.Name "enumerate" p) [e] [] pos) (mEn mas) := by
  obtain ⟨w1, p1, s1⟩ := si_enL (p := p) (pos := pos) (tpos := tpos) (elts := elts) (kk := kk) hg hm ha hs
  obtain ⟨w2, p2, s2⟩ := si_enT (p := p) (pos := pos) (tpos := tpos) (elts := elts) (kk := kk) hg hm ha hs
  refine ⟨_, PI.or p1 p2, fun a0 G Γ σ H F Rr r hk => ?_⟩
  unfold mEn at hk
  cases q : mFzA mas Γ with
  | bad => rw [q] at hk; exact hk.elim
  | exc c fs => rw [q] at hk; exact .inl (s1 a0 G Γ σ H F Rr r (by unfold mEnL; rw [q]; exact hk))
  | ok x =>
    obtain ⟨ds, Γ1⟩ := x
    rw [q] at hk
    simp only [R.bind] at hk
    split at hk
    · rename_i xs e0
      exact .inl (s1 a0 G Γ σ H F Rr r (by unfold mEnL; rw [q]; simp only [R.bind]; exact hk))
    · rename_i xs e0
      exact .inr (s2 a0 G Γ σ H F Rr r (by unfold mEnT; rw [q]; simp only [R.bind]; exact hk))
    · exact hk.elim
theorem walk_zipT {K : PySem.W.Frag} {a b : Addr} {xs ys : List V} {n : Nat} (hn : n = min xs.length ys.length) : Walk (RZ.ItzT K a b) n (fun H => SqT K H a xs ∧ SqT K H b ys) (YPair (fun i => xs[i]?) (fun i => ys[i]?)) := by
  subst hn
  refine ⟨fun i H hi q => ?_, fun H q => ?_, fun i H v H' hi q y => ?_⟩
  · have h1 : i < xs.length := by omega
    have h2 : i < ys.length := by omega
    exact ⟨xs, ys, xs[i], ys[i], q.1, q.2, by simp [h1], by simp [h2]⟩
  · exact ⟨xs, ys, q.1, q.2, by omega⟩
  · obtain ⟨T, x, z, h1, h2, h3, h4, h5⟩ := y
    exact ⟨T, x, z, h1, h2, h3, h4 xs q.1, h5 ys q.2⟩
def mZa (ma : Env → R (List BV × Env)) : Env → R (List D × Env) := fun Γ => (mFzA ma Γ).bind fun y => match y.1 with
  | [.lst xs, .lst ys] => .ok (zipD xs ys, y.2)
  | [.tup xs, .tup ys] => .ok (zipD xs ys, y.2)
  | _ => .bad
theorem si_za {p tpos : Pos} {elts : List Expr} {kk : Nat} (hg : Gl X "zip") (hm : X.mg "zip" = none) (ha : SA X W [e, e2] mas) (hs : starEach [e, e2] X.env = (false, eval e X.env) :: starEach [e2] X.env := by rfl) (hs2 : (backTo pos (starEach [e2] X.env)).any (·.1) = false := by rfl) :
    SI X W (.Tuple elts kk tpos) (.Call (.Name "zip" p) [e, e2] [] pos) (mZa mas) := by
  obtain ⟨t, pa, s⟩ := ha
  refine ⟨_, RZ.pi_zipA hg hm pa hs hs2, fun a0 G Γ σ H F Rr r hk => ?_⟩
  refine sdA_fz s r (okG_bind hk fun y _ hy vs H1 F1 e1 r1 hv => ?_)
  obtain ⟨ds, Γ1⟩ := y
  dsimp only at hy hv
  split at hy
  · cases hv with
    | cons h1 hv => cases hv with
      | cons h3 hv =>
        cases hv
        cases h1 with
        | lst h1 h2 => cases h3 with
          | lst h3 h4 =>
            refine ⟨_, _, _, _, rfl, .inl ⟨SqL.of (r1.wd.f _ _ h1), SqL.of (r1.wd.f _ _ h3), hy _ _ _ _ H1 F1 e1 r1 (walk_zip rfl) ⟨by rw [zipD_len, h2.length, h4.length], fun F2 H2 e2 e3 => ⟨SqL.of (e3 _ _ (e2 _ _ h1)), SqL.of (e3 _ _ (e2 _ _ h3))⟩, fun i d hd F2 H2 x H3 e2 e3 hY => ?_⟩⟩⟩
            obtain ⟨T, x1, x2, rfl, hT, rfl, q1, q2⟩ := hY
            obtain ⟨z1, z2, hz1, hz2, rfl⟩ := zipD_get hd
            obtain ⟨d', q3, q4⟩ := h2.getV q1
            rw [q3] at hz1; cases hz1
            obtain ⟨d', q5, q6⟩ := h4.getV q2
            rw [q5] at hz2; cases hz2
            exact .inr ⟨T, _, _, rfl, hT, rfl, rfl, .cons (q4.mono e2) (.cons (q6.mono e2) .nil)⟩
  · cases hv with
    | cons h1 hv => cases hv with
      | cons h3 hv =>
        cases hv
        cases h1 with
        | tup h1 h2 => cases h3 with
          | tup h3 h4 =>
            refine ⟨_, _, _, _, rfl, .inr ⟨Evl.ex_t r1.wd.f h1, Evl.ex_t r1.wd.f h3, hy _ _ _ _ H1 F1 e1 r1 (walk_zipT rfl) ⟨by rw [zipD_len, h2.length, h4.length], fun F2 H2 e2 e3 => ⟨Evl.ex_t e3 (Evl.ex_t e2 h1), Evl.ex_t e3 (Evl.ex_t e2 h3)⟩, fun i d hd F2 H2 x H3 e2 e3 hY => ?_⟩⟩⟩
            obtain ⟨T, x1, x2, rfl, hT, rfl, q1, q2⟩ := hY
            obtain ⟨z1, z2, hz1, hz2, rfl⟩ := zipD_get hd
            obtain ⟨d', q3, q4⟩ := h2.getV q1
            rw [q3] at hz1; cases hz1
            obtain ⟨d', q5, q6⟩ := h4.getV q2
            rw [q5] at hz2; cases hz2
            exact .inr ⟨T, _, _, rfl, hT, rfl, rfl, .cons (q4.mono e2) (.cons (q6.mono e2) .nil)⟩
  · exact hy.elim
end
end Rg
namespace Rg
open PySem L2
def W0 : WX := fun _ _ _ _ => False
def tmX (K : PySem.W.Frag) (mg : Str → Option Value) (W : WX) (m : Env → R (BV × Env)) : TE := fun σ H Q => ∃ a0 G Γ F, Rel K a0 G Γ σ H F ∧ OkG K mg G F W (PX K a0 G F σ Q) (m Γ)
def tmT (K : PySem.W.Frag) (mg : Str → Option Value) (W : WX) (m : Env → R (Bool × Env)) : TT := fun σ H Q => ∃ a0 G Γ F, Rel K a0 G Γ σ H F ∧ OkG K mg G F W (PTs K a0 G F σ Q) (m Γ)
def tmG (K : PySem.W.Frag) (f : D → Env → Option Env) (ws : List Nat) : TG := fun v σ H Q => ∃ a0 G Γ F d Γ', Rel K a0 G Γ σ H F ∧ Rp K F v d ∧ f d Γ = some Γ' ∧ ∀ σ' H' F', Ex F F' → Rel K a0 G Γ' σ' H' F' → Wp σ' σ ws → Q σ' H'
section
variable {X : Cx} {W : WX} {e : Expr}
theorem SX.can {m : Env → R (BV × Env)} (h : SX X W e m) : PE X e (tmX X.K X.mg W m) := by
  obtain ⟨t, p, s⟩ := h
  exact ⟨fun pins st σ H Q I ⟨a0, G, Γ, F, r, hk⟩ => p.run pins st σ H Q I (s a0 G Γ σ H F Q r hk)⟩
theorem ST.can {m : Env → R (Bool × Env)} (h : ST X W e m) : PT X e (tmT X.K X.mg W m) := by
  obtain ⟨t, p, s⟩ := h
  exact ⟨fun pins st σ H Q I ⟨a0, G, Γ, F, r, hk⟩ => p.run pins st σ H Q I (s a0 G Γ σ H F Q r hk)⟩
theorem SG.can {f : D → Env → Option Env} {ws : List Nat} (h : SG X e f ws) : PG X e (tmG X.K f ws) := by
  obtain ⟨g, p, s⟩ := h
  exact ⟨fun pins st σ H v u Q I rv ⟨a0, G, Γ, F, d, Γ', r, hv, hf, hk⟩ => p.run pins st σ H v u Q I rv (s a0 G Γ σ H F v d Γ' Q r hv hf hk)⟩
end
def wipeE (Γ : Env) : List Nat → Env
  | [] => Γ
  | v :: vs => (wipeE Γ vs).set v .no
def nox {α : Type} : R α → R α
  | .ok a => .ok a
  | _ => .bad
section
variable {K : PySem.W.Frag} {mg : Str → Option Value} {a0 : Addr} {G F H : Hp} {Γ : Env} {σ : L2.St} {W : WX}
theorem Rel.wipe (r : Rel K a0 G Γ σ H F) : ∀ vs : List Nat, Rel K a0 G (wipeE Γ vs) (L2.wipe σ vs) H F
  | [] => r
  | _ :: vs => (Rel.wipe r vs).forget
theorem wipe_get {vs : List Nat} {i : Nat} (h : i ∉ vs) : (L2.wipe σ vs)[i]? = σ[i]? := by
  induction vs with
  | nil => rfl
  | cons v vs ih =>
    have h' : i ≠ v ∧ i ∉ vs := ⟨fun z => h (by rw [z]; exact List.mem_cons_self ..), fun z => h (List.mem_cons_of_mem _ z)⟩
    show ((L2.wipe σ vs).set v none)[i]? = _
    rw [List.getElem?_set_ne (Ne.symm h'.1)]
    exact ih h'.2
theorem gt_wipeE : ∀ {vs : List Nat} {i : Nat}, i ∈ vs → gt (wipeE Γ vs) i = .no
  | [], _, h => by simp at h
  | v :: vs, i, h => by
    show gt ((wipeE Γ vs).set v .no) i = .no
    by_cases e : i = v
    · subst e
      by_cases hl : i < (wipeE Γ vs).length
      · exact gt_set_same hl
      · have : ∀ (Γ : Env) (i : Nat), ¬ i < Γ.length → gt Γ i = .no := fun Γ i hn => by
          cases q : gt Γ i with
          | no => rfl
          | v d => exact absurd (gt_lt q (by simp)) hn
          | o d => exact absurd (gt_lt q (by simp)) hn
        rw [List.set_eq_of_length_le (Nat.le_of_not_lt hl)]
        exact this _ _ hl
    · rw [gt_set_ne e]
      exact gt_wipeE ((List.mem_cons.mp h).resolve_left e)
theorem Rel.unwipe {vs : List Nat} (r : Rel K a0 G Γ (L2.wipe σ vs) H F) (h : ∀ v ∈ vs, gt Γ v = .no) : Rel K a0 G Γ σ H F := by
  obtain ⟨O, ad, x⟩ := r
  have nm : ∀ {i s}, gt Γ i = s → s ≠ .no → i ∉ vs := fun {i s} q n z => n (q.symm.trans (h i z))
  refine ⟨O, ad, ⟨x.wd, x.o, x.fo, x.go, fun i d q => ?_, fun i xs q => ?_, x.inj, x.z, by rw [x.len, wipe_length], x.ol⟩⟩
  · obtain ⟨v, h1, h2⟩ := x.v i d q
    rw [wipe_get (nm q (by simp))] at h1
    exact ⟨v, h1, h2⟩
  · obtain ⟨h1, h2⟩ := x.ow i xs q
    rw [wipe_get (nm q (by simp))] at h1
    exact ⟨h1, h2⟩
theorem Rel.tmut {p : Addr} {ws ws' : List V} (r : Rel K a0 (upd G p (.lst ws)) Γ σ H F) : Rel K a0 (upd G p (.lst ws')) Γ σ (upd H p (.lst ws')) F := by
  obtain ⟨O, ad, x⟩ := r
  have hp : upd G p (.lst ws) p = some (.lst ws) := upd_same
  have hF : F p = none := (x.wd.d p).elim id fun q => by rw [hp] at q; cases q
  have hO : O p = none := (x.go p).elim (fun q => by rw [hp] at q; cases q) id
  refine ⟨O, ad, ⟨⟨ex_upd x.wd.f hF, fun b u q => ?_, fun b => ?_, x.wd.tb.to (keep_mut (x.wd.g _ _ hp)) x.wd.tb.nf (fun b u q => by
      by_cases hb : b = p
      · subst hb; rw [upd_same] at q; cases q; exact ⟨_, rfl⟩
      · rw [upd_ne hb] at q; exact x.wd.tb.ng b u (by rw [upd_ne hb]; exact q))⟩, ex_upd x.o hO, x.fo, fun b => ?_, x.v, x.ow, x.inj, x.z, x.len, x.ol⟩⟩
  · by_cases hb : b = p
    · subst hb; rw [upd_same] at q ⊢; exact q
    · rw [upd_ne hb] at q ⊢; exact x.wd.g b u (by rw [upd_ne hb]; exact q)
  · by_cases hb : b = p
    · subst hb; exact .inl hF
    · exact (x.wd.d b).elim .inl fun q => .inr (by rw [upd_ne hb] at q ⊢; exact q)
  · by_cases hb : b = p
    · subst hb; exact .inr hO
    · exact (x.go b).elim (fun q => .inl (by rw [upd_ne hb] at q ⊢; exact q)) .inr
theorem okG_nox {α β : Type} {G' F' : Hp} {P : β → Prop} {P' : α → Prop} {r : R α} {f : α → R β} (h : OkG K mg G F W P ((nox r).bind f)) (k : ∀ a, r = .ok a → OkG K mg G F W P (f a) → P' a) : OkG K mg G' F' W0 P' r := by
  cases r with
  | ok a => exact k a rfl h
  | exc c fs => exact h.elim
  | bad => exact h.elim
end
def mLcL (f : D → Env → Option Env) (t : Env → R (Bool × Env)) (e : Env → R (BV × Env)) (vs : List Nat) : List D → Env → List D → R (List D × Env)
  | [], Γ, acc => .ok (acc, Γ)
  | d :: ds, Γ, acc => match f d Γ with
    | none => .bad
    | some Γ1 => (nox (t Γ1)).bind fun x => if x.1 = true then (nox (mFz1 e x.2)).bind fun y => (if acc.length < SZ then mLcL f t e vs ds (wipeE y.2 vs) (acc ++ [y.1]) else .bad) else mLcL f t e vs ds (wipeE x.2 vs) acc
def mLc (mi : Env → R (List D × Env)) (f : D → Env → Option Env) (t : Env → R (Bool × Env)) (e : Env → R (BV × Env)) (vs : List Nat) : Env → R (BV × Env) := fun Γ => (mi Γ).bind fun y => (mLcL f t e vs y.1 (wipeE y.2 vs) []).bind fun z => .ok (.o z.1, z.2)
def mYes : Env → R (Bool × Env) := fun Γ => .ok (true, Γ)
section
variable {K : PySem.W.Frag} {mg : Str → Option Value} {W : WX}
theorem sdX_lc {wi : TI} {mi : Env → R (List D × Env)} {f : D → Env → Option Env} {ws vs : List Nat} {mt : Env → R (Bool × Env)} {me : Env → R (BV × Env)} {tt : TT} (hw : ∀ w ∈ ws, w ∈ vs) (hi : SdI K mg W wi mi) (ht : SdT K mg W0 tt mt) :
    SdX K mg W (tLc wi (tmG K f ws) tt (tmX K mg W0 me) vs) (mLc mi f mt me vs) := by
  intro a0 G Γ σ H F Q r h
  refine hi a0 G Γ σ H F _ r (okG_bind h fun y _ hy J n Gd Y H1 F1 e1 r1 wk gv => ?_)
  obtain ⟨ds, Γ1⟩ := y
  dsimp only at hy r1 gv
  intro Dn hD
  obtain ⟨hGD, r2⟩ := r1.newT (vs := []) hD
  refine lc_it wk (fun i H => ∃ Γ F' acc xs, Ex F1 F' ∧ Rel K a0 (upd G Dn (.lst acc)) Γ (L2.wipe σ vs) H F' ∧ RpA K F' acc xs ∧ (∀ v ∈ vs, gt Γ v = .no) ∧
    OkG K mg G F' W (fun z => PX K a0 G F' σ Q (.o z.1, z.2)) (mLcL f mt me vs (ds.drop i) Γ xs)) ?_ ?_ ?_ ?_
  · exact ⟨_, F1, [], [], Ex.refl F1, r2.wipe vs, .nil, fun v hv => gt_wipeE hv, okG_mono e1 (okG_bind hy fun z _ hz => hz) fun z _ hz => PX.mono e1 hz⟩
  · rintro i H2 _ ⟨Γ2, F2, acc, xs, e2, r2, _⟩
    exact gv.2.1 F2 H2 e2 r2.wd.f
  · rintro i x H2 H3 hin ⟨Γ2, F2, acc, xs, e2, r2, ha, hn, h2⟩ hY
    have hil : i < ds.length := by rw [gv.1]; exact hin
    have hd : ds[i]? = some ds[i] := List.getElem?_eq_getElem hil
    obtain ⟨F3, e3, r3, hx⟩ := Rel.item gv e2 r2 hd hY
    rw [List.drop_eq_getElem_cons hil] at h2
    simp only [mLcL] at h2
    split at h2
    · exact h2.elim
    · rename_i Γ3 hf
      refine ⟨a0, _, Γ2, F3, ds[i], Γ3, r3, hx, hf, fun σ4 H4 F4 e4 r4 w4 => ⟨w4 vs hw |>.trans ?_, ?_⟩⟩
      · have : ∀ (us : List Nat) (τ : L2.St), L2.wipe (L2.wipe τ us) us = L2.wipe τ us := by
          intro us
          induction us with
          | nil => intro τ; rfl
          | cons u us ih =>
            intro τ
            show (L2.wipe ((L2.wipe τ us).set u none) us).set u none = (L2.wipe τ us).set u none
            by_cases hm : u ∈ us
            · rw [wipe_set _ _ _ _ hm, ih]
            · rw [wipe_set_ne _ _ _ _ hm, List.set_set, ih]
        exact this vs σ
      · have e24 : Ex F2 F4 := Ex.trans e3 e4
        have hww : L2.wipe σ4 vs = L2.wipe σ vs := (w4 vs hw).trans (by
          have : ∀ (us : List Nat) (τ : L2.St), L2.wipe (L2.wipe τ us) us = L2.wipe τ us := by
            intro us
            induction us with
            | nil => intro τ; rfl
            | cons u us ih =>
              intro τ
              show (L2.wipe ((L2.wipe τ us).set u none) us).set u none = (L2.wipe τ us).set u none
              by_cases hm : u ∈ us
              · rw [wipe_set _ _ _ _ hm, ih]
              · rw [wipe_set_ne _ _ _ _ hm, List.set_set, ih]
          exact this vs σ)
        refine ht a0 _ Γ3 σ4 H4 F4 _ r4 (okG_nox h2 fun z _ hz => ?_)
        obtain ⟨k, Γ5⟩ := z
        intro H5 F5 e5 r5
        dsimp only at hz ⊢
        cases k with
        | true =>
          simp only [if_true] at hz ⊢
          refine ⟨a0, _, Γ5, F5, r5, ?_⟩
          have key : ∀ {Q' : VK}, (∀ v H' F' d Γ', mFz1 me Γ5 = .ok (d, Γ') → Ex F5 F' → Rel K a0 (upd G Dn (.lst acc)) Γ' σ4 H' F' → Rp K F' v d → Q' v H') → OkG K mg (upd G Dn (.lst acc)) F5 W0 (PX K a0 (upd G Dn (.lst acc)) F5 σ4 Q') (me Γ5) := by
            intro Q' hq
            have hz' := hz
            unfold mFz1 at hz' hq
            cases q : me Γ5 with
            | bad => rw [q] at hz'; exact hz'.elim
            | exc c fs => rw [q] at hz'; exact hz'.elim
            | ok w =>
              obtain ⟨b, Γ6⟩ := w
              rw [q] at hz' hq
              simp only [R.bind] at hz' hq
              refine PX_fz fun v H' F' e' r' hb => ?_
              cases q2 : b.fz with
              | o ys => rw [q2] at hb; exact hb.elim
              | v d => rw [q2] at hb; exact hq v H' F' d Γ6 (by rw [q2]) e' r' hb
              | s j =>
                rw [q2] at hb
                have hb : σ4[j]? = some (some v) := hb
                cases g : gt Γ6 j with
                | no => rw [q2] at hz'; simp only [g] at hz'; exact hz'.elim
                | v d =>
                  obtain ⟨v', a1, a2⟩ := r'.getv g
                  rw [a1] at hb; cases hb
                  exact hq v H' F' d Γ6 (by rw [q2]; simp only [g]) e' r' a2
                | o ys =>
                  obtain ⟨p, us, a1, e6, a2, r6⟩ := r'.frz g
                  rw [a1] at hb; cases hb
                  exact hq _ H' _ (.lst ys) (Γ6.set j (.v (.lst ys))) (by rw [q2]; simp only [g]) (Ex.trans e' e6) r6 (.lst upd_same (a2.mono e6))
          refine key fun v H6 F6 d Γ6 hme e6 r6 hv => ?_
          rw [hme] at hz
          simp only [nox, R.bind] at hz
          split at hz
          · rename_i hlen
            have hHD : H6 Dn = some (.lst acc) := r6.wd.g _ _ upd_same
            have e26 : Ex F2 F6 := Ex.trans e24 (Ex.trans e5 e6)
            have ha6 := ha.mono e26
            refine ⟨acc, hHD, by rw [ha.length]; exact sz_lt hlen, _, F6, acc ++ [v], xs ++ [d], Ex.trans e2 e26, ?_, ha6.append (.cons hv .nil), fun w hw' => gt_wipeE hw', okG_mono e26 hz fun z _ hz => PX.mono e26 hz⟩
            have r7 := (r6.tmut (ws' := acc ++ [v])).wipe vs
            rw [hww] at r7
            exact r7
          · exact hz.elim
        | false =>
          simp only [Bool.false_eq_true, if_false] at hz ⊢
          have e25 : Ex F2 F5 := Ex.trans e24 e5
          have r7 := r5.wipe vs
          rw [hww] at r7
          exact ⟨_, F5, acc, xs, Ex.trans e2 e25, r7, ha.mono e25, fun w hw' => gt_wipeE hw', okG_mono e25 hz fun z _ hz => PX.mono e25 hz⟩
  · rintro H2 ⟨Γ2, F2, acc, xs, e2, r2, ha, hn, h2⟩
    rw [List.drop_eq_nil_of_le (by rw [gv.1]; exact Nat.le_refl _)] at h2
    simp only [mLcL] at h2
    exact h2 Dn acc H2 F2 (Ex.refl F2) hGD (r2.unwipe hn) ha
end
end Rg
namespace Rg
open PySem L2
section
variable {X : Cx} {W : WX} {elt tg iter c : Expr} {scope : Scope} {own : List (Str × Nat)} {pos spos : Pos} {mi : Env → R (List D × Env)} {f : D → Env → Option Env} {ws : List Nat} {mt : Env → R (Bool × Env)} {me : Env → R (BV × Env)}
theorem sdT_yes {K : PySem.W.Frag} {mg : Str → Option Value} {W : WX} : SdT K mg W tYes mYes := fun a0 G Γ σ H F Q r h => h H F (Ex.refl F) r
theorem sdT_can {K : PySem.W.Frag} {mg : Str → Option Value} {W : WX} : SdT K mg W (tmT K mg W mt) mt := fun a0 G Γ σ H F Q r h => ⟨a0, G, Γ, F, r, h⟩
theorem sx_lc0 (own : List (Str × Nat)) (hc : X.calm = true) (hN : X.N.Nodup) (hi : SI X W tg iter mi) (ok : BlkOk X.N X.env.scope scope own) (hw : ∀ w ∈ ws, w ∈ own.map (·.2))
    (hg : ∀ (s : Shared) (H : Hp) (C : Addr) (cl : List (Str × Addr)) (fp : List Addr), SG (X.blk s H scope (compEnvC scope cl C X.env) fp) tg f ws)
    (he : ∀ (s : Shared) (H : Hp) (C : Addr) (cl : List (Str × Addr)) (fp : List Addr), SX (X.blk s H scope (compEnvC scope cl C X.env) fp) W0 elt me) (hs : ∀ x, foldedSetIterable iter X.env x = pure x := by intro _; rfl) :
    SX X W (.ListComp elt [⟨tg, iter, [], 0⟩] scope pos) (mLc mi f mYes me (own.map (·.2))) := by
  obtain ⟨wi, pi, si⟩ := hi
  exact ⟨_, pe_lc hc hN pi ok (fun s H C cl fp => (hg s H C cl fp).can) (fun s H C cl fp => pts_nil) (fun s H C cl fp => (he s H C cl fp).can) hs, sdX_lc hw si sdT_yes⟩
theorem sx_lc1 (own : List (Str × Nat)) (hc : X.calm = true) (hN : X.N.Nodup) (hi : SI X W tg iter mi) (ok : BlkOk X.N X.env.scope scope own) (hw : ∀ w ∈ ws, w ∈ own.map (·.2))
    (hg : ∀ (s : Shared) (H : Hp) (C : Addr) (cl : List (Str × Addr)) (fp : List Addr), SG (X.blk s H scope (compEnvC scope cl C X.env) fp) tg f ws)
    (ht : ∀ (s : Shared) (H : Hp) (C : Addr) (cl : List (Str × Addr)) (fp : List Addr), ST (X.blk s H scope (compEnvC scope cl C X.env) fp) W0 c mt)
    (he : ∀ (s : Shared) (H : Hp) (C : Addr) (cl : List (Str × Addr)) (fp : List Addr), SX (X.blk s H scope (compEnvC scope cl C X.env) fp) W0 elt me) (hs : ∀ x, foldedSetIterable iter X.env x = pure x := by intro _; rfl) :
    SX X W (.ListComp elt [⟨tg, iter, [c], 0⟩] scope pos) (mLc mi f mt me (own.map (·.2))) := by
  obtain ⟨wi, pi, si⟩ := hi
  exact ⟨_, pe_lc hc hN pi ok (fun s H C cl fp => (hg s H C cl fp).can) (fun s H C cl fp => pts_one (ht s H C cl fp).can) (fun s H C cl fp => (he s H C cl fp).can) hs, sdX_lc hw si sdT_can⟩
theorem ss_lc0 (i : Nat) (own : List (Str × Nat)) {y : Str} {py : Pos} (hc : X.calm = true) (hN : X.N.Nodup) (hi : SI X W tg iter mi) (ok : BlkOk X.N X.env.scope scope own) (hw : ∀ w ∈ ws, w ∈ own.map (·.2))
    (hg : ∀ (s : Shared) (H : Hp) (C : Addr) (cl : List (Str × Addr)) (fp : List Addr), SG (X.blk s H scope (compEnvC scope cl C X.env) fp) tg f ws)
    (he : ∀ (s : Shared) (H : Hp) (C : Addr) (cl : List (Str × Addr)) (fp : List Addr), SX (X.blk s H scope (compEnvC scope cl C X.env) fp) W0 elt me)
    (hsw : swapsWith (.ListComp elt [⟨tg, iter, [], 0⟩] scope pos) (some (.Name y py)) spos.line X.env = pure true)
    (hy : X.N[i]? = some y := by rfl) (hyl : X.env.scope.names.lookup y = some .local := by rfl) (hs : ∀ x, foldedSetIterable iter X.env x = pure x := by intro _; rfl) :
    SS X W (.Assign [.Name y py] (.ListComp elt [⟨tg, iter, [], 0⟩] scope pos) spos) (mSet i (mLc mi f mYes me (own.map (·.2)))) := by
  obtain ⟨wi, pi, si⟩ := hi
  exact ⟨_, ps_setLc hc hN hy hyl hsw pi ok (fun s H C cl fp => (hg s H C cl fp).can) (fun s H C cl fp => pts_nil) (fun s H C cl fp => (he s H C cl fp).can) hs, sdS_set (sdX_lc hw si sdT_yes)⟩
theorem ss_lc1 (i : Nat) (own : List (Str × Nat)) {y : Str} {py : Pos} (hc : X.calm = true) (hN : X.N.Nodup) (hi : SI X W tg iter mi) (ok : BlkOk X.N X.env.scope scope own) (hw : ∀ w ∈ ws, w ∈ own.map (·.2))
    (hg : ∀ (s : Shared) (H : Hp) (C : Addr) (cl : List (Str × Addr)) (fp : List Addr), SG (X.blk s H scope (compEnvC scope cl C X.env) fp) tg f ws)
    (ht : ∀ (s : Shared) (H : Hp) (C : Addr) (cl : List (Str × Addr)) (fp : List Addr), ST (X.blk s H scope (compEnvC scope cl C X.env) fp) W0 c mt)
    (he : ∀ (s : Shared) (H : Hp) (C : Addr) (cl : List (Str × Addr)) (fp : List Addr), SX (X.blk s H scope (compEnvC scope cl C X.env) fp) W0 elt me)
    (hsw : swapsWith (.ListComp elt [⟨tg, iter, [c], 0⟩] scope pos) (some (.Name y py)) spos.line X.env = pure true)
    (hy : X.N[i]? = some y := by rfl) (hyl : X.env.scope.names.lookup y = some .local := by rfl) (hs : ∀ x, foldedSetIterable iter X.env x = pure x := by intro _; rfl) :
    SS X W (.Assign [.Name y py] (.ListComp elt [⟨tg, iter, [c], 0⟩] scope pos) spos) (mSet i (mLc mi f mt me (own.map (·.2)))) := by
  obtain ⟨wi, pi, si⟩ := hi
  exact ⟨_, ps_setLc hc hN hy hyl hsw pi ok (fun s H C cl fp => (hg s H C cl fp).can) (fun s H C cl fp => pts_one (ht s H C cl fp).can) (fun s H C cl fp => (he s H C cl fp).can) hs, sdS_set (sdX_lc hw si sdT_can)⟩
end
def PR (K : PySem.W.Frag) (G F : Hp) (Q : VK) : Nw → Prop
  | .v d => ∀ v H' F', Ex F F' → Wd K F' G H' → Rp K F' v d → Q v H'
  | .o xs => ∀ p vs H' F', Ex F F' → G p = none → Wd K F' (upd G p (.lst vs)) H' → RpA K F' vs xs → Q (.ref p) H'
def WE (E : XK) : WX := fun c d _ H => E c d H
def spP (K : PySem.W.Frag) (mg : Str → Option Value) (n : Nat) (M : List D → R Nw) : Sp := fun vs H Q E => ∃ F G ds, Wd K F G H ∧ RpA K F vs ds ∧ ds.length = n ∧ OkG K mg G F (WE E) (PR K G F Q) (M ds)
def PRI (K : PySem.W.Frag) (G F : Hp) (p : Addr) (Q : VK) : Nw × List D → Prop
  | (.v d, xs') => ∀ v H' F' ws', Ex F F' → Wd K F' G H' → F' p = none → H' p = some (.lst ws') → RpA K F' ws' xs' → Rp K F' v d → Q v H'
  | (.o ys, xs') => ∀ q us H' F' ws', Ex F F' → G q = none → q ≠ p → Wd K F' (upd G q (.lst us)) H' → F' p = none → H' p = some (.lst ws') → RpA K F' ws' xs' → RpA K F' us ys → Q (.ref q) H'
def spI (K : PySem.W.Frag) (mg : Str → Option Value) (n : Nat) (M : List D → List D → R (Nw × List D)) : Sp := fun vs H Q E => ∃ F G p ws xs vs' ds, vs = .ref p :: vs' ∧ Wd K F G H ∧ F p = none ∧ G p = none ∧ H p = some (.lst ws) ∧ RpA K F ws xs ∧ RpA K F vs' ds ∧ ds.length = n ∧
  OkG K mg G F (WE E) (PRI K G F p Q) (M xs ds)
def allV : List BV → Bool
  | [] => true
  | .v _ :: bs => allV bs
  | _ :: _ => false
def lfFs : List (Str × D) → Bool
  | [] => true
  | (_, d) :: fs => lf d && lfFs fs
def mCall (M : List D → R Nw) (ma : Env → R (List BV × Env)) : Env → R (BV × Env) := fun Γ => (ma Γ).bind fun y => match rsA y.2 y.1 with
  | none => .bad
  | some ds => (match M ds with
    | .ok nw => if (allV y.1 || nw.lf) = true then .ok (nw.bv, y.2) else .bad
    | .exc c fs => if (allV y.1 || lfFs fs) = true then .exc c fs else .bad
    | .bad => .bad)
def mCallI (M : List D → List D → R (Nw × List D)) (ma : Env → R (List BV × Env)) : Env → R (BV × Env) := fun Γ => (ma Γ).bind fun y => match y.1 with
  | .s i :: bs => (match fzL bs y.2 with
    | some (ds, Γ1) => (match gt Γ1 i with
      | .o xs => (match M xs ds with
        | .ok z => .ok (z.1.bv, Γ1.set i (.o z.2))
        | .exc c fs => .exc c fs
        | .bad => .bad)
      | _ => .bad)
    | none => .bad)
  | _ => .bad
section
variable {K : PySem.W.Frag} {mg : Str → Option Value} {a0 : Addr} {G F F1 H : Hp} {Γ : Env} {σ : L2.St} {W : WX}
theorem FsA.less {F F' : Hp} (e : ∀ a o, F a = some o → (∀ vs, o ≠ .lst vs) → F' a = some o) : ∀ {gs : List (Str × V)} {fs : List (Str × D)}, FsA K F gs fs → lfFs fs = true → FsA K F' gs fs
  | _, _, .nil, _ => .nil
  | _, _, .cons h a, hl => by
    have h' := Bool.and_eq_true_iff.mp hl
    exact .cons (h.less e h'.1) (FsA.less e a h'.2)
theorem allV_rpA : ∀ {vs : List V} {bs : List BV} {ds : List D}, BsA K σ F vs bs → allV bs = true → rsA Γ bs = some ds → RpA K F vs ds
  | _, _, _, .nil, _, h => by cases h; exact .nil
  | _, _, _, .cons (b := b) (bs := bs) hb a, ha, h => by
    cases b with
    | o xs => exact hb.elim
    | s i => simp [allV] at ha
    | v d =>
      simp only [rsA, rs, Option.bind_some] at h
      cases q : rsA Γ bs with
      | none => rw [q] at h; cases h
      | some ds => rw [q] at h; cases h; exact .cons hb (allV_rpA a (by simpa [allV] using ha) q)
theorem bor_rpA {Fc : Hp} (e : Ex F Fc) (r : Rel K a0 G Γ σ H F) (hb : ∀ i xs, gt Γ i = .o xs → ∃ p, σ[i]? = some (some (.ref p)) ∧ Rp K Fc (.ref p) (.lst xs)) : ∀ {vs : List V} {bs : List BV} {ds : List D}, BsA K σ F vs bs → rsA Γ bs = some ds → RpA K Fc vs ds
  | _, _, _, .nil, h => by cases h; exact .nil
  | _, _, _, .cons (v := v) (b := b) (bs := bs) hv a, h => by
    simp only [rsA] at h
    cases q0 : rs Γ b with
    | none => rw [q0] at h; cases h
    | some d =>
      rw [q0, Option.bind_some] at h
      cases q : rsA Γ bs with
      | none => rw [q] at h; cases h
      | some ds =>
        rw [q] at h; cases h
        refine .cons ?_ (bor_rpA e r hb a q)
        cases b with
        | o xs => exact hv.elim
        | v d' => cases q0; exact Rp.mono e hv
        | s i =>
          have hv : σ[i]? = some (some v) := hv
          simp only [rs] at q0
          cases g : gt Γ i with
          | no => rw [g] at q0; cases q0
          | v d' =>
            rw [g] at q0; cases q0
            obtain ⟨v', h1, h2⟩ := r.getv g
            rw [h1] at hv; cases hv
            exact h2.mono e
          | o xs =>
            rw [g] at q0; cases q0
            obtain ⟨p, h1, h2⟩ := hb i xs g
            rw [h1] at hv; cases hv
            exact h2
theorem sp_call {n : Nat} {M : List D → R Nw} {vs : List V} {bs : List BV} {ds : List D} {Q : VK} (r : Rel K a0 G Γ σ H F1) (e : Ex F F1) (hb : BsA K σ F1 vs bs) (hr : rsA Γ bs = some ds) (hl : ∀ ds, ds.length ≠ n → M ds = .bad)
    (hk : OkG K mg G F W (PX K a0 G F σ Q) (match M ds with
    | .ok nw => if (allV bs || nw.lf) = true then .ok (nw.bv, Γ) else .bad
    | .exc c fs => if (allV bs || lfFs fs) = true then .exc c fs else .bad
    | .bad => .bad)) (E : XK) (hE : ∀ c d H, (∀ σ, W c d σ H) → E c d H) : spP K mg n M vs H Q E := by
  have hn : ds.length = n := Decidable.byContradiction fun z => by rw [hl ds z] at hk; exact hk.elim
  by_cases ha : allV bs = true
  · obtain ⟨G', eG, w, back, backT⟩ := r.split
    refine ⟨F1, G', ds, w, allV_rpA hb ha hr, hn, ?_⟩
    cases q : M ds with
    | bad => rw [q] at hk; exact hk.elim
    | exc c fs =>
      rw [q] at hk
      simp only [ha, Bool.true_or, if_true] at hk
      exact fun ca dd τ H' F' e' hx => hE _ _ _ fun σ => hk ca dd σ H' F' (Ex.trans e e') ⟨⟨hx.1.f, Ex.trans eG hx.1.g, fun b => (hx.1.d b).elim .inl fun z => .inr (none_of_ex eG z), hx.1.tb.to (fun _ _ q _ => q) hx.1.tb.nf (fun b u q => hx.1.tb.ng b u (eG b u q))⟩, hx.2⟩
    | ok nw =>
      rw [q] at hk
      simp only [ha, Bool.true_or, if_true] at hk
      cases nw with
      | v d => exact fun v H' F' e' w' hv => hk v H' F' (Ex.trans e e') (back F' H' e' w') hv
      | o xs =>
        intro p us H' F' e' hp w' hv
        obtain ⟨h1, h2⟩ := backT F' H' p _ e' hp w'
        exact hk p us H' F' (Ex.trans e e') h1 h2 hv
  · have ha' : allV bs = false := by simpa using ha
    obtain ⟨Fc, eF, w, own, back⟩ := r.borrow
    refine ⟨Fc, G, ds, w, bor_rpA eF r own hb hr, hn, ?_⟩
    cases q : M ds with
    | bad => rw [q] at hk; exact hk.elim
    | exc c fs =>
      rw [q] at hk
      simp only [ha', Bool.false_or] at hk
      by_cases hz : lfFs fs = true
      · rw [if_pos hz] at hk
        intro ca dd τ H' F' e' hx
        obtain ⟨F'', e2, r2, lo⟩ := (back F' H' e').1 hx.1
        obtain ⟨h1, gs, h2, h3⟩ := hx.2
        exact hE _ _ _ fun σ => hk ca dd σ H' F'' (Ex.trans e e2) ⟨r2.wd, h1, gs, h2, h3.less lo hz⟩
      · rw [if_neg hz] at hk; exact hk.elim
    | ok nw =>
      rw [q] at hk
      simp only [ha', Bool.false_or] at hk
      by_cases hz : nw.lf = true
      · rw [if_pos hz] at hk
        cases nw with
        | v d =>
          intro v H' F' e' w' hv
          obtain ⟨F'', e2, r2, lo⟩ := (back F' H' e').1 w'
          exact hk v H' F'' (Ex.trans e e2) r2 (hv.less lo hz)
        | o xs =>
          intro p us H' F' e' hp w' hv
          obtain ⟨F'', e2, r2, lo⟩ := (back F' H' e').2 p _ hp w'
          exact hk p us H' F'' (Ex.trans e e2) hp r2 (hv.less lo hz)
      · rw [if_neg hz] at hk; exact hk.elim
theorem sp_callI {n : Nat} {M : List D → List D → R (Nw × List D)} {v0 : V} {vs : List V} {i : Nat} {bs : List BV} {ds : List D} {Γ1 : Env} {Q : VK} (r : Rel K a0 G Γ σ H F1) (e : Ex F F1) (h0 : σ[i]? = some (some v0)) (hb : BsA K σ F1 vs bs) (hr : fzL bs Γ = some (ds, Γ1)) (hl : ∀ xs ds, ds.length ≠ n → M xs ds = .bad)
    (hk : OkG K mg G F W (PX K a0 G F σ Q) (match gt Γ1 i with
      | .o xs => (match M xs ds with
        | .ok z => .ok (z.1.bv, Γ1.set i (.o z.2))
        | .exc c fs => .exc c fs
        | .bad => .bad)
      | _ => .bad)) (E : XK) (hE : ∀ c d H, (∀ σ, W c d σ H) → E c d H) : spI K mg n M (v0 :: vs) H Q E := by
  obtain ⟨F2, e2, r2, hd⟩ := r.fzA hb hr
  have e02 : Ex F F2 := Ex.trans e e2
  cases g : gt Γ1 i with
  | no => rw [g] at hk; exact hk.elim
  | v d => rw [g] at hk; exact hk.elim
  | o xs =>
    rw [g] at hk
    dsimp only at hk
    obtain ⟨p, ws, G', h1, eG, w, hFp, hGp, hHp, hx, back, backT⟩ := r2.io g
    rw [h1] at h0; cases h0
    have hn : ds.length = n := Decidable.byContradiction fun z => by rw [hl xs ds z] at hk; exact hk.elim
    refine ⟨F2, G', p, ws, xs, vs, ds, rfl, w, hFp, hGp, hHp, hx, hd, hn, ?_⟩
    cases q : M xs ds with
    | bad => rw [q] at hk; exact hk.elim
    | exc c fs =>
      rw [q] at hk
      exact fun ca dd τ H' F' e' hx => hE _ _ _ fun σ => hk ca dd σ H' F' (Ex.trans e02 e') ⟨⟨hx.1.f, Ex.trans eG hx.1.g, fun b => (hx.1.d b).elim .inl fun z => .inr (none_of_ex eG z), hx.1.tb.to (fun _ _ q _ => q) hx.1.tb.nf (fun b u q => hx.1.tb.ng b u (eG b u q))⟩, hx.2⟩
    | ok z =>
      rw [q] at hk
      obtain ⟨nw, xs'⟩ := z
      cases nw with
      | v d => exact fun v H' F' ws' e' w' hF' hH' hx' hv => hk v H' F' (Ex.trans e02 e') (back F' H' ws' xs' e' w' hF' hH' hx') hv
      | o ys =>
        intro q2 us H' F' ws' e' hq hne w' hF' hH' hx' hv
        obtain ⟨a1, a2⟩ := backT F' H' ws' xs' q2 _ e' hq hne w' hF' hH' hx'
        exact hk q2 us H' F' (Ex.trans e02 e') a1 a2 hv
end
def nA (m : Env → R (List BV × Env)) (n : Nat) : Prop := ∀ Γ y, m Γ = .ok y → y.1.length = n
theorem nA_nil : nA mA0 0 := fun Γ y h => by cases h; rfl
theorem nA_cons {m : Env → R (BV × Env)} {mr : Env → R (List BV × Env)} {n : Nat} (h : nA mr n) : nA (mA1 m mr) (n + 1) := fun Γ y hy => by
  unfold mA1 at hy
  cases q : m Γ with
  | bad => rw [q] at hy; cases hy
  | exc c fs => rw [q] at hy; cases hy
  | ok x =>
    rw [q] at hy
    simp only [R.bind] at hy
    cases q2 : mr x.2 with
    | bad => rw [q2] at hy; cases hy
    | exc c fs => rw [q2] at hy; cases hy
    | ok z => rw [q2] at hy; cases hy; simp [h _ _ q2]
theorem BsA.length {K : PySem.W.Frag} {σ : L2.St} {F : Hp} : ∀ {vs : List V} {bs : List BV}, BsA K σ F vs bs → vs.length = bs.length
  | _, _, .nil => rfl
  | _, _, .cons _ a => by simp [BsA.length a]
theorem BsA.append {K : PySem.W.Frag} {σ : L2.St} {F : Hp} : ∀ {vs us : List V} {bs cs : List BV}, BsA K σ F vs bs → BsA K σ F us cs → BsA K σ F (vs ++ us) (bs ++ cs)
  | _, _, _, _, .nil, h => h
  | _, _, _, _, .cons h a, b => .cons h (BsA.append a b)
def mAp (ma mk : Env → R (List BV × Env)) : Env → R (List BV × Env) := fun Γ => (ma Γ).bind fun y => (mk y.2).bind fun z => .ok (y.1 ++ z.1, z.2)
def mAd (ma : Env → R (List BV × Env)) (ns : List Int) : Env → R (List BV × Env) := fun Γ => (ma Γ).bind fun y => .ok (y.1 ++ ns.map (fun i => .v (.int i)), y.2)
section
variable {X : Cx} {W : WX} {e : Expr} {es : List Expr} {pos : Pos} {mas mks : Env → R (List BV × Env)} {k n : Nat} {f : Addr} {fd : FuncData} {ps : List Str} {x : Str} {p : Pos} {ds : List Value}
theorem sx_call {M : List D → R Nw} (F : FnOk X.prog X.w X.K X.mg X.base (L2.CX X.prog X.w) k f fd ps (spP X.K X.mg n M)) (hl : ∀ ds, ds.length ≠ n → M ds = .bad) (hr : Room k X.A) (hm : X.mg x = some (.ref f)) (hk : PySem.W.keepIn X.K (.ref f) = true) (hb : Binds X.K fd ps []) (tk : Takes X W)
    (ha : SA X W (e :: es) mas) (hg : Gl X x := by rfl) (hdb : (x == ("__debug__" : Str)) = false := by decide) (he : starEach (e :: es) X.env = (false, eval e X.env) :: starEach es X.env := by rfl) (hpl : (backTo pos (starEach es X.env)).any (·.1) = false := by rfl) :
    SX X W (.Call (.Name x p) (e :: es) [] pos) (mCall M mas) := by
  obtain ⟨t, pa, s⟩ := ha
  refine ⟨_, pe_callSD (dvs := []) (ds := []) (E := fun σ c d H => W c d σ H) F hr hg hm hk hb .nil (fun σ => passAt tk σ) pa hdb he hpl, fun a0 G Γ σ H F Q r h => ?_⟩
  refine s a0 G Γ σ H F _ r (okG_bind h fun y _ hy vs H1 F1 e1 r1 hb => ?_)
  obtain ⟨bs, Γ1⟩ := y
  dsimp only at hy r1 hb
  rw [List.append_nil]
  cases q : rsA Γ1 bs with
  | none => rw [q] at hy; exact hy.elim
  | some ds => rw [q] at hy; exact sp_call r1 e1 hb q hl hy _ fun c d H h => h σ
theorem sx_call0 {M : List D → R Nw} (F : FnOk X.prog X.w X.K X.mg X.base (L2.CX X.prog X.w) k f fd ps (spP X.K X.mg n M)) (hl : ∀ ds, ds.length ≠ n → M ds = .bad) (hr : Room k X.A) (hm : X.mg x = some (.ref f)) (hk : PySem.W.keepIn X.K (.ref f) = true) (hb : Binds X.K fd ps []) (tk : Takes X W)
    (hg : Gl X x := by rfl) (hdb : (x == ("__debug__" : Str)) = false := by decide) :
    SX X W (.Call (.Name x p) [] [] pos) (mCall M mA0) := by
  refine ⟨_, pe_call0 (dvs := []) (ds := []) (E := fun c d H => ∀ σ, W c d σ H) F hr hg hm hk hb .nil (passes_call tk fun c d σ H h => h σ) hdb, fun a0 G Γ σ H F Q r h => ?_⟩
  exact sp_call r (Ex.refl F) (.nil : BsA X.K σ F [] []) rfl hl h _ fun c d H h => h
theorem sx_callK {M : List D → R Nw} {kws : List Keyword} {ks : List Str} {j : Nat} (F : FnOk X.prog X.w X.K X.mg X.base (L2.CX X.prog X.w) k f fd ps (spP X.K X.mg n M)) (hl : ∀ ds, ds.length ≠ n → M ds = .bad) (hr : Room k X.A) (hm : X.mg x = some (.ref f)) (hk : PySem.W.keepIn X.K (.ref f) = true)
    (hb : KBn X.K fd ps j ks (fun us ws => us ++ ws) (fun us ws => us ++ ws)) (tk : Takes X W) (ha : SA X W (e :: es) mas) (na : nA mas j) (hkw : SK X W kws mks) (nk : nA mks ks.length)
    (hg : Gl X x := by rfl) (hall : (backToKw pos (keywordEach kws X.env)).all (·.1.isSome) = true := by rfl) (hks : (backToKw pos (keywordEach kws X.env)).filterMap (·.1) = ks := by rfl)
    (hdb : (x == ("__debug__" : Str)) = false := by decide) (he : starEach (e :: es) X.env = (false, eval e X.env) :: starEach es X.env := by rfl)
    (hpl : ((backTo pos (starEach (e :: es) X.env)).any (·.1) || (backToKw pos (keywordEach kws X.env)).any (·.1.isNone)) = false := by rfl) :
    SX X W (.Call (.Name x p) (e :: es) kws pos) (mCall M (mAp mas mks)) := by
  obtain ⟨t, pa, s⟩ := ha
  obtain ⟨t2, pk, s2⟩ := hkw
  refine ⟨_, pe_callN (E := fun c d H => ∀ σ, W c d σ H) F hr hg hm hk hb (passes_call tk fun c d σ H h => h σ) pa pk hall hks hdb he hpl, fun a0 G Γ σ H F Q r h => ?_⟩
  refine s a0 G Γ σ H F _ r (okG_bind (okG_bind h fun y _ hy => hy) fun y hy0 hy vs H1 F1 e1 r1 hb => ?_)
  refine s2 a0 G y.2 σ H1 F1 _ r1 (okG_mono e1 (okG_bind hy fun z _ hz => hz) fun z hz0 hz zs H2 F2 e2 r2 hb2 => ?_)
  refine ⟨hb.length.trans (na _ _ hy0), hb2.length.trans (nk _ _ hz0), ?_⟩
  have hb3 := (hb.mono e2).append hb2
  have hz : OkG X.K X.mg G F W (PX X.K a0 G F σ Q) _ := hz
  dsimp only at hz
  cases q : rsA z.2 (y.1 ++ z.1) with
  | none => rw [q] at hz; exact hz.elim
  | some ds => rw [q] at hz; exact sp_call r2 (Ex.trans e1 e2) hb3 q hl hz _ fun c d H h => h
theorem sx_callD {M : List D → R Nw} {ns : List Int} (F : FnOk X.prog X.w X.K X.mg X.base (L2.CX X.prog X.w) k f fd ps (spP X.K X.mg n M)) (hl : ∀ ds, ds.length ≠ n → M ds = .bad) (hr : Room k X.A) (hm : X.mg x = some (.ref f)) (hk : PySem.W.keepIn X.K (.ref f) = true)
    (hb : ∃ ds, Vals (ns.map V.int) ds ∧ Binds X.K fd ps ds) (tk : Takes X W) (ha : SA X W (e :: es) mas) (hg : Gl X x := by rfl) (hdb : (x == ("__debug__" : Str)) = false := by decide) (he : starEach (e :: es) X.env = (false, eval e X.env) :: starEach es X.env := by rfl) (hpl : (backTo pos (starEach es X.env)).any (·.1) = false := by rfl) :
    SX X W (.Call (.Name x p) (e :: es) [] pos) (mCall M (mAd mas ns)) := by
  obtain ⟨t, pa, s⟩ := ha
  obtain ⟨dd, hd, hb⟩ := hb
  refine ⟨_, pe_callSD (E := fun σ c d H => W c d σ H) F hr hg hm hk hb hd (fun σ => passAt tk σ) pa hdb he hpl, fun a0 G Γ σ H F Q r h => ?_⟩
  refine s a0 G Γ σ H F _ r (okG_bind (okG_bind h fun y _ hy => hy) fun y _ hy vs H1 F1 e1 r1 hb => ?_)
  have key : ∀ ns : List Int, BsA X.K σ F1 (ns.map V.int) (ns.map fun i => .v (.int i)) := fun ns => by
    induction ns with
    | nil => exact .nil
    | cons i ns ih => exact .cons (.int i) ih
  have hb3 := hb.append (key ns)
  have hy : OkG X.K X.mg G F W (PX X.K a0 G F σ Q) _ := hy
  dsimp only at hy
  cases q : rsA y.2 (y.1 ++ ns.map fun i => .v (.int i)) with
  | none => rw [q] at hy; exact hy.elim
  | some ds => rw [q] at hy; exact sp_call r1 e1 hb3 q hl hy _ fun c d H h => h σ
theorem sx_callI {M : List D → List D → R (Nw × List D)} (F : FnOk X.prog X.w X.K X.mg X.base (L2.CX X.prog X.w) k f fd ps (spI X.K X.mg n M)) (hl : ∀ xs ds, ds.length ≠ n → M xs ds = .bad) (hr : Room k X.A) (hm : X.mg x = some (.ref f)) (hk : PySem.W.keepIn X.K (.ref f) = true) (hb : Binds X.K fd ps []) (tk : Takes X W)
    (ha : SA X W (e :: es) mas) (hg : Gl X x := by rfl) (hdb : (x == ("__debug__" : Str)) = false := by decide) (he : starEach (e :: es) X.env = (false, eval e X.env) :: starEach es X.env := by rfl) (hpl : (backTo pos (starEach es X.env)).any (·.1) = false := by rfl) :
    SX X W (.Call (.Name x p) (e :: es) [] pos) (mCallI M mas) := by
  obtain ⟨t, pa, s⟩ := ha
  refine ⟨_, pe_callSD (dvs := []) (ds := []) (E := fun σ c d H => W c d σ H) F hr hg hm hk hb .nil (fun σ => passAt tk σ) pa hdb he hpl, fun a0 G Γ σ H F Q r h => ?_⟩
  refine s a0 G Γ σ H F _ r (okG_bind h fun y _ hy vs H1 F1 e1 r1 hb => ?_)
  obtain ⟨bs, Γ1⟩ := y
  dsimp only at hy r1 hb
  rw [List.append_nil]
  split at hy
  · rename_i i bs _
    cases hb with
    | cons h0 hb =>
      split at hy
      · rename_i ds Γ2 q
        exact sp_callI r1 e1 h0 hb q hl hy _ fun c d H h => h σ
      · exact hy.elim
  · exact hy.elim
end
def fin (n : Nat) (m : Env → R Fl) (k : Nat) : List D → R Nw := fun ds => if ds.length = n then (m (ds.map Sl.v ++ List.replicate k .no)).bind fun f => (match f with
  | .nx _ => .ok (.v .non)
  | .rt w _ => .ok w
  | _ => .bad) else .bad
def finI (n : Nat) (m : Env → R Fl) (k : Nat) : List D → List D → R (Nw × List D) := fun xs ds => if ds.length = n then (m (Sl.o xs :: (ds.map Sl.v ++ List.replicate k .no))).bind fun f => (match f with
  | .nx Γ => (match gt Γ 0 with
    | .o xs' => .ok (.v .non, xs')
    | _ => .bad)
  | .rt w Γ => (match gt Γ 0 with
    | .o xs' => .ok (w, xs')
    | _ => .bad)
  | _ => .bad) else .bad
theorem fin_len {n : Nat} {m : Env → R Fl} {k : Nat} : ∀ ds, ds.length ≠ n → fin n m k ds = .bad := fun ds h => by unfold fin; rw [if_neg h]
theorem finI_len {n : Nat} {m : Env → R Fl} {k : Nat} : ∀ xs ds, ds.length ≠ n → finI n m k xs ds = .bad := fun xs ds h => by unfold finI; rw [if_neg h]
theorem gt_v {ds : List D} {k i : Nat} : (∃ d, gt (ds.map Sl.v ++ List.replicate k .no) i = .v d ∧ ds[i]? = some d) ∨ gt (ds.map Sl.v ++ List.replicate k .no) i = .no := by
  induction ds generalizing i with
  | nil =>
    right
    show gt (List.replicate k .no) i = .no
    induction k generalizing i with
    | zero => rfl
    | succ k ih => cases i with
      | zero => rfl
      | succ i => exact ih
  | cons d ds ih => cases i with
    | zero => exact .inl ⟨d, rfl, rfl⟩
    | succ i => simpa [gt] using ih (i := i)
section
variable {K : PySem.W.Frag} {F G H : Hp}
theorem start_get {N : List Str} {vs : List V} {i : Nat} {v : V} (h : vs[i]? = some v) : (L2.start N vs)[i]? = some (some v) := by
  unfold L2.start
  have hi := (List.getElem?_eq_some_iff.mp h).1
  rw [List.getElem?_append_left (by simpa using hi), List.getElem?_map, h]
  rfl
theorem Rel.start {N : List Str} {vs : List V} {ds : List D} {k : Nat} {a0 : Addr} (w : Wd K F G H) (hv : RpA K F vs ds) (hl : N.length = ds.length + k) : Rel K a0 G (ds.map Sl.v ++ List.replicate k .no) (L2.start N vs) H F := by
  refine ⟨fun _ => none, fun _ => 0, ⟨w, fun _ _ h => (by cases h), fun _ => .inr rfl, fun _ => .inr rfl, fun i d q => ?_, fun i xs q => ?_, fun i j xs ys q => ?_, fun xs q => ?_, ?_, fun _ _ h => (by cases h)⟩⟩
  · rcases gt_v (ds := ds) (k := k) (i := i) with ⟨d', h1, h2⟩ | h1
    · rw [h1] at q; cases q
      obtain ⟨v, h3, h4⟩ := hv.get h2
      exact ⟨v, start_get h3, h4⟩
    · rw [h1] at q; cases q
  · rcases gt_v (ds := ds) (k := k) (i := i) with ⟨d', h1, h2⟩ | h1 <;> rw [h1] at q <;> cases q
  · rcases gt_v (ds := ds) (k := k) (i := i) with ⟨d', h1, h2⟩ | h1 <;> rw [h1] at q <;> cases q
  · rcases gt_v (ds := ds) (k := k) (i := 0) with ⟨d', h1, h2⟩ | h1 <;> rw [h1] at q <;> cases q
  · have := hv.length
    simp [L2.start]; omega
theorem Rel.startI {N : List Str} {vs ws : List V} {xs ds : List D} {k : Nat} {p : Addr} (w : Wd K F G H) (hF : F p = none) (hG : G p = none) (hp : H p = some (.lst ws)) (hx : RpA K F ws xs) (hv : RpA K F vs ds) (hl : N.length = ds.length + 1 + k) :
    Rel K p G (Sl.o xs :: (ds.map Sl.v ++ List.replicate k .no)) (L2.start N (.ref p :: vs)) H F := by
  have key : ∀ {i ys}, gt (Sl.o xs :: (ds.map Sl.v ++ List.replicate k .no)) i = .o ys → i = 0 ∧ ys = xs := fun {i ys} q => by
    cases i with
    | zero => cases q; exact ⟨rfl, rfl⟩
    | succ i =>
      have q : gt (ds.map Sl.v ++ List.replicate k .no) i = .o ys := q
      rcases gt_v (ds := ds) (k := k) (i := i) with ⟨d', h1, h2⟩ | h1 <;> rw [h1] at q <;> cases q
  refine ⟨fun b => if b = p then some (.lst ws) else none, fun _ => p, ⟨w, fun b o h => ?_, fun b => ?_, fun b => ?_, fun i d q => ?_, fun i ys q => ?_, fun i j ys zs q1 q2 _ => (key q1).1.trans (key q2).1.symm, fun _ _ => rfl, ?_, fun b o h => ?_⟩⟩
  · by_cases hb : b = p
    · simp [hb] at h; rw [hb, ← h]; exact hp
    · simp [hb] at h
  · by_cases hb : b = p
    · rw [hb]; exact .inl hF
    · exact .inr (if_neg hb)
  · by_cases hb : b = p
    · rw [hb]; exact .inl hG
    · exact .inr (if_neg hb)
  · cases i with
    | zero => cases q
    | succ i =>
      have q : gt (ds.map Sl.v ++ List.replicate k .no) i = .v d := q
      rcases gt_v (ds := ds) (k := k) (i := i) with ⟨d', h1, h2⟩ | h1
      · rw [h1] at q; cases q
        obtain ⟨v, h3, h4⟩ := hv.get h2
        exact ⟨v, start_get (by simpa using h3), h4⟩
      · rw [h1] at q; cases q
  · obtain ⟨rfl, rfl⟩ := key q
    exact ⟨start_get rfl, ws, if_pos rfl, hx⟩
  · have := hv.length
    simp [L2.start]; omega
  · by_cases hb : b = p
    · simp [hb] at h; exact ⟨_, h.symm⟩
    · simp [hb] at h
end
section
variable {P : Program} {w : World} {K : PySem.W.Frag} {mg : Str → Option Value} {base : Heap} {x qual : Str} {st : Stmt} {f : Addr} {fd : FuncData} {N ps : List Str} {k n j : Nat} {m : Env → R Fl}
theorem body_P {X : Cx} {E : XK} {body : List Stmt} {vs : List V} {H : Hp} {Q : VK} (eK : X.K = K) (eg : X.mg = mg) (hN : N.length = n + j) (hb : SSs X (WE E) body m) (h : spP K mg n (fin n m j) vs H Q E) :
    ∃ t, PSs X body t ∧ t { nx := fun _ H' => Q .non H', rt := Q } (L2.start N vs) H := by
  obtain ⟨t, p, s⟩ := hb
  obtain ⟨F, G, ds, wd, hv, hn, hk⟩ := h
  subst eK eg
  refine ⟨t, p, s 0 G _ _ H F _ (Rel.start wd hv (by rw [hN, hn])) ?_⟩
  unfold fin at hk
  rw [if_pos hn] at hk
  refine okG_bind hk fun f _ hf => ?_
  cases f with
  | nx Γ => exact fun σ H' F' e r => hf .non H' F' e r.wd .non
  | bk Γ => exact hf.elim
  | ct Γ => exact hf.elim
  | rt w Γ => cases w with
    | v d => exact fun σ v H' F' e r hv => hf v H' F' e r.wd hv
    | o xs => exact fun σ p vs H' F' e hG r hv => hf p vs H' F' e hG r.wd hv
theorem Rel.io0 {a0 : Addr} {G Γ σ H F} {xs : List D} (r : Rel K a0 G Γ σ H F) (g : gt Γ 0 = .o xs) : ∃ ws, F a0 = none ∧ G a0 = none ∧ H a0 = some (.lst ws) ∧ RpA K F ws xs := by
  obtain ⟨O, ad, x⟩ := r
  obtain ⟨h1, ws, h2, h3⟩ := x.ow 0 xs g
  rw [x.z xs g] at h2
  have f1 : F a0 = none := (x.fo a0).elim id fun q => by rw [h2] at q; cases q
  have g1 : G a0 = none := (x.go a0).elim id fun q => by rw [h2] at q; cases q
  exact ⟨ws, f1, g1, x.o _ _ h2, h3⟩
theorem body_I {X : Cx} {E : XK} {body : List Stmt} {vs : List V} {H : Hp} {Q : VK} (eK : X.K = K) (eg : X.mg = mg) (hN : N.length = n + 1 + j) (hb : SSs X (WE E) body m) (h : spI K mg n (finI n m j) vs H Q E) :
    ∃ t, PSs X body t ∧ t { nx := fun _ H' => Q .non H', rt := Q } (L2.start N vs) H := by
  obtain ⟨t, p, s⟩ := hb
  obtain ⟨F, G, p0, ws, xs, vs', ds, rfl, wd, hF, hG, hp, hx, hv, hn, hk⟩ := h
  subst eK eg
  refine ⟨t, p, s p0 G _ _ H F _ (Rel.startI wd hF hG hp hx hv (by rw [hN, hn])) ?_⟩
  unfold finI at hk
  rw [if_pos hn] at hk
  refine okG_bind hk fun f _ hf => ?_
  cases f with
  | bk Γ => exact hf.elim
  | ct Γ => exact hf.elim
  | nx Γ =>
    dsimp only at hf
    cases g : gt Γ 0 with
    | no => rw [g] at hf; exact hf.elim
    | v d => rw [g] at hf; exact hf.elim
    | o xs' =>
      rw [g] at hf
      intro σ H' F' e r
      obtain ⟨ws', a1, a2, a3, a4⟩ := r.io0 g
      exact hf .non H' F' ws' e r.wd a1 a3 a4 .non
  | rt w Γ =>
    dsimp only at hf
    cases g : gt Γ 0 with
    | no => rw [g] at hf; exact hf.elim
    | v d => rw [g] at hf; exact hf.elim
    | o xs' =>
      rw [g] at hf
      cases w with
      | v d =>
        intro σ v H' F' e r hv
        obtain ⟨ws', a1, a2, a3, a4⟩ := r.io0 g
        exact hf v H' F' ws' e r.wd a1 a3 a4 hv
      | o ys =>
        intro σ q us H' F' e hG r hv
        obtain ⟨ws', a1, a2, a3, a4⟩ := r.io0 g
        exact hf q us H' F' ws' e hG (fun z => by rw [← z, upd_same] at a2; cases a2) r.wd a1 a3 a4 hv
theorem fn_P (F : Fun K x qual st f fd) (S : FnScope N ps (defScope st)) (hp : ps.length = n) (hN : N.length = n + j)
    (hb : ∀ (cdv : Value) (A : Around) (outer : List PySem.Env) (s : Shared) (H : Hp) (E : XK), Room k (A.deeper (PyProof.Rows.envOfC qual (defScope st) s.heap.objs.size f cdv)) → Takes (cxOf (L2.CX P w) P w K mg base N qual (defScope st) f cdv A outer s H E) (WE E) →
      SSs (cxOf (L2.CX P w) P w K mg base N qual (defScope st) f cdv A outer s H E) (WE E) (defBody st) m) : FnOk P w K mg base (L2.CX P w) (k + 1) f fd ps (spP K mg n (fin n m j)) := by
  refine F.okX S (fun vs H Q E h => ?_) (fun cdv A outer s H vs Q E hr h => ?_)
  · obtain ⟨F, G, ds, _, hv, hn, _⟩ := h
    rw [hv.length, hn, hp]
  · exact body_P rfl rfl hN (hb cdv A outer s H E hr (takes_of rfl rfl rfl rfl)) h
theorem fn_I (F : Fun K x qual st f fd) (S : FnScope N ps (defScope st)) (hp : ps.length = n + 1) (hN : N.length = n + 1 + j)
    (hb : ∀ (cdv : Value) (A : Around) (outer : List PySem.Env) (s : Shared) (H : Hp) (E : XK), Room k (A.deeper (PyProof.Rows.envOfC qual (defScope st) s.heap.objs.size f cdv)) → Takes (cxOf (L2.CX P w) P w K mg base N qual (defScope st) f cdv A outer s H E) (WE E) →
      SSs (cxOf (L2.CX P w) P w K mg base N qual (defScope st) f cdv A outer s H E) (WE E) (defBody st) m) : FnOk P w K mg base (L2.CX P w) (k + 1) f fd ps (spI K mg n (finI n m j)) := by
  refine F.okX S (fun vs H Q E h => ?_) (fun cdv A outer s H vs Q E hr h => ?_)
  · obtain ⟨F, G, p, ws, xs, vs', ds, rfl, _, _, _, _, _, hv, hn, _⟩ := h
    rw [List.length_cons, hv.length, hn, hp]
  · exact body_I rfl rfl hN (hb cdv A outer s H E hr (takes_of rfl rfl rfl rfl)) h
theorem fn_PD {params : Arguments} {body : List Stmt} {scope : Scope} {dvs : List V} {kws : List (Str × V)} (F : FunD K x qual params body scope dvs kws f fd) (S : FnScope N ps scope) (hp : ps.length = n) (hN : N.length = n + j)
    (hb : ∀ (cdv : Value) (A : Around) (outer : List PySem.Env) (s : Shared) (H : Hp) (E : XK), Room k (A.deeper (PyProof.Rows.envOfC qual scope s.heap.objs.size f cdv)) → Takes (cxOf (L2.CX P w) P w K mg base N qual scope f cdv A outer s H E) (WE E) →
      SSs (cxOf (L2.CX P w) P w K mg base N qual scope f cdv A outer s H E) (WE E) body m) : FnOk P w K mg base (L2.CX P w) (k + 1) f fd ps (spP K mg n (fin n m j)) := by
  refine F.ok S (fun vs H Q E h => ?_) (fun cdv A outer s H vs Q E hr h => ?_)
  · obtain ⟨F, G, ds, _, hv, hn, _⟩ := h
    rw [hv.length, hn, hp]
  · exact body_P rfl rfl hN (hb cdv A outer s H E hr (takes_of rfl rfl rfl rfl)) h
end
end Rg
namespace Rg
open PySem PySem.Spec PyProof.Rows L2 LamX
abbrev Cells := List (Str × Addr)
theorem lamO_ok {P : Program} {w : World} {H : Hp} {hh : Heap} {f c : Addr} {b : LamB} {z : Cells} {pm ctv : Value} (e : hh.get? f = some (PySem.W.kla_obj "<lambda>" b.qual b.params b.body b.scope (cloFrom z b.scope.names []) pm c ctv)) : ObjOk P w H hh f (LamO f c b z) :=
  ⟨⟨pm, ctv, e⟩, ⟨_, e⟩, fun _ _ ⟨pm, ctv, q⟩ k => ⟨pm, ctv, k _ q⟩⟩
section
variable {X : Cx} {pins : List (Addr × Obj)} {σ : L2.St} {H : Hp} {s : Shared}
theorem lam_held {T : List (Addr × Str)} {cM PM : Addr} {b : LamB} {pos : Pos} {E : Value → Shared → Prop} {Q : Value → Shared → Prop} (I : Inv X pins σ H s) (TB : TabB X.base X.mg cM PM) (hcode : X.env.code = .ref cM) (hq : X.env.qual ++ "<lambda>" = b.qual)
    (hm : (PM, b.qual) ∈ T) (hu : ∀ p ∈ T, p.1 = PM → p.2 = b.qual) (hT : Tabs T H) (hdef : defaultsOf b.params X.env = ([], [])) (hfree : ∀ y ∈ b.scope.names, y.2 = .free → ∃ c, X.env.cells.lookup y.1 = some c)
    (k : ∀ (f c : Addr) (H1 : Hp) (s' : Shared), Inv X pins σ H1 s' → ExtN H H1 → Tabs T H1 → H f = none → H1 f = some (LamO f c b X.env.cells) → H1 c = some (CodeO c b.qual) → Q (.ref f) s') :
    wpAny (model X.prog X.w) X.A (eval (.Lambda b.params b.body b.scope pos) X.env) Q E s := by
  obtain ⟨tab, hP, tri, known⟩ := hT _ hm
  refine PySem.W.kla_eval hdef ?_
  rw [hq]
  have hb := TB.bm.keeps I.bk
  have hPh := I.hok PM _ hP
  have hglob := I.mod.glob.keeps I.bk
  have hhead := TB.code.keeps I.bk
  cases found : codeAmong pos tab.toList with
  | some cv =>
    obtain ⟨c, rfl, hc⟩ := known pos cv found
    refine PySem.W.kla_makeFunctionHit (closure_ok hfree) I.ok.glob hglob hcode hhead hPh tri found hb fun ctv hp tk keep big => ?_
    have J : Inv X pins σ H { s with heap := hp, toks := tk } := I.kept keep
    have fresh : H hp.objs.size = none := I.hok.fresh big
    have J2 := J.laid (t' := tk) (a := hp.objs.size) (o := LamO hp.objs.size c b X.env.cells) (h' := hp.push (PySem.W.kla_obj "<lambda>" b.qual b.params b.body b.scope (cloFrom X.env.cells b.scope.names []) ((X.mg "__name__").getD .none) c ctv))
      (fun _ _ e => Heap.get?_push_of_some _ e) (Nat.le_refl _) (lamO_ok (Heap.get?_push_size _ rfl))
    have grow : ∀ a o, H a = some o → upd H hp.objs.size (LamO hp.objs.size c b X.env.cells) a = some o := fun a o e => by rw [upd_ne (ne_of_none e fresh)]; exact e
    exact k _ c _ _ J2 (ExtN.of grow) (hT.ext grow) fresh upd_same (grow _ _ hc)
  | none =>
    refine PySem.W.kla_makeFunction (closure_ok hfree) I.ok.glob hglob hcode hhead hPh tri found TB.gP hb fun c ctv hp tk keep low high rec tb => ?_
    obtain ⟨c2, oc, vs, t, e2, h1, h2, h3⟩ := rec
    cases e2
    have freshC : H c = none := I.hok.fresh low
    have big : s.heap.objs.size ≤ hp.objs.size := Nat.le_trans low (Nat.le_of_lt high)
    have fresh : H hp.objs.size = none := I.hok.fresh big
    have J := inv_table (t' := tk) (q := b.qual) (more := #[rawInt pos.line, rawInt pos.col, .ref c]) I hP keep tb low ⟨oc, vs, t, h1, h2, h3⟩
    have J2 := J.laid (t' := tk) (a := hp.objs.size) (o := LamO hp.objs.size c b X.env.cells) (h' := hp.push (PySem.W.kla_obj "<lambda>" b.qual b.params b.body b.scope (cloFrom X.env.cells b.scope.names []) ((X.mg "__name__").getD .none) c ctv))
      (fun _ _ e => Heap.get?_push_of_some _ e) (Nat.le_refl _) (lamO_ok (Heap.get?_push_size _ rfl))
    have neC : hp.objs.size ≠ c := Nat.ne_of_gt high
    have neP : hp.objs.size ≠ PM := fun z => by rw [z, hP] at fresh; cases fresh
    have nePc : PM ≠ c := ne_of_none hP freshC
    have grow : ExtN H (upd (upd (upd H PM (.tbl (tab ++ #[rawInt pos.line, rawInt pos.col, .ref c]))) c (CodeO c b.qual)) hp.objs.size (LamO hp.objs.size c b X.env.cells)) := fun a o e n => by
      rw [upd_ne (ne_of_none e fresh), upd_ne (ne_of_none e freshC), upd_ne fun z => n tab (by rw [z, hP] at e; exact (Option.some.inj e).symm)]
      exact e
    have atC : upd (upd (upd H PM (.tbl (tab ++ #[rawInt pos.line, rawInt pos.col, .ref c]))) c (CodeO c b.qual)) hp.objs.size (LamO hp.objs.size c b X.env.cells) c = some (CodeO c b.qual) := by rw [upd_ne (Ne.symm neC), upd_same]
    refine k _ c _ _ J2 grow (fun p hp' => ?_) fresh upd_same atC
    have eL : (tab ++ #[rawInt pos.line, rawInt pos.col, .ref c]).toList = tab.toList ++ [rawInt pos.line, rawInt pos.col, .ref c] := by simp
    by_cases same : p.1 = PM
    · rw [hu p hp' same, same]
      refine ⟨_, by rw [upd_ne (Ne.symm neP), upd_ne nePc, upd_same], by rw [eL]; exact PySem.TriplesOk_snoc _ _ _ _ tri, fun p2 cv hcv => ?_⟩
      rw [eL] at hcv
      rcases among_app _ tri hcv with y | y
      · obtain ⟨c0, y1, y2⟩ := known p2 cv y
        exact ⟨c0, y1, grow _ _ y2 codeO_ne⟩
      · exact ⟨c, y, atC⟩
    · obtain ⟨ps, y1, y2, y3⟩ := hT p hp'
      refine ⟨ps, by rw [upd_ne (ne_of_none y1 fresh), upd_ne (ne_of_none y1 freshC), upd_ne same]; exact y1, y2, fun p2 cv hcv => ?_⟩
      obtain ⟨c0, y4, y5⟩ := y3 p2 cv hcv
      exact ⟨c0, y4, grow _ _ y5 codeO_ne⟩
end
section
variable {K : PySem.W.Frag} {mg : Str → Option Value} {a0 : Addr} {G F H : Hp} {Γ : Env} {σ : L2.St} {W : WX}
theorem Rel.lam {H1 : Hp} {f c : Addr} {b : LamB} {z : Cells} (r : Rel K a0 G Γ σ H F) (e : ExtN H H1) (hT : Tabs (tabsOf K) H1) (hf0 : H f = none) (hf : H1 f = some (LamO f c b z)) (hc : H1 c = some (CodeO c b.qual)) :
    ∃ F1, Ex F F1 ∧ Rel K a0 G Γ σ H1 F1 ∧ F1 f = some (LamO f c b z) ∧ F1 c = some (CodeO c b.qual) := by
  obtain ⟨O, ad, x⟩ := r
  have hcf : c ≠ f ∨ c = f := (Decidable.em (c = f)).symm
  have Fe : Ex F H1 := fun a o q => e a o (x.wd.f a o q) fun ps y => x.wd.tb.nf a ps (by rw [q, y])
  have Ge : Ex G H1 := fun a o q => e a o (x.wd.g a o q) fun ps y => by obtain ⟨vs, y2⟩ := x.wd.tb.ng a o q; rw [y] at y2; cases y2
  have Oe : Ex O H1 := fun a o q => e a o (x.o a o q) fun ps y => by obtain ⟨vs, y2⟩ := x.ol a o q; rw [y] at y2; cases y2
  have FF : Ex F (upd (upd F c (CodeO c b.qual)) f (LamO f c b z)) := fun a o q => by
    by_cases ha : a = f
    · rw [ha] at q; rw [none_of_ex x.wd.f hf0] at q; cases q
    · rw [upd_ne ha]
      by_cases hb : a = c
      · rw [hb] at q ⊢
        rw [upd_same]
        have := Fe c o q
        rw [hc] at this; exact this
      · rw [upd_ne hb]; exact q
  have lst : ∀ a vs, H1 a = some (.lst vs) → a ≠ f ∧ a ≠ c := fun a vs q => ⟨fun y => by rw [y, hf] at q; exact lamO_lst (Option.some.inj q), fun y => by rw [y, hc] at q; exact codeO_lst (Option.some.inj q)⟩
  have apart : ∀ A : Hp, Ex A H1 → (∀ a o, A a = some o → ∃ vs, o = HO.lst vs) → (∀ a, F a = none ∨ A a = none) → ∀ a, upd (upd F c (CodeO c b.qual)) f (LamO f c b z) a = none ∨ A a = none := fun A eA lA d a => by
    cases q : A a with
    | none => exact .inr rfl
    | some o =>
      obtain ⟨vs, rfl⟩ := lA a o q
      obtain ⟨n1, n2⟩ := lst a vs (eA a _ q)
      rw [upd_ne n1, upd_ne n2]
      exact (d a).elim .inl fun y => by rw [q] at y; cases y
  refine ⟨upd (upd F c (CodeO c b.qual)) f (LamO f c b z), FF, ⟨O, ad, ⟨⟨fun a o q => ?_, Ge, apart G Ge x.wd.tb.ng x.wd.d, ⟨hT, nf_upd (nf_upd x.wd.tb.nf fun _ => codeO_ne _) fun _ => lamO_tbl, x.wd.tb.ng⟩⟩, Oe, apart O Oe x.ol x.fo, x.go, fun i d q => ?_, fun i xs q => ?_, x.inj, x.z, x.len, x.ol⟩⟩, upd_same, ?_⟩
  · by_cases ha : a = f
    · rw [ha, upd_same] at q; cases q; rw [ha]; exact hf
    · rw [upd_ne ha] at q
      by_cases hb : a = c
      · rw [hb, upd_same] at q; cases q; rw [hb]; exact hc
      · rw [upd_ne hb] at q; exact Fe a o q
  · obtain ⟨v, h1, h2⟩ := x.v i d q; exact ⟨v, h1, h2.mono FF⟩
  · obtain ⟨h1, vs, h2, h3⟩ := x.ow i xs q; exact ⟨h1, vs, h2, h3.mono FF⟩
  · by_cases y : c = f
    · subst y; rw [upd_same, ← hf]; exact hc
    · rw [upd_ne y, upd_same]
end
structure Mkr (X : Cx) : Prop where
  ex : ∃ c P, X.env.code = .ref c ∧ TabB X.base X.mg c P ∧ (P, X.env.qual ++ "<lambda>") ∈ tabsOf X.K
  un : ∀ p ∈ tabsOf X.K, ∀ q ∈ tabsOf X.K, p.1 = q.1 → p.2 = q.2
section
variable {X : Cx} {W : WX} {pos : Pos}
theorem sx_lam (k : Nat) {b : LamB} (M : Mkr X) (hq : X.env.qual ++ "<lambda>" = b.qual) (L : LamS X.env.scope b.scope) (hdef : defaultsOf b.params X.env = ([], [])) : SX X W (.Lambda b.params b.body b.scope pos) (mK (.fn k b X.env.cells)) := by
  obtain ⟨c, P, hcode, TB, hm⟩ := M.ex
  rw [hq] at hm
  refine ⟨fun σ H Q => Tabs (tabsOf X.K) H ∧ ∀ f c H1, ExtN H H1 → Tabs (tabsOf X.K) H1 → H f = none → H1 f = some (LamO f c b X.env.cells) → H1 c = some (CodeO c b.qual) → Q (.ref f) H1, ⟨fun pins s σ H Q I h => ?_⟩, fun a0 G Γ σ H F Q r h => ?_⟩
  · exact lam_held I TB hcode hq hm (fun p hp e => (M.un p hp _ hm e)) h.1 hdef (L.has I.ok) fun f c H1 s' J e T1 h0 h1 h2 => ⟨.ref f, H1, J, rfl, h.2 f c H1 e T1 h0 h1 h2⟩
  · refine ⟨r.wd.tb.t, fun f c H1 e T1 h0 h1 h2 => ?_⟩
    obtain ⟨F1, eF, r1, k1, k2⟩ := r.lam e T1 h0 h1 h2
    exact h (.ref f) H1 F1 eF r1 (.fn k1 k2)
end
end Rg
namespace Rg
open PySem PySem.Spec PyProof.Rows L2 LamX
def Tst (X : Cx) (t : Expr) (cs : List Value) : Prop := ∀ (a : Addr) (pn : List (Addr × Obj)) (σ : L2.St) (H : Hp) (s : Shared) (E : Value → Shared → Prop) (Q : Bool → Shared → Prop) (cls : Value) (b : Bool),
  Inv (X.suite a pn) [] σ H s → PySem.W.Looks (model X.prog X.w) s.heap (typeOf (.ref a)) cls → PySem.W.exmAny X.K cls cs = some b → (∀ hh, (∀ q o, s.heap.get? q = some o → hh.get? q = some o) → Q b { s with heap := hh }) →
  wpAny (model X.prog X.w) (X.A.mark (some (.ref a))) (eval t X.env) (fun c s1 => wpAny (model X.prog X.w) (X.A.mark (some (.ref a))) (excMatches (.ref a) c) Q E s1) E s
section
variable {X : Cx}
theorem exmAny_one {K : PySem.W.Frag} {cls c : Value} {b : Bool} (h : PySem.W.exmAny K cls [c] = some b) : PySem.W.exmOne K cls c = some b := by
  obtain ⟨b1, d1, h1, h2, rfl⟩ := PySem.W.exmAny_cons h
  have : d1 = false := by
    have h2 : some false = some d1 := h2
    exact (Option.some.inj h2).symm
  rw [h1, this, Bool.or_false]
theorem tst_name {x : Str} {c : Value} {np : Pos} (hc : Names X x c) : Tst X (.Name x np) [c] := by
  intro a pn σ H s E Q cls b I LT hx q
  have go := (PySem.W.exm_one I.kIn LT (exmAny_one hx)).here (A := X.A.mark (some (.ref a))) (E := E) (q s.heap fun _ _ z => z)
  obtain ⟨h1, h2, h3 | ⟨h3, h4, h5⟩⟩ := hc
  · exact ld_glob (X := X.suite a pn) I h1 h3 go h2
  · exact ld_blt (X := X.suite a pn) I h1 h3 h4 go h5 h2
theorem tst_two {x y : Str} {c d : Value} {np mp tp : Pos} {kk : Nat} (hc : Names X x c) (hd : Names X y d) : Tst X (.Tuple [.Name x np, .Name y mp] kk tp) [c, d] := by
  intro a pn σ H s E Q cls b I LT hx q
  have ld : ∀ {z : Str} {v : Value} {pos : Pos} {R : Value → Shared → Prop}, Names X z v → R v s → wpAny (model X.prog X.w) (X.A.mark (some (.ref a))) (eval (.Name z pos) X.env) R E s := fun {z v pos R} hz r => by
    obtain ⟨h1, h2, h3 | ⟨h3, h4, h5⟩⟩ := hz
    · exact ld_glob (X := X.suite a pn) I h1 h3 r h2
    · exact ld_blt (X := X.suite a pn) I h1 h3 h4 r h5 h2
  have grow : ∀ q o, s.heap.get? q = some o → (s.heap.push { cls := .type "tuple", data := .seq [c, d].toArray }).get? q = some o := fun _ _ z => Heap.get?_push_of_some _ z
  exact wpAny_Tuple (wpAny_items_cons (ld hc (wpAny_items_cons (ld hd (wpAny_items_nil ⟨by size_fits, (PySem.W.exm_tup2 (I.kIn.keeps grow) (LT.keeps grow) (Heap.get?_push_size s.heap rfl) hx).here (q _ grow)⟩)))))
end
abbrev SuT := Addr → Value → Option Addr → TS
inductive Hds (X : Cx) (n : Str) : List ExceptHandler → List (List Value × SuT) → Prop
  | nil : Hds X n [] []
  | cons {t : Expr} {cs : List Value} {ts : SuT} {b0 : Stmt} {su : List Stmt} {pos : Pos} {hs : List ExceptHandler} {l : List (List Value × SuT)} (ht : Tst X t cs)
      (hsu : ∀ (a : Addr) (oe : Obj) (cls : Value) (d : Option Addr) (pn : List (Addr × Obj)), Zc cls d oe → (∃ vs, oe.data = .fields vs) → PSs (X.suite a ((a, oe) :: pn)) (b0 :: su) (ts a cls d)) (r : Hds X n hs l) :
      Hds X n (.ExceptHandler (some t) (some n) (b0 :: su) pos :: hs) ((cs, ts) :: l)
def endsBut (i : Nat) (D : Ends) : Ends := { nx := fun σ H => D.nx (σ.set i none) H, rt := D.rt, bk := fun σ H => D.bk (σ.set i none) H, ct := fun σ H => D.ct (σ.set i none) H }
def wHds (K : PySem.W.Frag) (i : Nat) (Wout : WX) (D : Ends) : List (List Value × SuT) → WX
  | [] => Wout
  | (cs, ts) :: r => fun cls d σ H => ∃ b, PySem.W.exmAny K cls cs = some b ∧ (b = true → ∀ a, H a = none → ts a cls d (endsBut i D) (σ.set i (some (.ref a))) H) ∧ (b = false → wHds K i Wout D r cls d σ H)
theorem flying_kept {B hh h2 : Heap} {l : List PySem.Env} {a : Addr} {Z : Obj → Prop} (k : ∀ q o, hh.get? q = some o → h2.get? q = some o) (f : HandSPX.FlyingZ B l a Z hh) : HandSPX.FlyingZ B l a Z h2 := by
  obtain ⟨f1, f2, f3, oe, vs, T, oT, ts, e1, e2, e3, e4, e5, e6, e7, e8, e9⟩ := f
  exact ⟨fun b o q => k _ _ (f1 b o q), f2, Heap.FunFrames.of_keeps (fun b o q _ => ⟨o, k _ _ q, rfl⟩) f3, oe, vs, T, oT, ts, k _ _ e1, e2, e3, e4, e5, e6, k _ _ e7, e8, e9⟩
section
variable {X : Cx} {n : Str} {i : Nat} {body : List Stmt} {h0 : ExceptHandler} {hs : List ExceptHandler} {l : List (List Value × SuT)} {pos : Pos} {tb : WX → TS} {Wout : WX}
theorem ps_tryH (hst : X.stack = X.env :: X.outer) (hf : X.env.frame = some X.env.locals) (hN : X.N.Nodup) (hi : X.N[i]? = some n) (hn : X.env.kindOf n = some .local) (tk : Takes X Wout)
    (hb : ∀ (W : WX) (pn : List (Addr × Obj)) (xe : Value → Shared → Prop), Takes (X.tr pn xe) W → PassesOwn (model X.prog X.w) X.A X.env xe → PSs (X.tr pn xe) body (tb W)) (hh : Hds X n (h0 :: hs) l) :
    PS X (.Try body (h0 :: hs) [] [] pos) (fun D σ H => tb (fun cls d σ' H' => σ'.length = X.N.length → wHds X.K i Wout D l cls d σ' H') D σ H) := by
  constructor
  intro pins s σ H D I wish
  have ok := I.ok
  have frames : X.A.frames = some (X.env :: X.outer) := ok.frames.trans (by rw [hst])
  refine wpAny_Try_except (wpAny_mono ((hb _ (X.pn ++ pins) _ (fun u t air => ?caught) PassesOwn.looking).run [] s σ H D (I.toTry _) wish) (fun f t sp => ?thru) fun _ _ z => z)
  case thru =>
    cases f with
    | next => obtain ⟨σ1, H1, J, q⟩ := sp; exact wpAny_execs_nil ⟨σ1, H1, J.ofTry ok, q⟩
    | brk => obtain ⟨σ1, H1, J, q⟩ := sp; exact ⟨σ1, H1, J.ofTry ok, q⟩
    | cont => obtain ⟨σ1, H1, J, q⟩ := sp; exact ⟨σ1, H1, J.ofTry ok, q⟩
    | ret u => obtain ⟨v, σ1, H1, J, r, q⟩ := sp; exact ⟨v, σ1, H1, J.ofTry ok, r, q⟩
  case caught =>
    obtain ⟨a, B, sI, pins1, σ1, H1, cls, d, rfl, J0, nb, up, sky, na, os, ag, wsh⟩ := air
    have J : Inv X pins σ1 H1 sI := J0.ofTry ok
    rw [hst] at sky
    show wpAny (model X.prog X.w) X.A (noteFrame (.ref a) X.env) _ _ _
    refine Sky.land Zc.steady frames hf sky fun h3 fl up3 => ?_
    have walk : ∀ {hs1 : List ExceptHandler} {l1 : List (List Value × SuT)}, Hds X n hs1 l1 → ∀ h4 : Heap, HandSPX.FlyingZ B (X.env :: X.outer) a (Zc cls d) h4 → sI.heap.UpToSlots h4 → wHds X.K i Wout D l1 cls d σ1 H1 →
        wpAny (model X.prog X.w) X.A (handleBy (.ref a) X.env hs1) (SP X pins D) X.xe { t with heap := h4 } := by
      intro hs1 l1 hk
      induction hk with
      | nil =>
        intro h4 fl4 up4 w
        refine wpAny_handleBy_nil ?_
        obtain ⟨_, _, _, oe, vs, T, oT, ts, he, hz, hd, h1, hr⟩ := id fl4
        unfold PySem.passOn
        refine wpAny_bind (wpAny_field he hd h1 ?_)
        rw [if_neg (show ¬ ((Value.ref T == Value.none) = true) by simp)]
        have last : wpAny (model X.prog X.w) X.A (setFlight (.ref a) X.env.frame) (fun _ t2 => wpAny (model X.prog X.w) X.A (throw (.ref a) : Sem Flow) (SP X pins D) X.xe t2) X.xe { t with heap := h4 } := by
          rw [hf]
          exact HandSPX.setFlight_upZ fl4 fun h5 held up5 => wpAny_throw (tk _ _ ⟨a, B, sI, pins, σ1, H1, cls, d, rfl, J, nb, up4.trans up5, .inr (.inr (by rw [hst]; exact held)), na, os, ag, w⟩)
        first
          | exact wpAny_bind (wpAny_pure (wpAny_bind last))
          | exact wpAny_bind last
      | @cons tx cs ts b0 su ps hs2 l2 ht hsu r ih =>
        intro h4 fl4 up4 w
        obtain ⟨b, hb1, yes, no⟩ := w
        obtain ⟨oe, vs, he, hz, hd⟩ := fl4.there
        have J4 : Inv X pins σ1 H1 { t with heap := h4 } := J.landed nb fl4.1 up4 os ag
        have off : a ∉ frs (X.env :: X.outer) := fun hm => by
          obtain ⟨_, o1, e1, n1⟩ := fl4.2.2.1.mem hm
          rw [he] at e1
          cases e1
          exact n1 _ hd
        have nL : a ≠ X.env.locals := fun z => off (List.mem_filterMap.mpr ⟨X.env, List.mem_cons_self, by rw [hf, z]⟩)
        have nF : a ∉ X.fs := fun hm => by
          obtain ⟨e1, m1, q1⟩ := List.mem_filterMap.mp hm
          exact off (List.mem_filterMap.mpr ⟨e1, List.mem_cons_of_mem _ m1, q1⟩)
        have S4 := J4.suite he hd na nL nF
        have LT : PySem.W.Looks (model X.prog X.w) h4 (typeOf (.ref a)) cls := fun A Q E s k q => wpAny_typeOf_ref (k _ _ he) (by rw [hz.1]; exact q)
        refine wpAny_handleBy_cons (codeAny_handlers_test (ht a _ σ1 H1 _ _ _ cls b S4 LT hb1 fun h5 keep => ?_)) (by intro q; cases q)
        have fl5 := flying_kept keep fl4
        have up5 : sI.heap.UpToSlots h5 := up4.trans (Heap.UpToSlots.of_keeps keep)
        cases b with
        | false => exact ih h5 fl5 up5 (no rfl)
        | true =>
          refine codeAny_handlers_suite_as (HandSPX.lands_againZ fl5 fun h6 fl6 up6 => ?_)
          have J6 : Inv X pins σ1 H1 { t with heap := h6 } := J.landed nb fl6.1 (up5.trans up6) os ag
          obtain ⟨oe6, vs6, he6, hz6, hd6⟩ := fl6.there
          have S6 := J6.suite he6 hd6 na nL nF
          refine store_ok (X := X.suite a ((a, oe6) :: (X.pn ++ pins))) (v := .ref a) S6 hN hi (.inl hn) rfl (fun s7 S7 => ?_) (.inr hn)
          refine wpAny_mono ((hsu a oe6 cls d (X.pn ++ pins) hz6 ⟨_, hd6⟩).run [] s7 _ H1 _ S7 (yes rfl a na)) (fun f s8 sp => ?_) (fun _ _ z => False.elim z)
          have out : ∀ {σ8 : L2.St} {H8 : Hp} {R : Shared → Prop}, Inv (X.suite a ((a, oe6) :: (X.pn ++ pins))) [] σ8 H8 s8 → (∀ s9, Inv X pins (σ8.set i none) H8 s9 → R s9) → wpAny (model X.prog X.w) X.A (do bindName X.env n .none; unbindBehindTheSuite X.env n ps) (fun _ s9 => R s9) X.xe s8 :=
            fun S8 hR => gone_ok (S8.unsuite ok) hN hi hn hR
          cases f with
          | next => obtain ⟨σ8, H8, S8, q8⟩ := sp; exact out S8 fun s9 J9 => ⟨_, _, J9, q8⟩
          | brk => obtain ⟨σ8, H8, S8, q8⟩ := sp; exact out S8 fun s9 J9 => ⟨_, _, J9, q8⟩
          | cont => obtain ⟨σ8, H8, S8, q8⟩ := sp; exact out S8 fun s9 J9 => ⟨_, _, J9, q8⟩
          | ret u => obtain ⟨v8, σ8, H8, S8, r8, q8⟩ := sp; exact out S8 fun s9 J9 => ⟨_, _, _, J9, r8, q8⟩
    exact walk hh h3 fl (up.trans up3) (wsh J.len)
end
end Rg
namespace Rg
open PySem PySem.Spec PyProof.Rows L2 LamX
def CallsAt (P : Program) (w : World) (K : PySem.W.Frag) (mg : Str → Option Value) (base : Heap) (k : Nat) (stk : List PySem.Env) (s : Shared) (H : Hp) (f c : Addr) (b : LamB) (z : Cells) (tl : XK → Hp → VK → Prop) : Prop :=
  ∀ (A : Around) (outer : List PySem.Env) (s1 : Shared) (H1 : Hp) (Q : VK) (E : XK), Room (k + 1) A → Env0 P w K mg base A outer s1 H1 → Un (frs stk) [] H H1 s.heap s1.heap → H1 f = some (LamO f c b z) → H1 c = some (CodeO c b.qual) → tl E H1 Q →
    codeAny (model P w) A (.call (.ref f) ⟨[], []⟩) (CR (L2.CX P w) outer P w H1 s1 Q E) s1
section
variable {X : Cx} {pins : List (Addr × Obj)} {σ : L2.St} {H : Hp} {s : Shared}
theorem calls_of {k : Nat} {b : LamB} {f c : Addr} {tb : XK → TE} (I : Inv X pins σ H s) (hq : X.env.qual ++ "<lambda>" = b.qual) (L : LamS X.env.scope b.scope)
    (hbind : ∀ (q : Str) (cl : Cells) (pm cv ctv : Value), bindArgs (PySem.W.kla_fn "<lambda>" q b.params b.body b.scope cl pm cv ctv) ⟨[], []⟩ = pure [])
    (hbody : ∀ (A : Around) (outer : List PySem.Env) (s : Shared) (H : Hp) (E : XK) (f c : Addr), Room k (A.deeper (lamEnv X b.scope s.heap.objs.size f c)) → PE (lamCx X A outer s H E b.scope f c) b.body (tb E)) :
    CallsAt X.prog X.w X.K X.mg X.base k X.stack s H f c b X.env.cells (fun E H' Q' => tb E σ H' Q') := by
  obtain ⟨bp, bb, bs, bq⟩ := b
  dsimp only at hq L hbind hbody
  subst hq
  intro A outer s1 H1 Q E hr e0 un hf hc ht
  obtain ⟨⟨pm, ctv, of1⟩, _⟩ := e0.hok f _ hf
  obtain ⟨⟨oc, vs, t, hoc, hdc, hvc⟩, _⟩ := e0.hok c _ hc
  dsimp only at of1 hvc
  have lim : s1.heap.NoLimit := e0.mod.nolimit.keeps fun b o e => (e0.bs b o e).1
  refine PySem.W.kla_callFunE hr.depth of1 rfl L.co L.gen rfl ⟨c, oc, vs, t, rfl, hoc, hdc, hvc⟩ ?_
  rw [hbind]
  refine wpAny_pure (wpAny_newFunctionEnv (fun y hy => (L.own y hy).2) (fun y hy => absurd hy (by simp)) (fun hp hns hsb => ⟨lim.fresh _ hsb, ?_⟩) L.kind)
  show codeAny _ _ (.expr bb (lamEnv X bs s1.heap.objs.size f c)) _ _
  have keep : ∀ a o, s1.heap.get? a = some o → hp.get? a = some o := fun a o e => hsb.extBut a o (Nat.ne_of_lt (Heap.lt_size e)) (Heap.get?_push_of_some _ e)
  have J : Inv (lamCx X A outer s1 H1 E bs f c) [] σ H1 { s1 with heap := hp, toks := s1.toks + ([] : List (Str × Value)).length } := lam_start2 I L e0 hr.hd un hns keep
  refine PySem.W.kla_codeExpr (wpAny_mono ((hbody A outer s1 H1 E f c (hr.deeper _)).run [] _ σ H1 Q J ht) (fun v s' hv => ?_) fun _ _ z => z)
  obtain ⟨w', H', J', rv, q⟩ := hv
  exact ⟨w', H', J'.os, J'.bare, J'.base, J'.hok, rv, q⟩
end
def Gives (P : Program) (w : World) (K : PySem.W.Frag) (mg : Str → Option Value) (base : Heap) (k j : Nat) (g : Addr) (TT : (XK → Hp → VK → Prop) → Hp → VK → Prop) : Prop :=
  ∀ (A : Around) (outer : List PySem.Env) (s : Shared) (H : Hp) (f c : Addr) (b : LamB) (z : Cells) (tl : XK → Hp → VK → Prop) (Q : VK), Room (k + j) A → Env0 P w K mg base A outer s H → H f = some (LamO f c b z) → H c = some (CodeO c b.qual) →
    CallsAt P w K mg base k outer s H f c b z tl → TT tl H Q → codeAny (model P w) A (.call (.ref g) ⟨[.ref f], []⟩) (CR C8.CX0 outer P w H s Q C8.E0) s
theorem pe_ask {P : Program} {w : World} {K : PySem.W.Frag} {mg : Str → Option Value} {base : Heap} {k i : Nat} {N : List Str} {qg a : Str} {sg : Scope} {g f c : Addr} {cdg : Value} {b : LamB} {z : Cells} {tl : XK → Hp → VK → Prop} {A : Around} {outer : List PySem.Env} {s : Shared} {H : Hp} {Eg E : XK} {pn : List (Addr × Obj)} {xe : Value → Shared → Prop} {W : WX} {p1 p2 : Pos}
    (call : CallsAt P w K mg base k outer s H f c b z tl) (hr : Room (k + 1) (A.deeper (envOfC qg sg s.heap.objs.size g cdg))) (tk : Takes ((cxOf C8.CX0 P w K mg base N qg sg g cdg A outer s H Eg).tr pn xe) W) (hW : ∀ cls d σ H, E cls d H → W cls d σ H)
    (hN : N[i]? = some a) (hv : Vis sg a) (hd : (a == ("__debug__" : Str)) = false) (hcd : (a == ("__classdict__" : Str)) = false) :
    PE ((cxOf C8.CX0 P w K mg base N qg sg g cdg A outer s H Eg).tr pn xe) (.Call (.Name a p1) [] [] p2) (fun σZ HZ Q => σZ[i]? = some (some (.ref f)) ∧ HZ f = some (LamO f c b z) ∧ HZ c = some (CodeO c b.qual) ∧ tl E HZ Q) := by
  constructor
  intro pins s1 σ1 H1 Q I ⟨h1, h2, h3, h4⟩
  refine wpAny_Call_Name_kw (thn ((pe_var (pos := p1) (i := i) hN hv hd hcd).run pins s1 σ1 H1 (fun v H2 => v = .ref f ∧ H2 = H1) I ⟨.ref f, h1, rfl, rfl⟩) fun u s2 ⟨v, H2, I2, r2, e1, e2⟩ => ?_)
  subst e1
  subst e2
  obtain rfl : u = Value.ref f := r2
  obtain ⟨⟨pm, ctv, of1⟩, _⟩ := I2.hok f _ h2
  refine PySem.W.callWith_F0 ⟨_, _, _, _, of1⟩ (wpAny_call (codeAny_mono (call _ _ s2 _ Q E hr I2.env0 I2.base h2 h3 h4) fun r s3 hq => ?_))
  cases r with
  | error e => exact passes_call tk hW pins σ1 _ s2 e s3 I2 hq
  | ok fl =>
    cases fl with
    | ret u => exact I2.after hq
    | next => exact False.elim hq
    | brk => exact False.elim hq
    | cont => exact False.elim hq
def tGiv (T : List (Addr × Str)) (b : LamB) (z : Cells) (TT : (XK → Hp → VK → Prop) → Hp → VK → Prop) (t : XK → TE) : TE := fun σ H Q => Tabs T H ∧ ∀ f c H1, ExtN H H1 → Tabs T H1 → H f = none → H1 f = some (LamO f c b z) → H1 c = some (CodeO c b.qual) → TT (fun E H' Q' => t E σ H' Q') H1 Q
section
variable {X : Cx}
theorem pe_giv {k j : Nat} {g : Addr} {x : Str} {b : LamB} {TT : (XK → Hp → VK → Prop) → Hp → VK → Prop} {tb : XK → TE} {p lpos pos : Pos} (Gv : Gives X.prog X.w X.K X.mg X.base k j g TT) (hr : Room (k + j) X.A) (hg : Gl X x) (hm : X.mg x = some (.ref g)) (hk : PySem.W.keepIn X.K (.ref g) = true)
    (M : Mkr X) (hq : X.env.qual ++ "<lambda>" = b.qual) (L : LamS X.env.scope b.scope) (hdef : defaultsOf b.params X.env = ([], [])) (hbind : ∀ (q : Str) (cl : Cells) (pm cv ctv : Value), bindArgs (PySem.W.kla_fn "<lambda>" q b.params b.body b.scope cl pm cv ctv) ⟨[], []⟩ = pure [])
    (hbody : ∀ (A : Around) (outer : List PySem.Env) (s : Shared) (H : Hp) (E : XK) (f c : Addr), Room k (A.deeper (lamEnv X b.scope s.heap.objs.size f c)) → PE (lamCx X A outer s H E b.scope f c) b.body (tb E)) (hdb : (x == ("__debug__" : Str)) = false) :
    PE X (.Call (.Name x p) [.Lambda b.params b.body b.scope lpos] [] pos) (tGiv (tabsOf X.K) b X.env.cells TT tb) := by
  obtain ⟨cM, PM, hcode, TB, hmem⟩ := M.ex
  rw [hq] at hmem
  constructor
  intro pins s σ H Q I ⟨hT, h⟩
  refine wpAny_Call_Name_kw (ld_glob I hg hm ?_ hdb)
  refine PySem.W.callWith_K (h₀ := X.base) I.ok.mod.kin hk ?_ (by rfl) (by rfl)
  show wpAny _ _ (spliced ((false, eval (.Lambda b.params b.body b.scope lpos) X.env) :: backTo pos (starEach [] X.env))) _ _ s
  refine Calls.spliced_cons (lam_held I TB hcode hq hmem (fun p hp e => M.un p hp _ hmem e) hT hdef (L.has I.ok) fun f c H1 s' J e T1 h0 h1 h2 => ?_)
  refine Calls.spliced_nil ⟨J.kIn, ?_⟩
  refine wpAny_call (codeAny_mono (Gv X.A X.stack s' H1 f c b X.env.cells _ Q hr J.env0 h1 h2 (calls_of J hq L hbind hbody) (h f c H1 e T1 h0 h1 h2)) fun r s2 hres => ?_)
  cases r with
  | error e => exact (show False from hres).elim
  | ok fl =>
    cases fl with
    | ret u => exact J.after hres
    | next => exact False.elim hres
    | brk => exact False.elim hres
    | cont => exact False.elim hres
end
def whyNs : List (List Str) := [["NotWhole"], ["TooTall"], ["BadTable", "BadText"], ["BadPage"], ["Stopped"], ["Used", "Held"], ["NoGuest", "NoName"], ["RungError", "RungMissing"]]
def whyIx (c : Str) : Nat := if c == "NotWhole" then 0 else if c == "TooTall" then 1 else if c == "BadTable" || c == "BadText" then 2 else if c == "BadPage" then 3 else if c == "Stopped" then 4 else if c == "Used" || c == "Held" then 5 else if c == "NoGuest" || c == "NoName" then 6 else 7
def whyCs (K : PySem.W.Frag) (ns : List Str) : List Value := ns.map fun x => .ref (He.ga K x)
def tFld (K : PySem.W.Frag) (a : Addr) (cls : Value) (d : Option Addr) (f : Str) (te : TE) : TE := fun σ H Q => te σ H fun x H1 => x = .ref a ∧ ∃ (C dd : Addr) (gs : List (Str × V)) (v : V), cls = .ref C ∧ XfC K C ∧ PySem.W.findIn K (.ref C) f = some none ∧ d = some dd ∧ H1 dd = some (.xd gs) ∧ gs.lookup f = some v ∧ Q v H1
theorem pe_fld {X : Cx} {a : Addr} {oe : Obj} {cls : Value} {d : Option Addr} {pn : List (Addr × Obj)} {e : Expr} {i : Nat} {pos : Pos} {n : Str} (hz : Zc cls d oe) (hf : ∃ vs, oe.data = .fields vs) (he : PE (X.suite a ((a, oe) :: pn)) e (tVar i)) (hb : attributeBase e n X.env (eval e X.env) = eval e X.env := by rfl) :
    PE (X.suite a ((a, oe) :: pn)) (.Attribute e n pos) (tFld X.K a cls d n (tVar i)) := by
  constructor
  rintro pins s σ H Q I ⟨x, hx, rfl, C, dd, gs, v, h1, h2, h3, h4, h5, h6, h7⟩
  exact (pe_xf (C := C) h2 h3 hz hf he hb).run pins s σ H Q I ⟨.ref a, hx, rfl, h1, dd, gs, v, h4, h5, h6, h7⟩
def suOne (K : PySem.W.Frag) (f : Str) : SuT := fun a cls d => tRet (tTup (tCons (tFld K a cls d "word" (tVar 1)) (tCons (tFld K a cls d f (tVar 1)) tNil)))
def suTwo (K : PySem.W.Frag) : SuT := fun a cls d => tRet (tTup (tCons (tFld K a cls d "word" (tVar 1)) (tCons (tTup (tCons (tFld K a cls d "at" (tVar 1)) (tCons (tFld K a cls d "kind" (tVar 1)) tNil))) tNil)))
def suNon (K : PySem.W.Frag) : SuT := fun a cls d => tRet (tTup (tCons (tFld K a cls d "word" (tVar 1)) (tCons (tC .non) tNil)))
def whyL (K : PySem.W.Frag) : List (List Value × SuT) := [(whyCs K ["NotWhole"], suOne K "part"), (whyCs K ["TooTall"], suOne K "tall"), (whyCs K ["BadTable", "BadText"], suOne K "at"), (whyCs K ["BadPage"], suOne K "row"), (whyCs K ["Stopped"], suTwo K), (whyCs K ["Used", "Held"], suOne K "by"), (whyCs K ["NoGuest", "NoName"], suOne K "name"), (whyCs K ["RungError", "RungMissing"], suNon K)]
inductive WhyX (K : PySem.W.Frag) (C : Addr) (gs : List (Str × V)) (H : Hp) (Q : V → V → Hp → Prop) : Nat → Prop
  | one {j : Nat} {f : Str} {w y : V} : ([some "part", some "tall", some "at", some "row", none, some "by", some "name"] : List (Option Str))[j]? = some (some f) → gs.lookup ("word" : Str) = some w → gs.lookup f = some y → PySem.W.findIn K (.ref C) f = some none → Q w y H → WhyX K C gs H Q j
  | two {w y y2 : V} : gs.lookup ("word" : Str) = some w → gs.lookup ("at" : Str) = some y → gs.lookup ("kind" : Str) = some y2 → PySem.W.findIn K (.ref C) "at" = some none → PySem.W.findIn K (.ref C) "kind" = some none → (∀ q, H q = none → Q w (.ref q) (upd H q (.tup [y, y2]))) → WhyX K C gs H Q 4
  | non {w : V} : gs.lookup ("word" : Str) = some w → Q w .non H → WhyX K C gs H Q 7
structure WhyF (K : PySem.W.Frag) (C : Addr) (j : Nat) : Prop where
  lo : ∀ i ns, i < j → whyNs[i]? = some ns → PySem.W.exmAny K (.ref C) (whyCs K ns) = some false
  hi : ∀ ns, whyNs[j]? = some ns → PySem.W.exmAny K (.ref C) (whyCs K ns) = some true
  xf : XfC K C
  wd : PySem.W.findIn K (.ref C) "word" = some none
def TPair (K : PySem.W.Frag) (Q : V → V → Hp → Prop) : (XK → Hp → VK → Prop) → Hp → Prop := fun tl H =>
  tl (fun cls d H' => ∃ (C dd : Addr) (gs : List (Str × V)) (j : Nat), cls = .ref C ∧ d = some dd ∧ H' dd = some (.xd gs) ∧ WhyF K C j ∧ WhyX K C gs H' Q j) H (fun v H' => Q (.str "told") v H')
def TWhy (K : PySem.W.Frag) : (XK → Hp → VK → Prop) → Hp → VK → Prop := fun tl H Q => TPair K (fun w y H' => ∀ p, H' p = none → Q (.ref p) (upd H' p (.tup [w, y]))) tl H
theorem why_hds {K : PySem.W.Frag} {D : Ends} {σ : L2.St} {H : Hp} {C dd : Addr} {gs : List (Str × V)} {j : Nat} (hl : 1 < σ.length) (F : WhyF K C j) (hd : H dd = some (.xd gs)) (h : WhyX K C gs H (fun w y H' => ∀ p, H' p = none → D.rt (.ref p) (upd H' p (.tup [w, y]))) j) :
    wHds K 1 (fun _ _ _ _ => False) D (whyL K) (.ref C) (some dd) σ H := by
  have at1 : ∀ a : Addr, (σ.set 1 (some (V.ref a)))[1]? = some (some (.ref a)) := fun a => List.getElem?_set_self hl
  have s2 : 2 ≤ sizeLine := by decide
  have wone : ∀ {f : Str} {w y : V}, gs.lookup ("word" : Str) = some w → gs.lookup f = some y → PySem.W.findIn K (.ref C) f = some none → (∀ p, H p = none → D.rt (.ref p) (upd H p (.tup [w, y]))) → ∀ a, H a = none → suOne K f a (.ref C) (some dd) (endsBut 1 D) (σ.set 1 (some (.ref a))) H :=
    fun {f w y} h1 h2 h3 h4 a _ => ⟨.ref a, at1 a, rfl, C, dd, gs, w, rfl, F.xf, F.wd, rfl, hd, h1, .ref a, at1 a, rfl, C, dd, gs, y, rfl, F.xf, h3, rfl, hd, h2, s2, h4⟩
  have skip : ∀ {i : Nat} {ns : List Str} {ts : SuT} {r : List (List Value × SuT)}, i < j → whyNs[i]? = some ns → wHds K 1 (fun _ _ _ _ => False) D r (.ref C) (some dd) σ H → wHds K 1 (fun _ _ _ _ => False) D ((whyCs K ns, ts) :: r) (.ref C) (some dd) σ H :=
    fun {i ns ts r} h1 h2 h3 => ⟨false, F.lo i ns h1 h2, (fun z => by cases z), fun _ => h3⟩
  have take : ∀ {ns : List Str} {ts : SuT} {r : List (List Value × SuT)}, whyNs[j]? = some ns → (∀ a, H a = none → ts a (.ref C) (some dd) (endsBut 1 D) (σ.set 1 (some (.ref a))) H) → wHds K 1 (fun _ _ _ _ => False) D ((whyCs K ns, ts) :: r) (.ref C) (some dd) σ H :=
    fun {ns ts r} h1 h2 => ⟨true, F.hi ns h1, fun _ => h2, (fun z => by cases z)⟩
  cases h with
  | one hj h1 h2 h3 h4 =>
    match j, hj with
    | 0, hj => cases hj; exact take rfl (wone h1 h2 h3 h4)
    | 1, hj => cases hj; exact skip (i := 0) (by decide) rfl (take rfl (wone h1 h2 h3 h4))
    | 2, hj => cases hj; exact skip (i := 0) (by decide) rfl (skip (i := 1) (by decide) rfl (take rfl (wone h1 h2 h3 h4)))
    | 3, hj => cases hj; exact skip (i := 0) (by decide) rfl (skip (i := 1) (by decide) rfl (skip (i := 2) (by decide) rfl (take rfl (wone h1 h2 h3 h4))))
    | 4, hj => simp at hj
    | 5, hj => cases hj; exact skip (i := 0) (by decide) rfl (skip (i := 1) (by decide) rfl (skip (i := 2) (by decide) rfl (skip (i := 3) (by decide) rfl (skip (i := 4) (by decide) rfl (take rfl (wone h1 h2 h3 h4))))))
    | 6, hj => cases hj; exact skip (i := 0) (by decide) rfl (skip (i := 1) (by decide) rfl (skip (i := 2) (by decide) rfl (skip (i := 3) (by decide) rfl (skip (i := 4) (by decide) rfl (skip (i := 5) (by decide) rfl (take rfl (wone h1 h2 h3 h4)))))))
    | j + 7, hj => simp at hj
  | two h1 h2 h3 h4 h5 h6 =>
    refine skip (i := 0) (by decide) rfl (skip (i := 1) (by decide) rfl (skip (i := 2) (by decide) rfl (skip (i := 3) (by decide) rfl (take rfl fun a _ => ?_))))
    refine ⟨.ref a, at1 a, rfl, C, dd, gs, _, rfl, F.xf, F.wd, rfl, hd, h1, .ref a, at1 a, rfl, C, dd, gs, _, rfl, F.xf, h4, rfl, hd, h2, .ref a, at1 a, rfl, C, dd, gs, _, rfl, F.xf, h5, rfl, hd, h3, s2, fun q hq => ⟨s2, h6 q hq⟩⟩
  | non h1 h2 =>
    refine skip (i := 0) (by decide) rfl (skip (i := 1) (by decide) rfl (skip (i := 2) (by decide) rfl (skip (i := 3) (by decide) rfl (skip (i := 4) (by decide) rfl (skip (i := 5) (by decide) rfl (skip (i := 6) (by decide) rfl (take rfl fun a _ => ?_)))))))
    exact ⟨.ref a, at1 a, rfl, C, dd, gs, _, rfl, F.xf, F.wd, rfl, hd, h1, s2, h2⟩
end Rg
namespace Rg
open PySem PySem.Spec PyProof.Rows L2 LamX
def WhyB (bg : List Stmt) : Prop := ∀ (Z : Cx), Z.N = (["_law_ask", "e"] : List Str) → Z.stack = Z.env :: Z.outer → Z.env.frame = some Z.env.locals → Vis Z.env.scope "_law_ask" → Z.env.kindOf "e" = some .local → (∀ ns ∈ whyNs, ∀ x ∈ ns, Names Z x (.ref (He.ga Z.K x))) →
  ∀ (tl : XK → TE), (∀ (W : WX) (pn : List (Addr × Obj)) (xe : Value → Shared → Prop) (E : XK) (p1 p2 : Pos), Takes (Z.tr pn xe) W → (∀ cls d σ H, E cls d H → W cls d σ H) → PE (Z.tr pn xe) (.Call (.Name "_law_ask" p1) [] [] p2) (tl E)) →
    PSs Z bg (fun D σ H => ∃ E : XK, (∀ cls d σ' H', E cls d H' → σ'.length = 2 → wHds Z.K 1 (fun _ _ _ _ => False) D (whyL Z.K) cls d σ' H') ∧ tRet (tTup (tCons (tC (.str "told")) (tCons (tl E) tNil))) D σ H)
theorem why_try {Z : Cx} {body : List Stmt} {h0 : ExceptHandler} {hs : List ExceptHandler} {pos : Pos} (hN : Z.N = (["_law_ask", "e"] : List Str)) (hst : Z.stack = Z.env :: Z.outer) (hfr : Z.env.frame = some Z.env.locals) (hne : Z.env.kindOf "e" = some .local) (tl : XK → TE)
    (hb : ∀ (W : WX) (pn : List (Addr × Obj)) (xe : Value → Shared → Prop) (E : XK), Takes (Z.tr pn xe) W → (∀ cls d σ H, E cls d H → W cls d σ H) → PSs (Z.tr pn xe) body (tRet (tTup (tCons (tC (.str "told")) (tCons (tl E) tNil))))) (hh : Hds Z "e" (h0 :: hs) (whyL Z.K)) :
    PSs Z [.Try body (h0 :: hs) [] [] pos] (fun D σ H => ∃ E : XK, (∀ cls d σ' H', E cls d H' → σ'.length = 2 → wHds Z.K 1 (fun _ _ _ _ => False) D (whyL Z.K) cls d σ' H') ∧ tRet (tTup (tCons (tC (.str "told")) (tCons (tl E) tNil))) D σ H) := by
  have key := pss_one (ps_tryH (i := 1) (pos := pos) (tb := fun W D σ H => ∃ E : XK, (∀ cls d σ' H', E cls d H' → W cls d σ' H') ∧ tRet (tTup (tCons (tC (.str "told")) (tCons (tl E) tNil))) D σ H) hst hfr (by rw [hN]; decide) (by rw [hN]; rfl) hne takes_none5
    (fun W pn xe tk _ => ⟨fun pins s σ H D I ⟨E, hW, h⟩ => (hb W pn xe E tk hW).run pins s σ H D I h⟩) hh)
  rw [hN] at key
  exact key
theorem hn_of {Z : Cx} (h : ∀ ns ∈ whyNs, ∀ x ∈ ns, Names Z x (.ref (He.ga Z.K x))) (x : Str) (ns : List Str) (h1 : ns ∈ whyNs) (h2 : x ∈ ns) : Names Z x (.ref (He.ga Z.K x)) := h ns h1 x h2
section
variable {P : Program} {w : World} {K : PySem.W.Frag} {mg : Str → Option Value} {base : Heap} {k : Nat} {g : Addr} {fd : FuncData} {params : Arguments} {bg : List Stmt} {sg : Scope}
theorem start1 {f : Addr} : (L2.start ["_law_ask", "e"] [V.ref f])[0]? = some (some (.ref f)) := rfl
theorem why_gives (F : FunD K "_law_why" "_law_why" params bg sg [] [] g fd) (S : FnScope ["_law_ask", "e"] ["_law_ask"] sg) (hb : Binds K fd ["_law_ask"] []) (hB : WhyB bg) (hva : Vis sg "_law_ask") (hne : sg.names.lookup ("e" : Str) = some NameKind.local)
    (hgl : ∀ ns ∈ whyNs, ∀ x ∈ ns, sg.names.lookup x = some .globalImplicit ∧ (x == ("__debug__" : Str)) = false ∧ mg x = some (.ref (He.ga K x))) : Gives P w K mg base k 2 g (TWhy K) := by
  intro A outer s H f c b z tl Q hr e0 hf hc call hT
  obtain ⟨oc, od, dV, kV, doc, pm, an, cdv, ct, osl, rfl, lk, hcd, _, _⟩ := F.ex
  have kin : K.In s.heap := e0.mod.kin.keeps fun b o e => (e0.bs b o e).1
  refine run_ofS (N := ["_law_ask", "e"]) (ps := ["_law_ask"]) (us := [.ref f]) (vs := [.ref f]) lk hcd S hr e0 (hb s [.ref f] kin rfl) (.cons rfl .nil) rfl fun hr' => ?_
  have key := hB (cxOf C8.CX0 P w K mg base ["_law_ask", "e"] "_law_why" sg g cdv A outer s H C8.E0).nox rfl rfl rfl hva hne (fun ns h1 x h2 => ⟨(hgl ns h1 x h2).1, (hgl ns h1 x h2).2.1, .inl (hgl ns h1 x h2).2.2⟩)
    (fun E σZ HZ Q => σZ[0]? = some (some (.ref f)) ∧ HZ f = some (LamO f c b z) ∧ HZ c = some (CodeO c b.qual) ∧ tl E HZ Q)
    (fun W pn xe E p1 p2 tk hW => pe_ask (k := k) (i := 0) (N := ["_law_ask", "e"]) (Eg := C8.E0) (b := b) (z := z) call hr' tk hW rfl hva (by decide) (by decide))
  refine ⟨_, key.nox, fun cls d H' => ∃ (C dd : Addr) (gs : List (Str × V)) (j : Nat), cls = .ref C ∧ d = some dd ∧ H' dd = some (.xd gs) ∧ WhyF K C j ∧ WhyX K C gs H' (fun w y H' => ∀ p, H' p = none → Q (.ref p) (upd H' p (.tup [w, y]))) j, ?_, ?_⟩
  · rintro cls d σ' H' ⟨C, dd, gs, j, rfl, rfl, h1, h2, h3⟩ hl
    exact why_hds (by rw [hl]; decide) h2 h1 h3
  · refine ⟨start1, hf, hc, ?_⟩
    have e : (fun (v : V) (H1 : Hp) => 2 ≤ sizeLine ∧ ∀ p, H1 p = none → Q (.ref p) (upd H1 p (.tup [.str "told", v]))) = fun v H1 => ∀ p, H1 p = none → Q (.ref p) (upd H1 p (.tup [.str "told", v])) := by
      funext v H1
      exact propext ⟨And.right, fun h => ⟨by decide, h⟩⟩
    show tl _ H (fun (v : V) (H1 : Hp) => 2 ≤ sizeLine ∧ ∀ p, H1 p = none → Q (.ref p) (upd H1 p (.tup [.str "told", v])))
    rw [e]
    exact hT
theorem un_over {N : List Str} {qg : Str} {gW : Addr} {cdg : Value} {A : Around} {outer : List PySem.Env} {s s2 s3 : Shared} {H H2 H3 : Hp} {pins : List (Addr × Obj)} {σ : L2.St} (I : Inv (cxOf C8.CX0 P w K mg base N qg sg gW cdg A outer s H C8.E0) pins σ H2 s2)
    (un : Un (frs (envOfC qg sg s.heap.objs.size gW cdg :: outer)) [] H2 H3 s2.heap s3.heap) : Un (frs outer) [] H H3 s.heap s3.heap := by
  have u : Un (frs outer) [] H H2 s.heap s2.heap := I.base
  have off : ∀ a o, s.heap.get? a = some o → a ∉ frs outer → a ∉ frs (envOfC qg sg s.heap.objs.size gW cdg :: outer) := fun a o e n m => by
    have m : a ∈ s.heap.objs.size :: frs outer := m
    rcases List.mem_cons.mp m with y | y
    · exact absurd (Heap.lt_size e) (by rw [y]; exact Nat.lt_irrefl _)
    · exact n y
  refine ⟨fun a o e n hf hx => ?_, fun a o e n hf hx => ?_, fun a o e n hx => ?_, fun a o e hx => ?_, fun a xs e => un.tups _ _ (u.tups _ _ e), fun a o y e => un.frzs _ _ _ (u.frzs _ _ _ e), fun a ps e => ?_⟩
  · exact un.keep a o (u.keep a o e n hf hx) (u.free a o e n hx) (off a o e hf) hx
  · obtain ⟨sl, e1⟩ := u.slot a o e n hf hx
    obtain ⟨sl2, e2⟩ := un.slot a _ e1 (u.free a o e n hx) (List.mem_cons_of_mem _ hf) hx
    exact ⟨sl2, e2⟩
  · obtain ⟨o2, e1⟩ := u.there a o e hx
    exact un.free a o2 e1 (u.free a o e n hx) hx
  · obtain ⟨o2, e1⟩ := u.there a o e hx
    exact un.there a o2 e1 hx
  · obtain ⟨m1, e1⟩ := u.tbls a ps e
    obtain ⟨m2, e2⟩ := un.tbls a _ e1
    exact ⟨m1 ++ m2, by rw [e2, Array.append_assoc]⟩
def TWord (K : PySem.W.Frag) : (XK → Hp → VK → Prop) → Hp → VK → Prop := fun tl H Q => TWhy K tl H fun v H' => rIx K v (.int 0) H' Q
def WordB (bg : List Stmt) : Prop := ∀ (Z : Cx) (g : Addr), Gl Z "_law_why" → Z.mg "_law_why" = some (.ref g) → PySem.W.keepIn Z.K (.ref g) = true → ∀ t : TE, (∀ (p1 p2 p3 : Pos), PE Z (.Call (.Name "_law_why" p1) [.Name "_law_ask" p2] [] p3) t) →
    PSs Z bg (tRet (tOp (rIx Z.K) t (tC (.int 0))))
theorem pe_on {N : List Str} {qg a x : Str} {gW f c : Addr} {cdg : Value} {b : LamB} {z : Cells} {tl : XK → Hp → VK → Prop} {A : Around} {outer : List PySem.Env} {s : Shared} {H : Hp} {TT : (XK → Hp → VK → Prop) → Hp → VK → Prop} {j : Nat} {p1 p2 p3 : Pos} (Gv : Gives P w K mg base k j g TT)
    (call : CallsAt P w K mg base k outer s H f c b z tl) (hr : Room (k + j) (A.deeper (envOfC qg sg s.heap.objs.size gW cdg))) (hg : sg.names.lookup x = some .globalImplicit) (hm : mg x = some (.ref g)) (hk : PySem.W.keepIn K (.ref g) = true) (hN : N[0]? = some a) (hv : Vis sg a) (hd : (a == ("__debug__" : Str)) = false) (hcd : (a == ("__classdict__" : Str)) = false) (hdb : (x == ("__debug__" : Str)) = false) :
    PE (cxOf C8.CX0 P w K mg base N qg sg gW cdg A outer s H C8.E0) (.Call (.Name x p1) [.Name a p2] [] p3) (fun σZ HZ Q => σZ[0]? = some (some (.ref f)) ∧ HZ f = some (LamO f c b z) ∧ HZ c = some (CodeO c b.qual) ∧ TT tl HZ Q) := by
  constructor
  intro pins s1 σ1 H1 Q I ⟨h1, h2, h3, h4⟩
  refine wpAny_Call_Name_kw (ld_glob I hg hm ?_ hdb)
  refine PySem.W.callWith_K (h₀ := base) I.ok.mod.kin hk ?_ (by rfl) (by rfl)
  show wpAny _ _ (spliced ((false, eval (.Name a p2) _) :: backTo p3 (starEach [] _))) _ _ s1
  refine Calls.spliced_cons (thn ((pe_var (pos := p2) (i := 0) hN hv hd hcd).run pins s1 σ1 H1 (fun v H2 => v = .ref f ∧ H2 = H1) I ⟨.ref f, h1, rfl, rfl⟩) fun u s2 ⟨v, H2, I2, r2, e1, e2⟩ => ?_)
  subst e1
  subst e2
  obtain rfl : u = Value.ref f := r2
  refine Calls.spliced_nil ⟨I2.kIn, ?_⟩
  refine wpAny_call (codeAny_mono (Gv _ _ s2 _ f c b z tl Q hr I2.env0 h2 h3 (fun A' outer' s3 H3 Q3 E3 hr3 e3 un hf hc ht => call A' outer' s3 H3 Q3 E3 hr3 e3 ?_ hf hc ht) h4) fun r s4 hres => ?_)
  · exact un_over I2 un
  · cases r with
    | error e => exact (show False from hres).elim
    | ok fl =>
      cases fl with
      | ret u => exact I2.after hres
      | next => exact False.elim hres
      | brk => exact False.elim hres
      | cont => exact False.elim hres
theorem word_gives {gW : Addr} {fdW : FuncData} {pW : Arguments} {bW : List Stmt} {sW : Scope} (Gv : Gives P w K mg base k 2 g (TWhy K)) (F : FunD K "_law_word" "_law_word" pW bW sW [] [] gW fdW) (S : FnScope ["_law_ask"] ["_law_ask"] sW) (hb : Binds K fdW ["_law_ask"] []) (hB : WordB bW) (hva : Vis sW "_law_ask")
    (hg : sW.names.lookup ("_law_why" : Str) = some .globalImplicit) (hm : mg "_law_why" = some (.ref g)) (hk : PySem.W.keepIn K (.ref g) = true) : Gives P w K mg base k 3 gW (TWord K) := by
  intro A outer s H f c b z tl Q hr e0 hf hc call hT
  obtain ⟨oc, od, dV, kV, doc, pm, an, cdv, ct, osl, rfl, lk, hcd, _, _⟩ := F.ex
  have kin : K.In s.heap := e0.mod.kin.keeps fun b o e => (e0.bs b o e).1
  refine run_ofS (N := ["_law_ask"]) (ps := ["_law_ask"]) (us := [.ref f]) (vs := [.ref f]) lk hcd S hr e0 (hb s [.ref f] kin rfl) (.cons rfl .nil) rfl fun hr' => ?_
  refine ⟨_, hB (cxOf C8.CX0 P w K mg base ["_law_ask"] "_law_word" sW gW cdv A outer s H C8.E0) g hg hm hk _ (fun p1 p2 p3 => pe_on (p1 := p1) (p2 := p2) (p3 := p3) (N := ["_law_ask"]) (a := "_law_ask") (x := "_law_why") (b := b) (z := z) Gv call hr' hg hm hk rfl hva (by decide) (by decide) (by decide)), ?_⟩
  exact ⟨rfl, hf, hc, hT⟩
end
end Rg
namespace Rg
open PySem PySem.Spec PyProof.Rows L2 LamX
def hideS : Sl → Sl
  | .o _ => .no
  | s => s
def hide (Γ : Env) : Env := Γ.map hideS
theorem gt_hide : ∀ (Γ : Env) (i : Nat), gt (hide Γ) i = hideS (gt Γ i)
  | [], _ => rfl
  | _ :: _, 0 => rfl
  | _ :: Γ, i + 1 => gt_hide Γ i
def whyP (fs : List (Str × D)) (j : Nat) : Option (D × D) := (fs.lookup ("word" : Str)).bind fun w => match j with
  | 0 => (fs.lookup ("part" : Str)).map fun y => (w, y)
  | 1 => (fs.lookup ("tall" : Str)).map fun y => (w, y)
  | 2 => (fs.lookup ("at" : Str)).map fun y => (w, y)
  | 3 => (fs.lookup ("row" : Str)).map fun y => (w, y)
  | 4 => (fs.lookup ("at" : Str)).bind fun y => (fs.lookup ("kind" : Str)).map fun z => (w, .tup [y, z])
  | 5 => (fs.lookup ("by" : Str)).map fun y => (w, y)
  | 6 => (fs.lookup ("name" : Str)).map fun y => (w, y)
  | 7 => some (w, .non)
  | _ => none
def mPair (kn : List Str) (m : Env → R (BV × Env)) : Env → R (D × D) := fun Γ => match mFz1 m (hide Γ) with
  | .ok x => .ok (.str "told", x.1)
  | .exc c fs => if kn.contains c = true then (match whyP fs (whyIx c) with
    | some p => .ok p
    | none => .bad) else .bad
  | .bad => .bad
def mWhy (kn : List Str) (m : Env → R (BV × Env)) : Env → R (BV × Env) := fun Γ => (mPair kn m Γ).bind fun p => .ok (.v (.tup [p.1, p.2]), Γ)
def mWord (kn : List Str) (m : Env → R (BV × Env)) : Env → R (BV × Env) := fun Γ => (mPair kn m Γ).bind fun p => .ok (.v p.1, Γ)
structure WhyK (K : PySem.W.Frag) (mg : Str → Option Value) (kn : List Str) : Prop where
  g : ∀ c ∈ kn, mg c = some (.ref (He.ga K c))
  f : ∀ c ∈ kn, WhyF K (He.ga K c) (whyIx c)
  n : ∀ c ∈ kn, ∀ x ∈ (["part", "tall", "at", "row", "kind", "by", "name"] : List Str), PySem.W.findIn K (.ref (He.ga K c)) x = some none
section
variable {K : PySem.W.Frag} {mg : Str → Option Value} {a0 : Addr} {G F H : Hp} {Γ : Env} {σ : L2.St} {W : WX}
theorem Rel.hide (r : Rel K a0 G Γ σ H F) : ∃ G', Ex G G' ∧ Rel K a0 G' (Rg.hide Γ) σ H F ∧ ∀ F' H', Ex F F' → Wd K F' G' H' → Rel K a0 G Γ σ H' F' := by
  obtain ⟨G', eG, w, back, _⟩ := r.split
  refine ⟨G', eG, ?_, back⟩
  obtain ⟨O, ad, x⟩ := r
  have no : ∀ i xs, gt (Rg.hide Γ) i ≠ .o xs := fun i xs q => by
    rw [gt_hide] at q
    cases h : gt Γ i <;> rw [h] at q <;> cases q
  refine ⟨fun _ => none, fun _ => 0, ⟨w, fun _ _ h => (by cases h), fun _ => .inr rfl, fun _ => .inr rfl, fun i d q => ?_, fun i xs q => absurd q (no i xs), fun i j xs ys q => absurd q (no i xs), fun xs q => absurd q (no 0 xs), by rw [← x.len]; exact List.length_map _, fun _ _ h => (by cases h)⟩⟩
  rw [gt_hide] at q
  cases h : gt Γ i with
  | no => rw [h] at q; cases q
  | o xs => rw [h] at q; cases q
  | v e => rw [h] at q; cases q; exact x.v i d h
theorem FsA.look {x : Str} {d : D} : ∀ {gs : List (Str × V)} {fs : List (Str × D)}, FsA K F gs fs → fs.lookup x = some d → ∃ v, gs.lookup x = some v ∧ Rp K F v d
  | _, _, .nil, h => by cases h
  | _, _, .cons (n := n) (v := v) (d := d') h a, e => by
    simp only [List.lookup_cons] at e ⊢
    cases q : (x == n) with
    | true => rw [q] at e; cases e; exact ⟨v, rfl, h⟩
    | false => rw [q] at e; exact FsA.look a e
theorem whyX_of {C : Addr} {gs : List (Str × V)} {fs : List (Str × D)} {j : Nat} {p : D × D} {Q : V → V → Hp → Prop} (r : Rel K a0 G Γ σ H F) (hf : FsA K F gs fs) (hp : whyP fs j = some p) (hn : ∀ x ∈ (["part", "tall", "at", "row", "kind", "by", "name"] : List Str), PySem.W.findIn K (.ref C) x = some none)
    (hQ : ∀ v u H' F', Ex F F' → Rel K a0 G Γ σ H' F' → Rp K F' v p.1 → Rp K F' u p.2 → Q v u H') : WhyX K C gs H Q j := by
  unfold whyP at hp
  cases hw : fs.lookup ("word" : Str) with
  | none => rw [hw] at hp; cases hp
  | some w =>
    rw [hw, Option.bind_some] at hp
    obtain ⟨vw, kw, rw'⟩ := hf.look hw
    have one : ∀ (f : Str) (y : D), ([some "part", some "tall", some "at", some "row", none, some "by", some "name"] : List (Option Str))[j]? = some (some f) → f ∈ (["part", "tall", "at", "row", "kind", "by", "name"] : List Str) → fs.lookup f = some y → p = (w, y) → WhyX K C gs H Q j := fun f y h1 h2 h3 h4 => by
      obtain ⟨vy, ky, ry⟩ := hf.look h3
      subst h4
      exact .one h1 kw ky (hn f h2) (hQ vw vy H F (Ex.refl F) r rw' ry)
    have step : ∀ {f : Str} {q : Option D}, fs.lookup f = q → (q.map fun y => (w, y)) = some p → ∃ y, fs.lookup f = some y ∧ p = (w, y) := fun {f q} h1 h2 => by
      cases q with
      | none => cases h2
      | some y => cases h2; exact ⟨y, h1, rfl⟩
    match j, hp, one with
    | 0, hp, one => obtain ⟨y, h1, h2⟩ := step rfl hp; exact one _ y rfl (by decide) h1 h2
    | 1, hp, one => obtain ⟨y, h1, h2⟩ := step rfl hp; exact one _ y rfl (by decide) h1 h2
    | 2, hp, one => obtain ⟨y, h1, h2⟩ := step rfl hp; exact one _ y rfl (by decide) h1 h2
    | 3, hp, one => obtain ⟨y, h1, h2⟩ := step rfl hp; exact one _ y rfl (by decide) h1 h2
    | 5, hp, one => obtain ⟨y, h1, h2⟩ := step rfl hp; exact one _ y rfl (by decide) h1 h2
    | 6, hp, one => obtain ⟨y, h1, h2⟩ := step rfl hp; exact one _ y rfl (by decide) h1 h2
    | 7, hp, _ => cases hp; exact .non kw (hQ vw .non H F (Ex.refl F) r rw' .non)
    | 4, hp, _ =>
      cases h1 : fs.lookup ("at" : Str) with
      | none => simp only [h1] at hp; cases hp
      | some y =>
        cases h2 : fs.lookup ("kind" : Str) with
        | none => simp only [h1, h2, Option.bind_some] at hp; cases hp
        | some z =>
          simp only [h1, h2, Option.bind_some] at hp
          cases hp
          obtain ⟨vy, ky, ry⟩ := hf.look h1
          obtain ⟨vz, kz, rz⟩ := hf.look h2
          refine .two kw ky kz (hn _ (by decide)) (hn _ (by decide)) fun q hq => ?_
          obtain ⟨e2, r2⟩ := r.newF (o := .tup [vy, vz]) hq
          exact hQ vw (.ref q) _ _ e2 r2 (rw'.mono e2) (.tup (.inl (.inl upd_same)) (.cons (ry.mono e2) (.cons (rz.mono e2) .nil)))
    | j + 8, hp, _ => cases hp
theorem sdX_pair {kn : List Str} {m : Env → R (BV × Env)} {Q : V → V → Hp → Prop} (N : WhyK K mg kn) (r : Rel K a0 G Γ σ H F)
    (hk : OkG K mg G F W (fun p => ∀ v u H' F', Ex F F' → Rel K a0 G Γ σ H' F' → Rp K F' v p.1 → Rp K F' u p.2 → Q v u H') (mPair kn m Γ)) : TPair K Q (fun E H' Q' => tmX K mg (WE E) m σ H' Q') H := by
  obtain ⟨G', eG, rh, back⟩ := r.hide
  have sd : ∀ E, SdX K mg (WE E) (tmX K mg (WE E) m) m := fun E a0 G Γ σ H F Q r h => ⟨a0, G, Γ, F, r, h⟩
  refine sdX_fz (sd _) rh ?_
  unfold mPair at hk
  cases q : mFz1 m (Rg.hide Γ) with
  | bad => rw [q] at hk; exact hk.elim
  | ok x =>
    rw [q] at hk
    exact fun v H' F' e r' hv => hk (.str "told") v H' F' e (back F' H' e r'.wd) (.str _) hv
  | exc c fs =>
    rw [q] at hk
    dsimp only at hk
    split at hk
    · rename_i hc
      have hc : c ∈ kn := by simpa using hc
      cases q2 : whyP fs (whyIx c) with
      | none => rw [q2] at hk; exact hk.elim
      | some p =>
        rw [q2] at hk
        intro ca dd τ H' F' e hx
        obtain ⟨wd, hg, gs, hd, hfs⟩ := hx
        have eq : ca = He.ga K c := by
          rw [N.g c hc] at hg
          exact (Value.ref.inj (Option.some.inj hg)).symm
        subst eq
        exact ⟨_, dd, gs, whyIx c, rfl, rfl, hd, N.f c hc, whyX_of (back F' H' e wd) hfs q2 (N.n c hc) fun v u H2 F2 e2 r2 => hk v u H2 F2 (Ex.trans e e2) r2⟩
    · exact hk.elim
end
section
variable {X : Cx} {W : WX} {k : Nat} {g : Addr} {b : LamB} {kn : List Str} {m : Env → R (BV × Env)} {p lpos pos : Pos}
theorem sx_why (Gv : Gives X.prog X.w X.K X.mg X.base k 2 g (TWhy X.K)) (N : WhyK X.K X.mg kn) (hr : Room (k + 2) X.A) (hg : Gl X "_law_why") (hm : X.mg "_law_why" = some (.ref g)) (hk : PySem.W.keepIn X.K (.ref g) = true)
    (M : Mkr X) (hq : X.env.qual ++ "<lambda>" = b.qual) (L : LamS X.env.scope b.scope) (hdef : defaultsOf b.params X.env = ([], [])) (hbind : ∀ (q : Str) (cl : Cells) (pm cv ctv : Value), bindArgs (PySem.W.kla_fn "<lambda>" q b.params b.body b.scope cl pm cv ctv) ⟨[], []⟩ = pure [])
    (hbody : ∀ (A : Around) (outer : List PySem.Env) (s : Shared) (H : Hp) (E : XK) (f c : Addr), Room k (A.deeper (lamEnv X b.scope s.heap.objs.size f c)) → SX (lamCx X A outer s H E b.scope f c) (WE E) b.body m) :
    SX X W (.Call (.Name "_law_why" p) [.Lambda b.params b.body b.scope lpos] [] pos) (mWhy kn m) := by
  refine ⟨_, pe_giv (tb := fun E => tmX X.K X.mg (WE E) m) Gv hr hg hm hk M hq L hdef hbind (fun A outer s H E f c hr' => (hbody A outer s H E f c hr').can) (by decide), fun a0 G Γ σ H F Q r h => ⟨r.wd.tb.t, fun f c H1 e T1 h0 h1 h2 => ?_⟩⟩
  obtain ⟨F1, eF, r1, _, _⟩ := r.lam e T1 h0 h1 h2
  refine sdX_pair N r1 (okG_mono eF (okG_bind h fun p _ hp => hp) fun p _ hp v u H' F' e' r' hv hu q hq => ?_)
  obtain ⟨e2, r2⟩ := r'.newF (o := .tup [v, u]) hq
  exact hp (.ref q) _ _ (Ex.trans eF (Ex.trans e' e2)) r2 (.tup (.inl (.inl upd_same)) (.cons (hv.mono e2) (.cons (hu.mono e2) .nil)))
theorem sx_word (Gv : Gives X.prog X.w X.K X.mg X.base k 3 g (TWord X.K)) (N : WhyK X.K X.mg kn) (hr : Room (k + 3) X.A) (hg : Gl X "_law_word") (hm : X.mg "_law_word" = some (.ref g)) (hk : PySem.W.keepIn X.K (.ref g) = true)
    (M : Mkr X) (hq : X.env.qual ++ "<lambda>" = b.qual) (L : LamS X.env.scope b.scope) (hdef : defaultsOf b.params X.env = ([], [])) (hbind : ∀ (q : Str) (cl : Cells) (pm cv ctv : Value), bindArgs (PySem.W.kla_fn "<lambda>" q b.params b.body b.scope cl pm cv ctv) ⟨[], []⟩ = pure [])
    (hbody : ∀ (A : Around) (outer : List PySem.Env) (s : Shared) (H : Hp) (E : XK) (f c : Addr), Room k (A.deeper (lamEnv X b.scope s.heap.objs.size f c)) → SX (lamCx X A outer s H E b.scope f c) (WE E) b.body m) :
    SX X W (.Call (.Name "_law_word" p) [.Lambda b.params b.body b.scope lpos] [] pos) (mWord kn m) := by
  refine ⟨_, pe_giv (tb := fun E => tmX X.K X.mg (WE E) m) Gv hr hg hm hk M hq L hdef hbind (fun A outer s H E f c hr' => (hbody A outer s H E f c hr').can) (by decide), fun a0 G Γ σ H F Q r h => ⟨r.wd.tb.t, fun f c H1 e T1 h0 h1 h2 => ?_⟩⟩
  obtain ⟨F1, eF, r1, _, _⟩ := r.lam e T1 h0 h1 h2
  refine sdX_pair N r1 (okG_mono eF (okG_bind h fun p _ hp => hp) fun p _ hp v u H' F' e' r' hv hu q hq => ?_)
  obtain ⟨e2, r2⟩ := r'.newF (o := .tup [v, u]) hq
  exact .inr (.inl ⟨q, [v, u], 0, v, rfl, rfl, .inl (.inl upd_same), rfl, hp v _ _ (Ex.trans eF (Ex.trans e' e2)) r2 (hv.mono e2)⟩)
theorem sx_why' {params : Arguments} {body : Expr} {scope : Scope} (Gv : Gives X.prog X.w X.K X.mg X.base k 2 g (TWhy X.K)) (N : WhyK X.K X.mg kn) (hr : Room (k + 2) X.A) (hg : Gl X "_law_why") (hm : X.mg "_law_why" = some (.ref g)) (hk : PySem.W.keepIn X.K (.ref g) = true)
    (M : Mkr X) (L : LamS X.env.scope scope) (hbody : ∀ (A : Around) (outer : List PySem.Env) (s : Shared) (H : Hp) (E : XK) (f c : Addr), Room k (A.deeper (lamEnv X scope s.heap.objs.size f c)) → SX (lamCx X A outer s H E scope f c) (WE E) body m)
    (hdef : defaultsOf params X.env = ([], []) := by rfl) (hbind : ∀ (q : Str) (cl : Cells) (pm cv ctv : Value), bindArgs (PySem.W.kla_fn "<lambda>" q params body scope cl pm cv ctv) ⟨[], []⟩ = pure [] := by intros; rfl) :
    SX X W (.Call (.Name "_law_why" p) [.Lambda params body scope lpos] [] pos) (mWhy kn m) := sx_why (b := ⟨params, body, scope, X.env.qual ++ "<lambda>"⟩) Gv N hr hg hm hk M rfl L hdef hbind hbody
theorem sx_word' {params : Arguments} {body : Expr} {scope : Scope} (Gv : Gives X.prog X.w X.K X.mg X.base k 3 g (TWord X.K)) (N : WhyK X.K X.mg kn) (hr : Room (k + 3) X.A) (hg : Gl X "_law_word") (hm : X.mg "_law_word" = some (.ref g)) (hk : PySem.W.keepIn X.K (.ref g) = true)
    (M : Mkr X) (L : LamS X.env.scope scope) (hbody : ∀ (A : Around) (outer : List PySem.Env) (s : Shared) (H : Hp) (E : XK) (f c : Addr), Room k (A.deeper (lamEnv X scope s.heap.objs.size f c)) → SX (lamCx X A outer s H E scope f c) (WE E) body m)
    (hdef : defaultsOf params X.env = ([], []) := by rfl) (hbind : ∀ (q : Str) (cl : Cells) (pm cv ctv : Value), bindArgs (PySem.W.kla_fn "<lambda>" q params body scope cl pm cv ctv) ⟨[], []⟩ = pure [] := by intros; rfl) :
    SX X W (.Call (.Name "_law_word" p) [.Lambda params body scope lpos] [] pos) (mWord kn m) := sx_word (b := ⟨params, body, scope, X.env.qual ++ "<lambda>"⟩) Gv N hr hg hm hk M rfl L hdef hbind hbody
end
end Rg
namespace Rg
def iniS : PySem.Stmt → PySem.Stmt
  | .ClassDef _ _ _ body _ _ _ _ _ _ _ => body.getD 0 (.Pass ⟨0, 0, 0, 0⟩)
  | s => s
open PySem PySem.Spec PyProof.Rows L2 LamX
def spIni0 (K : PySem.W.Frag) : Sp := fun vs H Q _ => ∃ (a C : Addr) (v : V), vs = [.ref a, v] ∧ OexC K C ∧ PySem.W.findIn K (.ref C) "word" = some none ∧ H a = some (exo a C none) ∧
  ∀ dx H', H dx = none → dx ≠ a → H' a = some (exo a C (some dx)) → H' dx = some (exd dx [("word", v)]) → (∀ b, b ≠ a → b ≠ dx → H' b = H b) → Q .non H'
def flds (ks : List Str) (vs : List V) (c : Str) : List (Str × V) := (ks.zip vs).reverse ++ [(("word" : Str), V.str c)]
def spIni (K : PySem.W.Frag) (C : Addr) (ks : List Str) (c : Str) : Sp := fun vs H Q _ => ∃ (a : Addr) (ws : List V), vs = .ref a :: ws ∧ ws.length = ks.length ∧ H a = some (exo a C none) ∧
  ∀ dx H', H dx = none → dx ≠ a → H' a = some (exo a C (some dx)) → H' dx = some (exd dx (flds ks ws c)) → (∀ b, b ≠ a → b ≠ dx → H' b = H b) → Q .non H'
def tBini (sp : Sp) (ta : TA) : TE := fun σ H Q => ta σ H fun vs H1 => sp vs H1 Q (fun _ _ _ => False)
theorem pe_bini {X : Cx} {CX : CXT} {B : Str} {CB f0 : Addr} {k : Nat} {fd : FuncData} {ps : List Str} {sp : Sp} {e : Expr} {es : List Expr} {ta : TA} {p1 p2 pos : Pos} {pl : Sem Bool} (cr : ClX.CRead X.K CB (.type "type")) (cv : ClX.CVal X.K CB (.type "type") "__init__" (.ref f0) (.ref f0)) (F0 : FnOk X.prog X.w X.K X.mg X.base CX k f0 fd ps sp)
    (hr : Room k X.A) (hb : Binds X.K fd ps []) (hk : PySem.W.keepIn X.K (.ref f0) = true) (hx : Passes CX X (fun _ _ _ => False)) (hg : Gl X B) (hm : X.mg B = some (.ref CB)) (ha : PA X (e :: es) ta)
    (hc : eval (.Call (.Attribute (.Name B p1) "__init__" p2) (e :: es) [] pos) X.env = (do
      let ov ← eval (.Name B p1) X.env
      standAt p2.atName
      let (f, first) ← holding [ov] (getMethod ov "__init__" pl)
      callWith pos f first (backTo pos (starEach (e :: es) X.env)) (backToKw pos (keywordEach [] X.env))) := by rfl)
    (hdb : (B == ("__debug__" : Str)) = false := by decide) (he : starEach (e :: es) X.env = (false, eval e X.env) :: starEach es X.env := by rfl) (hpl : (backTo pos (starEach es X.env)).any (·.1) = false := by rfl) :
    PE X (.Call (.Attribute (.Name B p1) "__init__" p2) (e :: es) [] pos) (tBini sp ta) := by
  constructor
  intro pins s σ H Q I h
  refine PySem.W.methodCall_KW (ld_glob I hg hm ?_ hdb) hc
  refine PySem.W.method_cls I.kIn cr.ga (ClX.getcval_ok I cr cv fun s1 I1 => ?_)
  refine PySem.W.callWith_K (h₀ := X.base) (first := []) I.ok.mod.kin hk (thn (ha.run pos pins s1 σ H _ I1 h) fun us s2 ⟨vs, H2, I2, r, q⟩ => ⟨I2.kIn, ?_⟩) he hpl
  exact run_fn (dvs := []) (ds := []) F0 hr hb .nil hx I2 r (by rw [List.append_nil]; exact q)
section
variable {P : Program} {w : World} {K : PySem.W.Frag} {mg : Str → Option Value} {base : Heap} {q c k1 k2 : Str} {params : Arguments} {body : List Stmt} {scope : Scope} {dvs : List V} {kws : List (Str × V)} {f C : Addr} {fd : FuncData} {n : Nat}
theorem ini0_ok (F : FunD K "__init__" q params body scope dvs kws f fd) (S : FnScope ["self", "word"] ["self", "word"] scope)
    (hb : ∀ (cdv : Value) (A : Around) (outer : List PySem.Env) (s : Shared) (H : Hp) (E : XK), PSs (cxOf (L2.CX P w) P w K mg base ["self", "word"] q scope f cdv A outer s H E) body (tOst K "word" (tVar 0) (tVar 1))) : FnOk P w K mg base (L2.CX P w) 1 f fd ["self", "word"] (spIni0 K) := by
  refine F.ok S (fun vs H Q E h => ?_) (fun cdv A outer s H vs Q E hr h => ⟨_, hb cdv A outer s H E, ?_⟩)
  · obtain ⟨a, C, v, rfl, _⟩ := h; rfl
  · obtain ⟨a, C, v, rfl, T, hn, ha, hq⟩ := h
    refine ⟨v, rfl, .ref a, rfl, a, C, rfl, T, hn, .inl ⟨ha, fun dx hd hne => ?_⟩⟩
    refine hq dx _ hd hne upd_same (by rw [upd_ne hne, upd_same]) fun b h1 h2 => by rw [upd_ne h1, upd_ne h2]
structure Sub (K : PySem.W.Frag) (C : Addr) (ks : List Str) : Prop where
  x : OexC K C
  w : PySem.W.findIn K (.ref C) "word" = some none
  n : ∀ k ∈ ks, PySem.W.findIn K (.ref C) k = some none
theorem ini_ok0 (F : FunD K "__init__" q params body scope [] [] f fd) (S : FnScope ["self"] ["self"] scope) (T : Sub K C [])
    (hb : ∀ (cdv : Value) (A : Around) (outer : List PySem.Env) (s : Shared) (H : Hp) (E : XK), Room n (A.deeper (envOfC q scope s.heap.objs.size f cdv)) → PSs (cxOf (L2.CX P w) P w K mg base ["self"] q scope f cdv A outer s H E) body (tDrop (tBini (spIni0 K) (tCons (tVar 0) (tCons (tC (.str c)) tNil))))) :
    FnOk P w K mg base (L2.CX P w) (n + 1) f fd ["self"] (spIni K C [] c) := by
  refine F.ok S (fun vs H Q E h => ?_) (fun cdv A outer s H vs Q E hr h => ⟨_, hb cdv A outer s H E hr, ?_⟩)
  · obtain ⟨a, ws, rfl, hl, _⟩ := h; rw [List.length_cons, hl]; rfl
  · obtain ⟨a, ws, rfl, hl, ha, hq⟩ := h
    have : ws = [] := List.eq_nil_of_length_eq_zero hl
    subst this
    exact ⟨.ref a, rfl, a, C, .str c, rfl, T.x, T.w, ha, fun dx H' h1 h2 h3 h4 h5 => hq dx H' h1 h2 h3 h4 h5⟩
theorem ini_ok1 (F : FunD K "__init__" q params body scope [] [] f fd) (S : FnScope ["self", k1] ["self", k1] scope) (T : Sub K C [k1])
    (hb : ∀ (cdv : Value) (A : Around) (outer : List PySem.Env) (s : Shared) (H : Hp) (E : XK), Room n (A.deeper (envOfC q scope s.heap.objs.size f cdv)) → PSs (cxOf (L2.CX P w) P w K mg base ["self", k1] q scope f cdv A outer s H E) body (tSeq (tDrop (tBini (spIni0 K) (tCons (tVar 0) (tCons (tC (.str c)) tNil)))) (tOst K k1 (tVar 0) (tVar 1)))) :
    FnOk P w K mg base (L2.CX P w) (n + 1) f fd ["self", k1] (spIni K C [k1] c) := by
  refine F.ok S (fun vs H Q E h => ?_) (fun cdv A outer s H vs Q E hr h => ⟨_, hb cdv A outer s H E hr, ?_⟩)
  · obtain ⟨a, ws, rfl, hl, _⟩ := h; rw [List.length_cons, hl]; rfl
  · obtain ⟨a, ws, rfl, hl, ha, hq⟩ := h
    match ws, hl with
    | [v], _ =>
      refine ⟨.ref a, rfl, a, C, .str c, rfl, T.x, T.w, ha, fun dx H' h1 h2 h3 h4 h5 => ?_⟩
      refine ⟨v, rfl, .ref a, rfl, a, C, rfl, T.x, T.n k1 (List.mem_cons_self ..), .inr ⟨dx, _, h3, h4, by simp, ?_⟩⟩
      exact hq dx _ h1 h2 (by rw [upd_ne h2.symm]; exact h3) upd_same fun b n1 n2 => by rw [upd_ne n2]; exact h5 b n1 n2
theorem ini_ok2 (F : FunD K "__init__" q params body scope [] [] f fd) (S : FnScope ["self", k1, k2] ["self", k1, k2] scope) (T : Sub K C [k1, k2])
    (hb : ∀ (cdv : Value) (A : Around) (outer : List PySem.Env) (s : Shared) (H : Hp) (E : XK), Room n (A.deeper (envOfC q scope s.heap.objs.size f cdv)) → PSs (cxOf (L2.CX P w) P w K mg base ["self", k1, k2] q scope f cdv A outer s H E) body (tSeq (tDrop (tBini (spIni0 K) (tCons (tVar 0) (tCons (tC (.str c)) tNil)))) (tSeq (tOst K k1 (tVar 0) (tVar 1)) (tOst K k2 (tVar 0) (tVar 2))))) :
    FnOk P w K mg base (L2.CX P w) (n + 1) f fd ["self", k1, k2] (spIni K C [k1, k2] c) := by
  refine F.ok S (fun vs H Q E h => ?_) (fun cdv A outer s H vs Q E hr h => ⟨_, hb cdv A outer s H E hr, ?_⟩)
  · obtain ⟨a, ws, rfl, hl, _⟩ := h; rw [List.length_cons, hl]; rfl
  · obtain ⟨a, ws, rfl, hl, ha, hq⟩ := h
    match ws, hl with
    | [v, u], _ =>
      refine ⟨.ref a, rfl, a, C, .str c, rfl, T.x, T.w, ha, fun dx H' h1 h2 h3 h4 h5 => ?_⟩
      refine ⟨v, rfl, .ref a, rfl, a, C, rfl, T.x, T.n k1 (List.mem_cons_self ..), .inr ⟨dx, _, h3, h4, by simp, ?_⟩⟩
      refine ⟨u, rfl, .ref a, rfl, a, C, rfl, T.x, T.n k2 (List.mem_cons_of_mem _ (List.mem_cons_self ..)), .inr ⟨dx, _, by rw [upd_ne h2.symm]; exact h3, upd_same, by simp, ?_⟩⟩
      exact hq dx _ h1 h2 (by rw [upd_ne h2.symm, upd_ne h2.symm]; exact h3) upd_same fun b n1 n2 => by rw [upd_ne n2, upd_ne n2]; exact h5 b n1 n2
end
theorem pmk0 {X : Cx} {CX : CXT} {x : Str} {C fI : Addr} {k : Nat} {fd : FuncData} {ps : List Str} {sp : Sp} {p pos : Pos} (T : OexC X.K C) (iC : PySem.W.findIn X.K (.ref C) "__init__" = some (some (.ref fI))) (tI : PySem.W.typeIn X.K (.ref fI) = some (.type "function"))
    (F1 : FnOk X.prog X.w X.K X.mg X.base CX k fI fd ps sp) (hr : Room (k + 1) X.A) (hb : Binds X.K fd ps []) (hx : Passes CX X (fun _ _ _ => False)) (hg : Gl X x) (hm : X.mg x = some (.ref C)) (hdb : (x == ("__debug__" : Str)) = false := by decide) :
    PMk X (.Call (.Name x p) [] [] pos) (fun σ H Q => ∀ a, H a = none → sp [.ref a] (upd H a (exo a C none)) (fun v H2 => v = .non ∧ ∃ (d : Addr) (fs : List (Str × V)), H2 a = some (exo a C (some d)) ∧ H2 d = some (exd d fs) ∧ H d = none ∧ Q (.ref C) (some d) (upd (del H2 a) d (.xd fs))) (fun _ _ _ => False)) := by
  intro pins s σ H Q I h
  obtain ⟨nm, q, N, bs, bm, sn, sub, ab, col, dd, k0, k1, k2, k3, k5, lC, hbm⟩ := T.cls
  refine wpAny_Call_Name_kw (ld_glob I hg hm (PySem.W.callWith_K0 (first := []) I.kIn T.kC ?_) hdb)
  show wpAny _ _ (call (.ref C) []) _ _ _
  obtain ⟨hp, g, dr, tk, os⟩ := s
  have up1 : hp.objs.size ≤ hp.objs.size + 1 := Nat.le_succ _
  have fresh : H (hp.objs.size + 1) = none := I.hok.fresh up1
  have keep : ∀ b o, hp.get? b = some o → ((hp.push (PySem.W.kdv_tup [])).push (PySem.HandSPX.excO C hp.objs.size)).get? b = some o := fun b o e => Heap.get?_push_of_some _ (Heap.get?_push_of_some _ e)
  have made : ((hp.push (PySem.W.kdv_tup [])).push (PySem.HandSPX.excO C hp.objs.size)).get? (hp.objs.size + 1) = some (PySem.HandSPX.excO C hp.objs.size) := by heap_get
  have J : Inv X pins σ (upd H (hp.objs.size + 1) (exo (hp.objs.size + 1) C none)) ⟨(hp.push (PySem.W.kdv_tup [])).push (PySem.HandSPX.excO C hp.objs.size), g, dr, tk, os⟩ := I.laid (t' := tk) keep up1 (exo_ok made)
  have len := F1.len _ _ _ _ (h _ fresh)
  refine wpAny_call (PySem.HandSPX.call_own F.excBase_ValueError (fun Y => PySem.HandSPX.refsVE_contains Y bm hbm) (I.kIn _ _ lC) (PySem.W.looks_findIn I.kIn iC) (fun self => PySem.W.bind_fn I.kIn self tI) (Nat.zero_le _)
    (codeAny_mono (F1.run _ X.stack _ _ ⟨[Value.ref (hp.objs.size + 1)], []⟩ [Value.ref (hp.objs.size + 1)] [V.ref (hp.objs.size + 1)] _ (fun _ _ _ => False) (hr.make C [] []) (J.env0.make C [] []) (by have := hb _ [Value.ref (hp.objs.size + 1)] J.kIn (by simpa using len); rwa [List.append_nil] at this) (.cons rfl .nil) (h _ fresh)) fun r s' res => ?_))
  cases r with
  | error er => exact hx pins σ _ _ er s' J res
  | ok fl =>
    cases fl with
    | ret u =>
      obtain ⟨v, H2, os2, bare2, un2, hok2, rv, ev, d, fs, ea, ed, hd1, q2⟩ := res
      subst ev
      obtain ⟨h2, g2, d2, t2, os'⟩ := s'
      exact ⟨rv, mk_end (raises_own T.exC T.tyC) I up1 keep un2 hok2 os2 bare2 ea ed hd1 q2⟩
    | next => exact False.elim res
    | brk => exact False.elim res
    | cont => exact False.elim res
def mRaise (c : Str) (ks : List Str) (ma : Env → R (List BV × Env)) : Env → R Fl := fun Γ => (mFzA ma Γ).bind fun y => if y.1.length = ks.length then .exc c ((ks.zip y.1).reverse ++ [(("word" : Str), D.str c)]) else .bad
section
variable {K : PySem.W.Frag} {F G H : Hp}
theorem FsA.append : ∀ {gs gs2 : List (Str × V)} {fs fs2 : List (Str × D)}, FsA K F gs fs → FsA K F gs2 fs2 → FsA K F (gs ++ gs2) (fs ++ fs2)
  | _, _, _, _, .nil, h => h
  | _, _, _, _, .cons h a, b => .cons h (FsA.append a b)
theorem FsA.reverse : ∀ {gs : List (Str × V)} {fs : List (Str × D)}, FsA K F gs fs → FsA K F gs.reverse fs.reverse
  | _, _, .nil => .nil
  | _, _, .cons h a => by simp only [List.reverse_cons]; exact (FsA.reverse a).append (.cons h .nil)
theorem FsA.zip : ∀ {ks : List Str} {vs : List V} {ds : List D}, RpA K F vs ds → FsA K F (ks.zip vs) (ks.zip ds)
  | [], _, _, _ => .nil
  | _ :: _, _, _, .nil => .nil
  | _ :: ks, _, _, .cons h a => .cons h (FsA.zip a)
theorem Wd.up {H' : Hp} (w : Wd K F G H) (e : Ex H H') : Wd K F G H' := ⟨Ex.trans w.f e, Ex.trans w.g e, w.d, w.tb.to (fun b o q _ => e b o q) w.tb.nf w.tb.ng⟩
theorem ex_made {a d C : Addr} {H' : Hp} {u : HO} (ha : H a = none) (hd : H d = none) (h : ∀ b, b ≠ a → b ≠ d → H' b = upd H a (exo a C none) b) : Ex H (upd (del H' a) d u) := fun b o q => by
  have n1 : b ≠ a := fun z => by rw [z, ha] at q; cases q
  have n2 : b ≠ d := fun z => by rw [z, hd] at q; cases q
  rw [upd_ne n2, del_ne n1, h b n1 n2, upd_ne n1]; exact q
end
structure XcOk (P : Program) (w : World) (K : PySem.W.Frag) (mg : Str → Option Value) (base : Heap) (k : Nat) (c : Str) (ks : List Str) : Prop where
  ex : ∃ (C fI : Addr) (fd : FuncData), mg c = some (.ref C) ∧ OexC K C ∧ PySem.W.findIn K (.ref C) "__init__" = some (some (.ref fI)) ∧ PySem.W.typeIn K (.ref fI) = some (.type "function") ∧ FnOk P w K mg base (L2.CX P w) k fI fd ("self" :: ks) (spIni K C ks c) ∧ Binds K fd ("self" :: ks) []
section
variable {X : Cx} {W : WX} {k : Nat} {c : Str} {ks : List Str} {e : Expr} {es : List Expr} {mas : Env → R (List BV × Env)} {p pos pos' : Pos}
theorem passesF (tk : Takes X W) : Passes (L2.CX X.prog X.w) X (fun _ _ _ => False) := passes_call tk fun _ _ _ _ z => z.elim
theorem ss_raise0 (hc : X.calm = true) (tk : Takes X W) (T : XcOk X.prog X.w X.K X.mg X.base k c []) (hr : Room (k + 1) X.A) (hg : Gl X c) (hdb : (c == ("__debug__" : Str)) = false := by decide) :
    SS X W (.Raise (some (.Call (.Name c p) [] [] pos')) none pos) (mRaise c [] mA0) := by
  obtain ⟨C, fI, fd, hm, T, h1, h2, h3, h4⟩ := T.ex
  refine ⟨_, ps_raise hc tk (pmk0 T h1 h2 h3 hr h4 (passesF tk) hg hm hdb), fun a0 G Γ σ H F E r h a ha => ⟨a, [], rfl, rfl, upd_same, fun dx H' q1 q2 q3 q4 q5 => ?_⟩⟩
  rw [upd_ne q2] at q1
  refine ⟨rfl, dx, _, q3, q4, q1, ?_⟩
  have h : OkG X.K X.mg G F W (PF X.K a0 G F E) (.exc c [(("word" : Str), D.str c)]) := h
  exact h C dx σ _ F (Ex.refl F) ⟨r.wd.up (ex_made ha q1 q5), hm, _, upd_same, .cons (.str c) .nil⟩
theorem ss_raise (hc : X.calm = true) (tk : Takes X W) (T : XcOk X.prog X.w X.K X.mg X.base k c ks) (hr : Room (k + 1) X.A) (hg : Gl X c) (ha : SA X W (e :: es) mas) (hks : ks.length ≤ 1000 := by decide) (hdb : (c == ("__debug__" : Str)) = false := by decide)
    (he : starEach (e :: es) X.env = (false, eval e X.env) :: starEach es X.env := by rfl) (hpl : (backTo pos' (starEach es X.env)).any (·.1) = false := by rfl) :
    SS X W (.Raise (some (.Call (.Name c p) (e :: es) [] pos')) none pos) (mRaise c ks mas) := by
  obtain ⟨C, fI, fd, hm, T, h1, h2, h3, h4⟩ := T.ex
  obtain ⟨t, pt, st⟩ := ha
  refine ⟨_, ps_raise hc tk (pmk_oex (dvs := []) (ds := []) T h1 h2 h3 hr h4 .nil (passesF tk) hg hm pt hdb he hpl), fun a0 G Γ σ H F E r h => ?_⟩
  refine sdA_fz st r (okG_bind h fun y _ hy vs H1 F1 e1 r1 hv => ?_)
  split at hy
  · rename_i hl
    refine ⟨by rw [hv.length, hl]; exact hks, fun a ha => ⟨a, vs, by rw [List.append_nil], by rw [hv.length, hl], upd_same, fun dx H' q1 q2 q3 q4 q5 => ?_⟩⟩
    rw [upd_ne q2] at q1
    refine ⟨rfl, dx, _, q3, q4, q1, ?_⟩
    exact hy C dx σ _ F1 e1 ⟨r1.wd.up (ex_made ha q1 q5), hm, _, upd_same, (FsA.zip hv).reverse.append (.cons (.str c) .nil)⟩
  · exact hy.elim
end
end Rg
namespace Rg
open PySem PySem.Spec PyProof.Rows L2 LamX
def asY (g : Addr → Option Obj) : Nat → List Addr
  | 0 => [mainGlobals, cStatics]
  | n + 1 => He.growD g (asY g n)
structure SaysY (fn : List He.DefD) (tf : List He.Defn) (ex : PySem.W.Frag → Bool) (h : Heap) (K : PySem.W.Frag) : Prop where
  d : ∀ d ∈ fn, ∃ fd, FunD K d.name d.qual d.params d.body d.scope (d.dvs K) (d.kws K) (He.fAd K d.at_) fd
  more : ex K = true
  hd : ∀ p ∈ tf, PySem.W.codeHdIn K (He.cT K p).1 (He.cT K p).2 = true
  out : ∀ p ∈ tf, K.lookup (He.cT K p).2 = none
  empty : ∀ p ∈ tf, h.get? (He.cT K p).2 = some { cls := .none, data := .fields #[] }
abbrev AlY : Type := List He.FnW × Bool
def obsK (fn : List He.DefD) (tf : List He.Defn) (ex : PySem.W.Frag → Bool) (g : Addr → Option Obj) (K : PySem.W.Frag) : AlY := (fn.map fun d => He.fnW K d.at_, (fn.all fun d => d.ok K) && (ex K && He.tabsB g tf K))
def obsY (n : Nat) (fn : List He.DefD) (tf : List He.Defn) (ex : PySem.W.Frag → Bool) (g : Addr → Option Obj) : AlY := obsK fn tf ex g (He.frT g (asY g n))
def valY (fn : List He.DefD) : AlY := (fn.map He.DefD.val, true)
theorem saysY_of {n : Nat} {fn : List He.DefD} {tf : List He.Defn} {ex : PySem.W.Frag → Bool} {h : Heap} (e : obsY n fn tf ex h.get? = valY fn) : SaysY fn tf ex h (He.frT h.get? (asY h.get? n)) := by
  unfold obsY at e
  generalize hK : He.frT h.get? (asY h.get? n) = K at e
  have e1 : (fn.map fun d => He.fnW K d.at_) = fn.map He.DefD.val := congrArg Prod.fst e
  have e2 : ((fn.all fun d => d.ok K) && (ex K && He.tabsB h.get? tf K)) = true := congrArg Prod.snd e
  obtain ⟨h1, h2⟩ := He.ba e2
  obtain ⟨h3, h4⟩ := He.ba h2
  have tab : ∀ p ∈ tf, PySem.W.codeHdIn K (He.cT K p).1 (He.cT K p).2 = true ∧ ∃ o, h.get? (He.cT K p).2 = some o ∧ He.emptyTab o = true := fun p hp => by
    obtain ⟨y1, y2⟩ := He.ba (List.all_eq_true.mp h4 p hp)
    refine ⟨y1, ?_⟩
    cases q : h.get? (He.cT K p).2 with
    | none => rw [q] at y2; cases y2
    | some o => rw [q] at y2; exact ⟨o, rfl, y2⟩
  refine ⟨fun d hd => ?_, h3, fun p hp => (tab p hp).1, fun p hp => ?_, fun p hp => ?_⟩
  · obtain ⟨i, hi, y⟩ := List.mem_iff_getElem.mp hd
    have e3 : (fn.map fun d => He.fnW K d.at_)[i]? = (fn.map He.DefD.val)[i]? := by rw [e1]
    rw [List.getElem?_map, List.getElem?_map, List.getElem?_eq_getElem hi, y] at e3
    exact He.DefD.funD (Option.some.inj e3) (List.all_eq_true.mp h1 d hd)
  · obtain ⟨_, o, y1, y2⟩ := tab p hp
    have := He.frT_none (as := asY h.get? n) y1 y2
    rwa [hK] at this
  · obtain ⟨_, o, y1, y2⟩ := tab p hp
    rw [y1, He.emptyTab_eq y2]
def hookY (n : Nat) (fn : List He.DefD) (tf : List He.Defn) (ex : PySem.W.Frag → Bool) : PySem.W.Hook where
  α := AlY
  obs := fun s => obsY n fn tf ex s.heap.get?
  val := fun _ => valY fn
  says := fun _ h => ∃ K : PySem.W.Frag, K.In h ∧ SaysY fn tf ex h K
  of := fun _ _ e => ⟨_, He.frT_in, saysY_of e⟩
  keeps := fun _ _ _ ⟨K, hK, c⟩ k => ⟨K, PySem.W.Frag.In.keeps hK k, ⟨c.d, c.more, c.hd, c.out, fun p hp => k _ _ (c.empty p hp)⟩⟩
theorem obsY_eq {n : Nat} {fn : List He.DefD} {tf : List He.Defn} {ex : PySem.W.Frag → Bool} {g : Addr → Option Obj} {s : Shared} (h : ∀ a, g a = s.heap.get? a) : obsY n fn tf ex g = (hookY n fn tf ex).obs s := by
  rw [show g = s.heap.get? from funext h]; rfl
def noatB (K : PySem.W.Frag) (C : Addr) (x : Str) : Bool := He.eqO (PySem.W.findIn K (.ref C) x) (some none)
def oexB (K : PySem.W.Frag) (C : Addr) : Bool := (match K.lookup C with
  | some ⟨.type t, _, .cls cd, sl⟩ => decide (t = "type") && (match cd.mro, sl.toList with
    | .ref C' :: bm, [_, _, _, _, some (.builtin n), _] => decide (C' = C) && (decide (n = "ValueError.__new__") && (!cd.hasDel && (cd.hasDict && HandSPX.refsVE bm)))
    | _, _ => false)
  | _ => false) && (He.eqO (PySem.W.findIn K (.ref C) "__setattr__") (some (some (.builtin "object.__setattr__"))) && (decide (PySem.W.subIn K (.ref C) (.type "BaseException") = some true) && (decide (PySem.W.typeIn K (.ref C) = some (.type "type")) && PySem.W.keepIn K (.ref C))))
theorem oexB_ok {K : PySem.W.Frag} {C : Addr} (h : oexB K C = true) : OexC K C := by
  obtain ⟨h1, h⟩ := He.ba h
  obtain ⟨h2, h⟩ := He.ba h
  obtain ⟨h3, h⟩ := He.ba h
  obtain ⟨h4, h5⟩ := He.ba h
  refine ⟨?_, He.eqO_ok h2, of_decide_eq_true h3, of_decide_eq_true h4, h5⟩
  split at h1
  · rename_i t dd cd sl lk
    obtain ⟨y1, y2⟩ := He.ba h1
    have y1 := of_decide_eq_true y1
    subst y1
    split at y2
    · rename_i C' bm k0 k1 k2 k3 n k5 e1 e2
      obtain ⟨z1, z⟩ := He.ba y2
      obtain ⟨z2, z⟩ := He.ba z
      obtain ⟨z3, z⟩ := He.ba z
      obtain ⟨z4, z5⟩ := He.ba z
      have z1 := of_decide_eq_true z1
      have z2 := of_decide_eq_true z2
      subst z1
      subst z2
      obtain ⟨nm, bs, mro, N, q, hdct, sn, sub, ab, col, del⟩ := cd
      dsimp only at e1 z3 z4
      have z3 : del = false := by simpa using z3
      subst e1
      subst z3
      subst z4
      have esl : sl = #[k0, k1, k2, k3, some (.builtin "ValueError.__new__"), k5] := Array.toList_inj.mp e2
      subst esl
      exact ⟨nm, q, N, bs, bm, sn, sub, ab, col, dd, k0, k1, k2, k3, k5, lk, z5⟩
    · cases y2
  · cases h1
def subB (K : PySem.W.Frag) (c : Str) (ks : List Str) : Bool := oexB K (He.ga K c) && (noatB K (He.ga K c) "word" && ks.all fun k => noatB K (He.ga K c) k)
theorem subB_ok {K : PySem.W.Frag} {c : Str} {ks : List Str} (h : subB K c ks = true) : Sub K (He.ga K c) ks := by
  obtain ⟨h1, h⟩ := He.ba h
  obtain ⟨h2, h3⟩ := He.ba h
  exact ⟨oexB_ok h1, He.eqO_ok h2, fun k hk => He.eqO_ok (List.all_eq_true.mp h3 k hk)⟩
def iniB (K : PySem.W.Frag) (c : Str) : Bool := He.eqO (PySem.W.findIn K (.ref (He.ga K c)) "__init__") (some (some (.ref (He.ma K (He.ga K c) "__init__")))) && decide (PySem.W.typeIn K (.ref (He.ma K (He.ga K c) "__init__")) = some (.type "function"))
theorem iniB_ok {K : PySem.W.Frag} {c : Str} (h : iniB K c = true) : PySem.W.findIn K (.ref (He.ga K c)) "__init__" = some (some (.ref (He.ma K (He.ga K c) "__init__"))) ∧ PySem.W.typeIn K (.ref (He.ma K (He.ga K c) "__init__")) = some (.type "function") :=
  ⟨He.eqO_ok (He.ba h).1, of_decide_eq_true (He.ba h).2⟩
def bseB (K : PySem.W.Frag) (B : Str) : Bool := PySem.W.readsIn K (He.ga K B) (.type "type") && (He.eqO (PySem.W.specialIn K (.ref (He.ga K B)) "__getattribute__") (some (some (.builtin "type.__getattribute__"))) && (match PySem.W.findCls K (.ref (He.ga K B)) (.type "type") "__init__" with
  | some (.val (.ref a)) => decide (a = He.ma K (He.ga K B) "__init__")
  | _ => false))
theorem bseB_ok {K : PySem.W.Frag} {B : Str} (h : bseB K B = true) : ClX.CRead K (He.ga K B) (.type "type") ∧ ClX.CVal K (He.ga K B) (.type "type") "__init__" (.ref (He.ma K (He.ga K B) "__init__")) (.ref (He.ma K (He.ga K B) "__init__")) := by
  obtain ⟨h1, h⟩ := He.ba h
  obtain ⟨h2, h3⟩ := He.ba h
  refine ⟨⟨h1, He.eqO_ok h2⟩, ⟨?_, rfl⟩⟩
  split at h3
  · rename_i a e
    rw [e, of_decide_eq_true h3]
  · cases h3
def whyB (K : PySem.W.Frag) (c : Str) : Bool := ((List.range 8).all fun i => decide (whyIx c < i) || (match whyNs[i]? with
  | some ns => decide (PySem.W.exmAny K (.ref (He.ga K c)) (whyCs K ns) = some (decide (i = whyIx c)))
  | none => false)) && (xfB K (He.ga K c) && (noatB K (He.ga K c) "word" && (["part", "tall", "at", "row", "kind", "by", "name"] : List Str).all fun k => noatB K (He.ga K c) k))
theorem whyIx_le (c : Str) : whyIx c ≤ 7 := by
  unfold whyIx
  repeat' split
  all_goals decide
theorem whyB_ok {K : PySem.W.Frag} {mg : Str → Option Value} {kn : List Str} (hg : ∀ c ∈ kn, mg c = some (.ref (He.ga K c))) (h : (kn.all fun c => whyB K c) = true) : WhyK K mg kn := by
  have key : ∀ c ∈ kn, WhyF K (He.ga K c) (whyIx c) ∧ ∀ x ∈ (["part", "tall", "at", "row", "kind", "by", "name"] : List Str), PySem.W.findIn K (.ref (He.ga K c)) x = some none := fun c hc => by
    obtain ⟨h1, h⟩ := He.ba (List.all_eq_true.mp h c hc)
    obtain ⟨h2, h⟩ := He.ba h
    obtain ⟨h3, h4⟩ := He.ba h
    have le := whyIx_le c
    have at_ : ∀ i ns, i ≤ whyIx c → whyNs[i]? = some ns → PySem.W.exmAny K (.ref (He.ga K c)) (whyCs K ns) = some (decide (i = whyIx c)) := fun i ns hi e => by
      have := List.all_eq_true.mp h1 i (List.mem_range.mpr (by omega))
      rw [decide_eq_false (by omega), Bool.false_or, e] at this
      exact of_decide_eq_true this
    refine ⟨⟨fun i ns hi e => ?_, fun ns e => ?_, xfB_ok h2, He.eqO_ok h3⟩, fun x hx => He.eqO_ok (List.all_eq_true.mp h4 x hx)⟩
    · rw [at_ i ns (Nat.le_of_lt hi) e, decide_eq_false (by omega)]
    · rw [at_ _ ns (Nat.le_refl _) e, decide_eq_true rfl]
  exact ⟨hg, fun c hc => (key c hc).1, fun c hc => (key c hc).2⟩
def tabsUn (K : PySem.W.Frag) : Bool := (tabsOf K).all fun p => (tabsOf K).all fun q => decide (p.1 ≠ q.1) || decide (p.2 = q.2)
theorem tabsUn_ok {K : PySem.W.Frag} (h : tabsUn K = true) : ∀ p ∈ tabsOf K, ∀ q ∈ tabsOf K, p.1 = q.1 → p.2 = q.2 := fun p hp q hq e => by
  have := List.all_eq_true.mp (List.all_eq_true.mp h p hp) q hq
  rw [decide_eq_false (by simpa using e), Bool.false_or] at this
  exact of_decide_eq_true this
def tabsIn (tf : List He.Defn) (K : PySem.W.Frag) : Bool := (tabsOf K).all fun t => tf.any fun p => decide ((He.cT K p).2 = t.1)
theorem tabs_start {tf : List He.Defn} {K : PySem.W.Frag} {H : Hp} (h : tabsIn tf K = true) (hH : ∀ p ∈ tf.map (He.cT K), H p.2 = some (.tbl #[])) : Tabs (tabsOf K) H := fun t ht => by
  obtain ⟨p, hp, e⟩ := List.any_eq_true.mp (List.all_eq_true.mp h t ht)
  have e := of_decide_eq_true e
  have := hH _ (List.mem_map.mpr ⟨p, hp, rfl⟩)
  rw [e] at this
  exact TabS.nil this
theorem mkr_of {P : Program} {w : World} {K : PySem.W.Frag} {mg : Str → Option Value} {base : Heap} {N : List Str} {qual : Str} {scope : Scope} {p : He.Defn} {oc : Value} {od : Option Addr} {osl : Array (Option Value)} {fd : FuncData} {f : Addr} {cdv : Value} {A : Around} {outer : List PySem.Env} {s : Shared} {H : Hp} {E : XK}
    (lk : K.lookup (He.fAd K p) = some ⟨oc, od, .func fd, osl⟩) (hc : fd.code = cdv) (hq : fd.qualname = qual) (hcd : PySem.W.codeIn K cdv qual = true) (tb : TabB base mg (He.cT K p).1 (He.cT K p).2) (hm : makers.contains qual = true) (un : tabsUn K = true) :
    Mkr (cxOf (L2.CX P w) P w K mg base N qual scope f cdv A outer s H E) := by
  obtain ⟨c, rfl⟩ := He.codeIn_ref hcd
  have e := He.codeOf_eq lk hc
  refine ⟨⟨c, He.tabOf K c, rfl, ?_, ?_⟩, tabsUn_ok un⟩
  · unfold He.cT at tb
    rw [e] at tb
    exact tb
  · refine List.mem_filterMap.mpr ⟨_, He.lookup_mem lk, ?_⟩
    dsimp only
    rw [hq, if_pos hm, hc]
    rfl
def spLawT (K : PySem.W.Frag) : Sp := fun vs H Q E => ∃ (a : Addr) (ns : List Int), vs = [.ref a] ∧ SqL K H a (ns.map V.int) ∧ Tabs (tabsOf K) H ∧ ns.length ≤ 63 ∧ ∀ H', Q (.bl true) H'
def noTab (H : Hp) : Hp := fun b => match H b with
  | some (.tbl _) => none
  | o => o
theorem noTab_of {H : Hp} {b : Addr} {o : HO} (q : H b = some o) (n : ∀ ps, o ≠ .tbl ps) : noTab H b = some o := by
  unfold noTab
  rw [q]
  cases o with
  | tbl ps => exact absurd rfl (n ps)
  | _ => rfl
theorem noTab_to {H : Hp} {b : Addr} {o : HO} (q : noTab H b = some o) : H b = some o ∧ ∀ ps, o ≠ .tbl ps := by
  unfold noTab at q
  cases e : H b with
  | none => rw [e] at q; cases q
  | some u =>
    rw [e] at q
    cases u with
    | tbl ps => cases q
    | _ => cases q; exact ⟨rfl, fun _ z => by cases z⟩
theorem spLawT_imp {K : PySem.W.Frag} {mg : Str → Option Value} {M : List D → R Nw} (hM : ∀ ns, ns.length ≤ 63 → M [.scr ns] = .ok (.v (.bl true))) (vs : List V) (H : Hp) (Q : VK) (E : XK) (h : spLawT K vs H Q E) : spP K mg 1 M vs H Q E := by
  obtain ⟨a, ns, rfl, hS, hT, hl, hq⟩ := h
  refine ⟨noTab H, fun _ => none, [.scr ns], ⟨fun b o q => (noTab_to q).1, (fun _ _ h => (Option.some_ne_none _ h.symm).elim), (fun _ => Or.inr rfl), ⟨hT, fun b ps q => (noTab_to q).2 ps rfl, fun b o q => by cases q⟩⟩, .cons (.scr ns ?_) .nil, rfl, ?_⟩
  · rcases hS with (h | ⟨o, h⟩) | h
    · exact .inl (.inl (noTab_of h fun _ z => by cases z))
    · exact .inl (.inr ⟨o, noTab_of h fun _ z => by cases z⟩)
    · exact .inr h
  · rw [hM ns hl]
    intro v H' F' _ _ hv
    cases hv
    exact hq H'
theorem fn_PM {P : Program} {w : World} {K : PySem.W.Frag} {mg : Str → Option Value} {base : Heap} {x qual : Str} {params : Arguments} {body : List Stmt} {scope : Scope} {dvs : List V} {kws : List (Str × V)} {p : He.Defn} {fd : FuncData} {N ps : List Str} {k n j : Nat} {m : Env → R Fl}
    (F : FunD K x qual params body scope dvs kws (He.fAd K p) fd) (S : FnScope N ps scope) (hp : ps.length = n) (hN : N.length = n + j) (tb : TabB base mg (He.cT K p).1 (He.cT K p).2) (un : tabsUn K = true) (hm : makers.contains qual = true)
    (hb : ∀ (cdv : Value) (A : Around) (outer : List PySem.Env) (s : Shared) (H : Hp) (E : XK), Room k (A.deeper (PyProof.Rows.envOfC qual scope s.heap.objs.size (He.fAd K p) cdv)) → Takes (cxOf (L2.CX P w) P w K mg base N qual scope (He.fAd K p) cdv A outer s H E) (WE E) → Mkr (cxOf (L2.CX P w) P w K mg base N qual scope (He.fAd K p) cdv A outer s H E) →
      SSs (cxOf (L2.CX P w) P w K mg base N qual scope (He.fAd K p) cdv A outer s H E) (WE E) body m) : FnOk P w K mg base (L2.CX P w) (k + 1) (He.fAd K p) fd ps (spP K mg n (fin n m j)) := by
  obtain ⟨oc, od, dV, kV, doc, pm, an, cdv, ct, osl, rfl, lk, hcd, _, _⟩ := F.ex
  refine fn_of lk hcd S (fun vs H Q E h => ?_) fun A outer s H vs Q E hr h => ?_
  · obtain ⟨F, G, ds, _, hv, hn, _⟩ := h
    rw [hv.length, hn, hp]
  · exact body_P rfl rfl hN (hb cdv A outer s H E hr (takes_of rfl rfl rfl rfl) (mkr_of lk rfl rfl hcd tb hm un)) h
theorem fn_ID {P : Program} {w : World} {K : PySem.W.Frag} {mg : Str → Option Value} {base : Heap} {x qual : Str} {params : Arguments} {body : List Stmt} {scope : Scope} {dvs : List V} {kws : List (Str × V)} {f : Addr} {fd : FuncData} {N ps : List Str} {k n j : Nat} {m : Env → R Fl}
    (F : FunD K x qual params body scope dvs kws f fd) (S : FnScope N ps scope) (hp : ps.length = n + 1) (hN : N.length = n + 1 + j)
    (hb : ∀ (cdv : Value) (A : Around) (outer : List PySem.Env) (s : Shared) (H : Hp) (E : XK), Room k (A.deeper (PyProof.Rows.envOfC qual scope s.heap.objs.size f cdv)) → Takes (cxOf (L2.CX P w) P w K mg base N qual scope f cdv A outer s H E) (WE E) →
      SSs (cxOf (L2.CX P w) P w K mg base N qual scope f cdv A outer s H E) (WE E) body m) : FnOk P w K mg base (L2.CX P w) (k + 1) f fd ps (spI K mg n (finI n m j)) := by
  refine F.ok S (fun vs H Q E h => ?_) (fun cdv A outer s H vs Q E hr h => ?_)
  · obtain ⟨F, G, p, ws, xs, vs', ds, rfl, _, _, _, _, _, hv, hn, _⟩ := h
    rw [List.length_cons, hv.length, hn, hp]
  · exact body_I rfl rfl hN (hb cdv A outer s H E hr (takes_of rfl rfl rfl rfl)) h
theorem xc_of {P : Program} {w : World} {K : PySem.W.Frag} {mg : Str → Option Value} {base : Heap} {k : Nat} {c : Str} {ks : List Str} {fd : FuncData} (hg : mg c = some (.ref (He.ga K c))) (T : Sub K (He.ga K c) ks) (hi : iniB K c = true) (F : FnOk P w K mg base (L2.CX P w) k (He.ma K (He.ga K c) "__init__") fd ("self" :: ks) (spIni K (He.ga K c) ks c)) (hb : Binds K fd ("self" :: ks) []) : XcOk P w K mg base k c ks :=
  ⟨_, _, fd, hg, T.x, (iniB_ok hi).1, (iniB_ok hi).2, F, hb⟩
theorem law_CX' {P : Program} {w : World} {H : Hp} {s : Shared} {e : Value} {s' : Shared} (h : L2.CX P w [] H s (fun _ _ _ => False) e s') : False := by
  obtain ⟨a, B, H', cls, d, _, _, _, _, _, _, _, hE⟩ := h
  exact hE
end Rg
namespace Rg
open PySem PySem.Spec PyProof.Rows L2
theorem iniBinds {K : PySem.W.Frag} {x qual : Str} {params : Arguments} {body : List Stmt} {scope : Scope} {v : V} {kws : List (Str × V)} {f : Addr} {fd : FuncData} (F : FunD K x qual params body scope [v] kws f fd)
    (h : ∀ (T : Addr) (kV doc pm : Value) (an : Option Addr) (cdv ct u1 u2 i : Value), ∃ k, bindArgs (PySem.W.fnOf x qual params body scope (.ref T) kV doc pm an cdv ct) ⟨[u1, u2], []⟩ = seqItems? (.ref T) >>= k ∧ k (some #[i]) = pure ([("self", u1), ("word", u2)] : List (Str × Value))) : Binds K fd ["self", "word"] [] := by
  obtain ⟨ds, hv, hb⟩ := F.binds1 (ps := ["self", "word"]) 2 1 (by simp) (by simp) fun T kV doc pm an cdv ct us its l1 l2 => match us, l1, its, l2 with
    | [u1, u2], _, [i], _ => h T kV doc pm an cdv ct u1 u2 i
  have hv : Vals [] ds := hv
  cases hv
  exact hb
theorem kwBinds {K : PySem.W.Frag} {x qual : Str} {params : Arguments} {body : List Stmt} {scope : Scope} {kws : List (Str × V)} {f : Addr} {fd : FuncData} {ps ks : List Str} {n : Nat} (F : FunD K x qual params body scope [] kws f fd)
    (h : ∀ (kV doc pm : Value) (an : Option Addr) (cdv ct : Value) (us ws : List Value), us.length = n → ws.length = ks.length → bindArgs (PySem.W.fnOf x qual params body scope .none kV doc pm an cdv ct) ⟨us, ks.zip ws⟩ = pure (ps.zip (us ++ ws))) : KBn K fd ps n ks (fun us ws => us ++ ws) (fun us ws => us ++ ws) := by
  obtain ⟨oc, od, dV, kV, doc, pm, an, cdv, ct, osl, rfl, lk, hcd, hD, hK⟩ := F.ex
  rcases hD with ⟨_, rfl⟩ | ⟨e, _⟩
  · exact ⟨fun s us ws X l1 l2 => .of_eq (h kV doc pm an cdv ct us ws l1 l2), fun r1 r2 => r1.append r2⟩
  · exact absurd rfl e
theorem tup_of {K : PySem.W.Frag} {mg : Str → Option Value} {x : Str} {ns : List Int} (hg : mg x = some (.ref (He.ga K x))) (h : He.tupB K x (ns.map He.Dv.int) = true) : ∃ u, mg x = some (.ref u) ∧ ∀ F, SqT K F u (ns.map V.int) :=
  ⟨_, hg, fun F => by
    have := He.tupB_ok h F
    rw [List.map_map] at this
    exact this⟩
end Rg
namespace Rg
open PySem PySem.Spec PyProof.Rows L2 LamX
inductive RS2 where
  | ok (d : D) (Γ : Env)
  | exc (c : Str) (fs : List (Str × D)) (Γ : Env)
  | bad
section
variable (K : PySem.W.Frag) (mg : Str → Option Value)
def Ok2 (a0 : Addr) (G F : Hp) (σ : L2.St) (E : XK) (Q : VK) : RS2 → Prop
  | .ok d Γ => ∀ v H F', Ex F F' → Rel K a0 G Γ σ H F' → Rp K F' v d → Q v H
  | .exc c fs Γ => ∀ ca dd H F' gs, Ex F F' → Rel K a0 G Γ σ H F' → mg c = some (.ref ca) → H dd = some (.xd gs) → FsA K F' gs fs → E (.ref ca) (some dd) H
  | .bad => False
def tm2 (E : XK) (m : Env → RS2) : TE := fun σ H Q => ∃ a0 G Γ F, Rel K a0 G Γ σ H F ∧ Ok2 K mg a0 G F σ E Q (m Γ)
end
def r2of (Γ : Env) : R Nw → RS2
  | .ok nw => .ok nw.d Γ
  | .exc c fs => .exc c fs Γ
  | .bad => .bad
def mCall2 (M : List D → R Nw) (ma : Env → R (List BV × Env)) : Env → RS2 := fun Γ => match ma Γ with
  | .ok y => if allV y.1 = true then (match rsA y.2 y.1 with
    | some ds => r2of y.2 (M ds)
    | none => .bad) else .bad
  | _ => .bad
section
variable {K : PySem.W.Frag} {mg : Str → Option Value} {a0 : Addr} {G F F1 H : Hp} {Γ : Env} {σ : L2.St}
theorem sp_call2 {n : Nat} {M : List D → R Nw} {vs : List V} {bs : List BV} {ds : List D} {Q : VK} {E : XK} (r : Rel K a0 G Γ σ H F1) (e : Ex F F1) (hb : BsA K σ F1 vs bs) (hr : rsA Γ bs = some ds) (ha : allV bs = true) (hl : ∀ ds, ds.length ≠ n → M ds = .bad)
    (hk : Ok2 K mg a0 G F σ E Q (r2of Γ (M ds))) : spP K mg n M vs H Q E := by
  have hn : ds.length = n := Decidable.byContradiction fun z => by rw [hl ds z] at hk; exact hk.elim
  obtain ⟨G', eG, w, back, backT⟩ := r.split
  refine ⟨F1, G', ds, w, allV_rpA hb ha hr, hn, ?_⟩
  cases q : M ds with
  | bad => rw [q] at hk; exact hk.elim
  | exc c fs =>
    rw [q] at hk
    intro ca dd τ H' F' e' hx
    obtain ⟨wd, hg, gs, hd, hf⟩ := hx
    exact hk ca dd H' F' gs (Ex.trans e e') (back F' H' e' wd) hg hd hf
  | ok nw =>
    rw [q] at hk
    cases nw with
    | v d => exact fun v H' F' e' w' hv => hk v H' F' (Ex.trans e e') (back F' H' e' w') hv
    | o xs =>
      intro p us H' F' e' hp w' hv
      obtain ⟨h1, h2⟩ := backT F' H' p _ e' hp w'
      obtain ⟨e2, r2⟩ := h2.frzT h1
      exact hk (.ref p) H' _ (Ex.trans e (Ex.trans e' e2)) r2 (.lst upd_same (hv.mono e2))
end
section
variable {X : Cx} {E : XK} {e : Expr} {es : List Expr} {pos : Pos} {mas mks : Env → R (List BV × Env)} {k n : Nat} {f : Addr} {fd : FuncData} {ps : List Str} {x : Str} {p : Pos}
theorem okA_2 {K : PySem.W.Frag} {mg : Str → Option Value} {a0 : Addr} {G F : Hp} {σ : L2.St} {W : WX} {Q : VK} {M : List D → R Nw} {r : R (List BV × Env)} {P : List BV × Env → Prop} (h : Ok2 K mg a0 G F σ E Q (match r with
  | .ok y => if allV y.1 = true then (match rsA y.2 y.1 with
    | some ds => r2of y.2 (M ds)
    | none => .bad) else .bad
  | _ => .bad)) (k : ∀ y, r = .ok y → allV y.1 = true → (∀ ds, rsA y.2 y.1 = some ds → Ok2 K mg a0 G F σ E Q (r2of y.2 (M ds))) → (∃ ds, rsA y.2 y.1 = some ds) → P y) : OkG K mg G F W P r := by
  cases r with
  | bad => exact h.elim
  | exc c fs => exact h.elim
  | ok y =>
    dsimp only at h
    split at h
    · rename_i ha
      cases q : rsA y.2 y.1 with
      | none => rw [q] at h; exact h.elim
      | some ds =>
        rw [q] at h
        exact k y rfl ha (fun ds' q' => by rw [q] at q'; cases q'; exact h) ⟨ds, q⟩
    · exact h.elim
theorem s2_call {M : List D → R Nw} (F : FnOk X.prog X.w X.K X.mg X.base (L2.CX X.prog X.w) k f fd ps (spP X.K X.mg n M)) (hl : ∀ ds, ds.length ≠ n → M ds = .bad) (hr : Room k X.A) (hm : X.mg x = some (.ref f)) (hk : PySem.W.keepIn X.K (.ref f) = true) (hb : Binds X.K fd ps []) (tk : Takes X (WE E))
    (ha : SA X (WE E) (e :: es) mas) (hg : Gl X x := by rfl) (hdb : (x == ("__debug__" : Str)) = false := by decide) (he : starEach (e :: es) X.env = (false, eval e X.env) :: starEach es X.env := by rfl) (hpl : (backTo pos (starEach es X.env)).any (·.1) = false := by rfl) :
    PE X (.Call (.Name x p) (e :: es) [] pos) (tm2 X.K X.mg E (mCall2 M mas)) := by
  obtain ⟨t, pa, s⟩ := ha
  have P := pe_callSD (p := p) (dvs := []) (ds := []) (E := fun σ c d H => E c d H) F hr hg hm hk hb .nil (fun σ => passAt (W := WE E) tk σ) pa hdb he hpl
  refine ⟨fun pins st σ H Q I ⟨a0, G, Γ, F, r, h⟩ => P.run pins st σ H Q I ?_⟩
  refine s a0 G Γ σ H F _ r (okA_2 h fun y hy ha hd ⟨ds, q⟩ vs H1 F1 e1 r1 hb => ?_)
  show spP X.K X.mg n M (vs ++ []) H1 Q E
  rw [List.append_nil]
  exact sp_call2 r1 e1 hb q ha hl (hd ds q)
theorem s2_callK {M : List D → R Nw} {kws : List Keyword} {ks : List Str} {j : Nat} (F : FnOk X.prog X.w X.K X.mg X.base (L2.CX X.prog X.w) k f fd ps (spP X.K X.mg n M)) (hl : ∀ ds, ds.length ≠ n → M ds = .bad) (hr : Room k X.A) (hm : X.mg x = some (.ref f)) (hk : PySem.W.keepIn X.K (.ref f) = true)
    (hb : KBn X.K fd ps j ks (fun us ws => us ++ ws) (fun us ws => us ++ ws)) (tk : Takes X (WE E)) (ha : SA X (WE E) (e :: es) mas) (na : nA mas j) (hkw : SK X (WE E) kws mks) (nk : nA mks ks.length)
    (hg : Gl X x := by rfl) (hall : (backToKw pos (keywordEach kws X.env)).all (·.1.isSome) = true := by rfl) (hks : (backToKw pos (keywordEach kws X.env)).filterMap (·.1) = ks := by rfl)
    (hdb : (x == ("__debug__" : Str)) = false := by decide) (he : starEach (e :: es) X.env = (false, eval e X.env) :: starEach es X.env := by rfl)
    (hpl : ((backTo pos (starEach (e :: es) X.env)).any (·.1) || (backToKw pos (keywordEach kws X.env)).any (·.1.isNone)) = false := by rfl) :
    PE X (.Call (.Name x p) (e :: es) kws pos) (tm2 X.K X.mg E (mCall2 M (mAp mas mks))) := by
  obtain ⟨t, pa, s⟩ := ha
  obtain ⟨t2, pk, s2⟩ := hkw
  have P := pe_callN (p := p) (E := E) F hr hg hm hk hb (passes_call (W := WE E) tk fun c d σ H h => h) pa pk hall hks hdb he hpl
  refine ⟨fun pins st σ H Q I ⟨a0, G, Γ, F, r, h⟩ => P.run pins st σ H Q I ?_⟩
  unfold mCall2 at h
  have h : OkG X.K X.mg G F (WE E) (fun y => allV y.1 = true ∧ (∀ ds, rsA y.2 y.1 = some ds → Ok2 X.K X.mg a0 G F σ E Q (r2of y.2 (M ds))) ∧ ∃ ds, rsA y.2 y.1 = some ds) (mAp mas mks Γ) := okA_2 h fun y _ h1 h2 h3 => ⟨h1, h2, h3⟩
  refine s a0 G Γ σ H F _ r (okG_bind h fun y hy0 hy vs H1 F1 e1 r1 hb => ?_)
  refine s2 a0 G y.2 σ H1 F1 _ r1 (okG_mono e1 (okG_bind hy fun z _ hz => hz) fun z hz0 hz zs H2 F2 e2 r2 hb2 => ?_)
  refine ⟨hb.length.trans (na _ _ hy0), hb2.length.trans (nk _ _ hz0), ?_⟩
  have hb3 := (hb.mono e2).append hb2
  have hz : OkG X.K X.mg G F (WE E) (fun y => allV y.1 = true ∧ (∀ ds, rsA y.2 y.1 = some ds → Ok2 X.K X.mg a0 G F σ E Q (r2of y.2 (M ds))) ∧ ∃ ds, rsA y.2 y.1 = some ds) (.ok (y.1 ++ z.1, z.2)) := hz
  obtain ⟨h1, h2, ds, q⟩ := hz
  exact sp_call2 r2 (Ex.trans e1 e2) hb3 q h1 hl (h2 ds q)
end
def mPair2 (kn : List Str) (m : Env → RS2) : Env → R ((D × D) × Env) := fun Γ => match m Γ with
  | .ok d Γ1 => .ok ((.str "told", d), Γ1)
  | .exc c fs Γ1 => if kn.contains c = true then (match whyP fs (whyIx c) with
    | some p => .ok (p, Γ1)
    | none => .bad) else .bad
  | .bad => .bad
def mWhy2 (kn : List Str) (m : Env → RS2) : Env → R (BV × Env) := fun Γ => (mPair2 kn m Γ).bind fun p => .ok (.v (.tup [p.1.1, p.1.2]), p.2)
def mWord2 (kn : List Str) (m : Env → RS2) : Env → R (BV × Env) := fun Γ => (mPair2 kn m Γ).bind fun p => .ok (.v p.1.1, p.2)
section
variable {K : PySem.W.Frag} {mg : Str → Option Value} {a0 : Addr} {G F H : Hp} {Γ : Env} {σ : L2.St} {W : WX}
theorem sd2_pair {kn : List Str} {m : Env → RS2} {Q : V → V → Hp → Prop} (N : WhyK K mg kn) (r : Rel K a0 G Γ σ H F)
    (hk : OkG K mg G F W (fun p => ∀ v u H' F', Ex F F' → Rel K a0 G p.2 σ H' F' → Rp K F' v p.1.1 → Rp K F' u p.1.2 → Q v u H') (mPair2 kn m Γ)) : TPair K Q (fun E H' Q' => tm2 K mg E m σ H' Q') H := by
  refine ⟨a0, G, Γ, F, r, ?_⟩
  unfold mPair2 at hk
  cases q : m Γ with
  | bad => rw [q] at hk; exact hk.elim
  | ok d Γ1 =>
    rw [q] at hk
    exact fun v H' F' e r' hv => hk (.str "told") v H' F' e r' (.str _) hv
  | exc c fs Γ1 =>
    rw [q] at hk
    dsimp only at hk
    split at hk
    · rename_i hc
      have hc : c ∈ kn := by simpa using hc
      cases q2 : whyP fs (whyIx c) with
      | none => rw [q2] at hk; exact hk.elim
      | some p =>
        rw [q2] at hk
        intro ca dd H' F' gs e r' hg hd hfs
        have eq : ca = He.ga K c := by
          rw [N.g c hc] at hg
          exact (Value.ref.inj (Option.some.inj hg)).symm
        subst eq
        exact ⟨_, dd, gs, whyIx c, rfl, rfl, hd, N.f c hc, whyX_of r' hfs q2 (N.n c hc) fun v u H2 F2 e2 r2 => hk v u H2 F2 (Ex.trans e e2) r2⟩
    · exact hk.elim
end
section
variable {X : Cx} {W : WX} {k : Nat} {g : Addr} {kn : List Str} {m : Env → RS2} {p lpos pos : Pos}
theorem sx_why2 {params : Arguments} {body : Expr} {scope : Scope} (Gv : Gives X.prog X.w X.K X.mg X.base k 2 g (TWhy X.K)) (N : WhyK X.K X.mg kn) (hr : Room (k + 2) X.A) (hg : Gl X "_law_why") (hm : X.mg "_law_why" = some (.ref g)) (hk : PySem.W.keepIn X.K (.ref g) = true)
    (M : Mkr X) (L : LamS X.env.scope scope) (hbody : ∀ (A : Around) (outer : List PySem.Env) (s : Shared) (H : Hp) (E : XK) (f c : Addr), Room k (A.deeper (lamEnv X scope s.heap.objs.size f c)) → PE (lamCx X A outer s H E scope f c) body (tm2 X.K X.mg E m))
    (hdef : defaultsOf params X.env = ([], []) := by rfl) (hbind : ∀ (q : Str) (cl : Cells) (pm cv ctv : Value), bindArgs (PySem.W.kla_fn "<lambda>" q params body scope cl pm cv ctv) ⟨[], []⟩ = pure [] := by intros; rfl) :
    SX X W (.Call (.Name "_law_why" p) [.Lambda params body scope lpos] [] pos) (mWhy2 kn m) := by
  refine ⟨_, pe_giv (b := ⟨params, body, scope, X.env.qual ++ "<lambda>"⟩) (tb := fun E => tm2 X.K X.mg E m) Gv hr hg hm hk M rfl L hdef hbind hbody (by decide), fun a0 G Γ σ H F Q r h => ⟨r.wd.tb.t, fun f c H1 e T1 h0 h1 h2 => ?_⟩⟩
  obtain ⟨F1, eF, r1, _, _⟩ := r.lam e T1 h0 h1 h2
  refine sd2_pair N r1 (okG_mono eF (okG_bind h fun p _ hp => hp) fun p _ hp v u H' F' e' r' hv hu q hq => ?_)
  obtain ⟨e2, r2⟩ := r'.newF (o := .tup [v, u]) hq
  exact hp (.ref q) _ _ (Ex.trans eF (Ex.trans e' e2)) r2 (.tup (.inl (.inl upd_same)) (.cons (hv.mono e2) (.cons (hu.mono e2) .nil)))
theorem sx_word2 {params : Arguments} {body : Expr} {scope : Scope} (Gv : Gives X.prog X.w X.K X.mg X.base k 3 g (TWord X.K)) (N : WhyK X.K X.mg kn) (hr : Room (k + 3) X.A) (hg : Gl X "_law_word") (hm : X.mg "_law_word" = some (.ref g)) (hk : PySem.W.keepIn X.K (.ref g) = true)
    (M : Mkr X) (L : LamS X.env.scope scope) (hbody : ∀ (A : Around) (outer : List PySem.Env) (s : Shared) (H : Hp) (E : XK) (f c : Addr), Room k (A.deeper (lamEnv X scope s.heap.objs.size f c)) → PE (lamCx X A outer s H E scope f c) body (tm2 X.K X.mg E m))
    (hdef : defaultsOf params X.env = ([], []) := by rfl) (hbind : ∀ (q : Str) (cl : Cells) (pm cv ctv : Value), bindArgs (PySem.W.kla_fn "<lambda>" q params body scope cl pm cv ctv) ⟨[], []⟩ = pure [] := by intros; rfl) :
    SX X W (.Call (.Name "_law_word" p) [.Lambda params body scope lpos] [] pos) (mWord2 kn m) := by
  refine ⟨_, pe_giv (b := ⟨params, body, scope, X.env.qual ++ "<lambda>"⟩) (tb := fun E => tm2 X.K X.mg E m) Gv hr hg hm hk M rfl L hdef hbind hbody (by decide), fun a0 G Γ σ H F Q r h => ⟨r.wd.tb.t, fun f c H1 e T1 h0 h1 h2 => ?_⟩⟩
  obtain ⟨F1, eF, r1, _, _⟩ := r.lam e T1 h0 h1 h2
  refine sd2_pair N r1 (okG_mono eF (okG_bind h fun p _ hp => hp) fun p _ hp v u H' F' e' r' hv hu q hq => ?_)
  obtain ⟨e2, r2⟩ := r'.newF (o := .tup [v, u]) hq
  exact .inr (.inl ⟨q, [v, u], 0, v, rfl, rfl, .inl (.inl upd_same), rfl, hp v _ _ (Ex.trans eF (Ex.trans e' e2)) r2 (hv.mono e2)⟩)
end
def gU (n : Nat) (fs : List D → Env → Option Env) : D → Env → Option Env := fun d Γ => match d with
  | .lst ds => if ds.length = n then fs ds Γ else none
  | _ => none
theorem sg_lst {X : Cx} {pos : Pos} {tgs : List Expr} {k n : Nat} {fs : List D → Env → Option Env} {ws : List Nat} (hc : X.calm = true) (h : SGs X tgs fs ws) (hn : (assignEach tgs X.env).length = n := by rfl) (hst : (assignEach tgs X.env).findIdx? (·.1) = none := by rfl) : SG X (.Tuple tgs k pos) (gU n fs) ws := by
  obtain ⟨g, p, s⟩ := h
  refine ⟨_, pg_lst hc p hn hst, fun a0 G Γ σ H F v d Γ' Q r hv hf h => ?_⟩
  unfold gU at hf
  split at hf
  · rename_i ds
    split at hf
    · rename_i hl
      cases hv with
      | lst h1 h2 => exact ⟨_, _, rfl, SqL.of (r.wd.f _ _ h1), h2.length.trans hl, s a0 G Γ σ H F _ ds Γ' Q r h2 hf h⟩
    · cases hf
  · cases hf
end Rg
namespace Rm
def cf (a : List Int) (k : Nat) : Int := a.getD k 0
theorem cf_nil (k : Nat) : cf [] k = 0 := by simp [cf]
theorem cf_zero (x : Int) (a : List Int) : cf (x :: a) 0 = x := rfl
theorem cf_succ (x : Int) (a : List Int) (k : Nat) : cf (x :: a) (k + 1) = cf a k := by simp [cf]
theorem cf_ge {a : List Int} {k : Nat} (h : a.length ≤ k) : cf a k = 0 := by simp [cf, List.getD_eq_getElem?_getD, List.getElem?_eq_none h]
theorem cf_lt {a : List Int} {k : Nat} (h : k < a.length) : cf a k = a[k] := by simp [cf, List.getD_eq_getElem?_getD, List.getElem?_eq_getElem h]
theorem cf_get {a : List Int} {k : Nat} {x : Int} (h : a[k]? = some x) : cf a k = x := by simp [cf, List.getD_eq_getElem?_getD, h]
theorem cf_get? {a : List Int} {k : Nat} (h : k < a.length) : a[k]? = some (cf a k) := by rw [List.getElem?_eq_getElem h, cf_lt h]
theorem cf_append_l {a b : List Int} {k : Nat} (h : k < a.length) : cf (a ++ b) k = cf a k := by
  simp [cf, List.getD_eq_getElem?_getD, List.getElem?_append_left h]
theorem cf_append_r {a b : List Int} {k : Nat} (h : a.length ≤ k) : cf (a ++ b) k = cf b (k - a.length) := by
  simp [cf, List.getD_eq_getElem?_getD, List.getElem?_append_right h]
theorem cf_replicate (n k : Nat) : cf (List.replicate n 0) k = 0 := by
  simp only [cf, List.getD_eq_getElem?_getD, List.getElem?_replicate]
  split <;> rfl
theorem cf_map (f : Int → Int) (h0 : f 0 = 0) (a : List Int) (k : Nat) : cf (a.map f) k = f (cf a k) := by
  simp only [cf, List.getD_eq_getElem?_getD, List.getElem?_map]
  cases a[k]? <;> simp [h0]
theorem cf_set {a : List Int} {i k : Nat} {x : Int} (h : i < a.length) : cf (a.set i x) k = if k = i then x else cf a k := by
  by_cases e : k = i
  · subst e; simp [cf, List.getD_eq_getElem?_getD, h]
  · simp [cf, List.getD_eq_getElem?_getD, List.getElem?_set_ne (Ne.symm e), e]
theorem cf_take {a : List Int} {n k : Nat} : cf (a.take n) k = if k < n then cf a k else 0 := by
  simp only [cf, List.getD_eq_getElem?_getD, List.getElem?_take]
  split <;> rfl
def trim : List Int → List Int
  | [] => []
  | x :: a => if x = 0 ∧ trim a = [] then [] else x :: trim a
theorem trim_cf : ∀ (a : List Int) (k : Nat), cf (trim a) k = cf a k
  | [], _ => rfl
  | x :: a, k => by
    simp only [trim]
    split
    · rename_i h
      rw [cf_nil]
      cases k with
      | zero => rw [cf_zero, h.1]
      | succ k => rw [cf_succ, ← trim_cf a k, h.2, cf_nil]
    · cases k with
      | zero => rfl
      | succ k => rw [cf_succ, cf_succ, trim_cf a k]
theorem trim_nil_of {a : List Int} (h : ∀ k, cf a k = 0) : trim a = [] := by
  induction a with
  | nil => rfl
  | cons x a ih =>
    have h0 : x = 0 := h 0
    have h1 := ih fun k => by rw [← cf_succ x a k]; exact h (k + 1)
    simp [trim, h0, h1]
theorem trim_ext : ∀ {a b : List Int}, (∀ k, cf a k = cf b k) → trim a = trim b
  | [], b, h => by rw [trim_nil_of (a := b) fun k => by rw [← h k, cf_nil]]; rfl
  | x :: a, [], h => by rw [trim_nil_of (a := x :: a) fun k => by rw [h k, cf_nil]]; rfl
  | x :: a, y :: b, h => by
    have e : x = y := h 0
    have ih : trim a = trim b := trim_ext fun k => by rw [← cf_succ x a k, h (k + 1), cf_succ]
    simp [trim, e, ih]
theorem trim_trim (a : List Int) : trim (trim a) = trim a := trim_ext (trim_cf a)
theorem trim_length_le : ∀ a : List Int, (trim a).length ≤ a.length
  | [] => Nat.le_refl _
  | x :: a => by
    have := trim_length_le a
    simp only [trim]
    split <;> simp <;> omega
theorem trim_mem : ∀ {a : List Int} {x : Int}, x ∈ trim a → x ∈ a
  | [], _, h => by simp [trim] at h
  | y :: a, x, h => by
    simp only [trim] at h
    split at h
    · simp at h
    · rcases List.mem_cons.mp h with h | h
      · rw [h]; exact List.mem_cons_self ..
      · exact List.mem_cons_of_mem _ (trim_mem h)
theorem trim_eq_of_ext {a b : List Int} (ha : trim a = a) (hb : trim b = b) (h : ∀ k, cf a k = cf b k) : a = b := by rw [← ha, ← hb]; exact trim_ext h
def cl (a : List Int) : Nat → Nat
  | 0 => 0
  | m + 1 => if cf a m = 0 then cl a m else m + 1
theorem cl_le (a : List Int) : ∀ m, cl a m ≤ m
  | 0 => Nat.le_refl _
  | m + 1 => by
    have := cl_le a m
    simp only [cl]; split <;> omega
theorem cl_zero (a : List Int) : ∀ m k, cl a m ≤ k → k < m → cf a k = 0
  | 0, _, _, h => by omega
  | m + 1, k, h1, h2 => by
    simp only [cl] at h1
    split at h1
    · by_cases e : k = m
      · subst e; assumption
      · exact cl_zero a m k h1 (by omega)
    · omega
theorem cl_last (a : List Int) : ∀ m, 0 < cl a m → cf a (cl a m - 1) ≠ 0
  | 0, h => by simp [cl] at h
  | m + 1, h => by
    simp only [cl] at h ⊢
    split at h
    · rename_i e; rw [if_pos e]; exact cl_last a m h
    · rename_i e; rw [if_neg e]; simpa using e
theorem trim_self_of {a : List Int} (h : a = [] ∨ cf a (a.length - 1) ≠ 0) : trim a = a := by
  induction a with
  | nil => rfl
  | cons x a ih =>
    rcases h with h | h
    · cases h
    · cases a with
      | nil =>
        have h : x ≠ 0 := h
        simp [trim, h]
      | cons y b =>
        have h' : cf (y :: b) ((y :: b).length - 1) ≠ 0 := by simpa [cf] using h
        have e := ih (.inr h')
        rw [trim, if_neg (by rw [e]; simp), e]
theorem trim_last {a : List Int} (h : trim a = a) (hn : a ≠ []) : cf a (a.length - 1) ≠ 0 := by
  induction a with
  | nil => exact absurd rfl hn
  | cons x a ih =>
    cases a with
    | nil =>
      intro z
      have z : x = 0 := z
      simp [trim, z] at h
    | cons y b =>
      have h2 : trim (y :: b) = y :: b := by
        rw [trim] at h
        split at h
        · cases h
        · exact (List.cons.inj h).2
      have := ih h2 (by simp)
      simpa [cf] using this
theorem take_cl (a : List Int) : a.take (cl a a.length) = trim a := by
  refine (trim_self_of ?_).symm.trans (trim_ext fun k => ?_)
  · by_cases h : cl a a.length = 0
    · left; simp [h]
    · right
      have h1 := cl_le a a.length
      rw [List.length_take, Nat.min_eq_left h1, cf_take, if_pos (by omega)]
      exact cl_last a a.length (by omega)
  · rw [cf_take]
    split
    · rfl
    · by_cases h : k < a.length
      · exact (cl_zero a a.length k (by omega) h).symm
      · exact (cf_ge (by omega)).symm
def pad (a : List Int) (n : Nat) : List Int := a ++ List.replicate (n - a.length) 0
theorem pad_length {a : List Int} {n : Nat} (h : a.length ≤ n) : (pad a n).length = n := by simp [pad]; omega
theorem pad_cf (a : List Int) (n k : Nat) : cf (pad a n) k = cf a k := by
  unfold pad
  by_cases h : k < a.length
  · exact cf_append_l h
  · rw [cf_append_r (by omega), cf_replicate, cf_ge (by omega)]
def zw (f : Int → Int → Int) : List Int → List Int → List Int
  | a :: as, b :: bs => f a b :: zw f as bs
  | _, _ => []
theorem zw_length (f : Int → Int → Int) : ∀ a b : List Int, (zw f a b).length = min a.length b.length
  | [], _ => by simp [zw]
  | _ :: _, [] => by simp [zw]
  | _ :: a, _ :: b => by simp [zw, zw_length f a b]
theorem zw_cf (f : Int → Int → Int) (h0 : f 0 0 = 0) : ∀ (a b : List Int) (k : Nat), a.length = b.length → cf (zw f a b) k = f (cf a k) (cf b k)
  | [], [], k, _ => by simp [zw, cf_nil, h0]
  | x :: a, y :: b, 0, _ => rfl
  | x :: a, y :: b, k + 1, h => by simp only [zw, cf_succ]; exact zw_cf f h0 a b k (by simpa using h)
def bl (p w : Int) (a b : List Int) : List Int := trim (zw (fun x y => (x + w * y) % p) (pad a (max a.length b.length)) (pad b (max a.length b.length)))
theorem bl_cf (p w : Int) (a b : List Int) (k : Nat) : cf (bl p w a b) k = (cf a k + w * cf b k) % p := by
  unfold bl
  rw [trim_cf, zw_cf _ (by simp), pad_cf, pad_cf]
  rw [pad_length (by omega), pad_length (by omega)]
theorem bl_trim (p w : Int) (a b : List Int) : trim (bl p w a b) = bl p w a b := trim_trim _
theorem bl_length (p w : Int) (a b : List Int) : (bl p w a b).length ≤ max a.length b.length := by
  refine Nat.le_trans (trim_length_le _) ?_
  rw [zw_length, pad_length (by omega), pad_length (by omega)]; omega
def cv (b : List Int) : List Int → Nat → Nat → Int
  | [], _, _ => 0
  | x :: a, k, j => (if k ≤ j then x * cf b (j - k) else 0) + cv b a (k + 1) j
theorem cv_hi (b : List Int) : ∀ (a : List Int) (k j : Nat), k + a.length + b.length ≤ j + 1 → 0 < b.length → cv b a k j = 0
  | [], _, _, _, _ => rfl
  | x :: a, k, j, h, hb => by
    simp only [List.length_cons] at h
    have e : cf b (j - k) = 0 := cf_ge (by omega)
    simp only [cv, e, Int.mul_zero, ite_self, cv_hi b a (k + 1) j (by omega) hb, Int.add_zero]
theorem cv_nil (a : List Int) : ∀ k j, cv [] a k j = 0 := by
  induction a with
  | nil => intros; rfl
  | cons x a ih => intro k j; simp only [cv, cf_nil, Int.mul_zero, ite_self, ih, Int.add_zero]
def mulP (p : Int) (a b : List Int) : List Int := trim ((List.range (a.length + b.length)).map fun j => cv b a 0 j % p)
theorem cf_range_map (f : Nat → Int) (n k : Nat) (h : n ≤ k → f k = 0) : cf ((List.range n).map f) k = f k := by
  by_cases e : k < n
  · simp [cf, List.getD_eq_getElem?_getD, e]
  · rw [cf_ge (by simp; omega), h (by omega)]
theorem cv_ge (b a : List Int) (j : Nat) (h : a.length + b.length ≤ j) : cv b a 0 j = 0 := by
  cases b with
  | nil => exact cv_nil a 0 j
  | cons y b => exact cv_hi _ a 0 j (by simp at h ⊢; omega) (by simp)
theorem mulP_cf (p : Int) (a b : List Int) (k : Nat) : cf (mulP p a b) k = cv b a 0 k % p := by
  unfold mulP
  rw [trim_cf, cf_range_map]
  intro h
  rw [cv_ge b a k h]; simp
theorem mulP_trim (p : Int) (a b : List Int) : trim (mulP p a b) = mulP p a b := trim_trim _
theorem mulP_length_le (p : Int) (a b : List Int) : (mulP p a b).length ≤ a.length + b.length := by
  refine Nat.le_trans (trim_length_le _) (by simp)
def addAt (c : Int) : List Int → Nat → List Int → List Int
  | f, _, [] => f
  | f, k, y :: b => addAt c (f.set k (cf f k + c * y)) (k + 1) b
theorem addAt_length (c : Int) : ∀ (b f : List Int) (k : Nat), (addAt c f k b).length = f.length
  | [], _, _ => rfl
  | y :: b, f, k => by simp [addAt, addAt_length c b]
theorem addAt_cf (c : Int) : ∀ (b f : List Int) (k j : Nat), k + b.length ≤ f.length → cf (addAt c f k b) j = cf f j + (if k ≤ j then c * cf b (j - k) else 0)
  | [], f, k, j, _ => by simp [addAt, cf_nil]
  | y :: b, f, k, j, h => by
    simp only [List.length_cons] at h
    rw [addAt, addAt_cf c b _ _ j (by simp; omega), cf_set (by omega)]
    by_cases e : j = k
    · subst e
      rw [if_pos rfl, if_neg (by omega), if_pos (Nat.le_refl _), Nat.sub_self, cf_zero]; omega
    · rw [if_neg e]
      by_cases e2 : k ≤ j
      · rw [if_pos (by omega), if_pos e2]
        have : j - k = (j - (k + 1)) + 1 := by omega
        rw [this, cf_succ]
      · rw [if_neg (by omega), if_neg e2]
def mulR (b : List Int) : List Int → List Int → Nat → List Int
  | [], f, _ => f
  | x :: a, f, k => mulR b a (if x = 0 then f else addAt x f k b) (k + 1)
theorem mulR_length (b : List Int) : ∀ (a f : List Int) (k : Nat), (mulR b a f k).length = f.length
  | [], _, _ => rfl
  | x :: a, f, k => by
    rw [mulR, mulR_length b a]
    split
    · rfl
    · exact addAt_length _ _ _ _
theorem mulR_cf (b : List Int) : ∀ (a f : List Int) (k j : Nat), k + a.length + b.length ≤ f.length + 1 → 0 < b.length → cf (mulR b a f k) j = cf f j + cv b a k j
  | [], f, k, j, _, _ => by simp [mulR, cv]
  | x :: a, f, k, j, h, hb => by
    simp only [List.length_cons] at h
    have hl : (if x = 0 then f else addAt x f k b).length = f.length := by
      split
      · rfl
      · exact addAt_length _ _ _ _
    rw [mulR, mulR_cf b a _ _ j (by rw [hl]; omega) hb, cv]
    split
    · rename_i e; subst e; simp
    · rw [addAt_cf x b f k j (by omega)]; omega
theorem mulR_trim (p : Int) (a b : List Int) (ha : a ≠ []) (hb : b ≠ []) : trim ((mulR b a (List.replicate (a.length + b.length - 1) 0) 0).map (· % p)) = mulP p a b := by
  have hb' : 0 < b.length := List.length_pos_iff.mpr hb
  have ha' : 0 < a.length := List.length_pos_iff.mpr ha
  rw [← mulP_trim]
  refine trim_ext fun k => ?_
  rw [mulP_cf, cf_map _ (by simp), mulR_cf b a _ _ _ (by simp; omega) hb', cf_replicate, Int.zero_add]
theorem mulP_nil_l (p : Int) (b : List Int) : mulP p [] b = [] := trim_nil_of fun k => by rw [cf_range_map] <;> simp [cv]
theorem mulP_nil_r (p : Int) (a : List Int) : mulP p a [] = [] := trim_nil_of fun k => by rw [cf_range_map] <;> simp [cv_nil]
def addAtM (p c : Int) : List Int → Nat → List Int → List Int
  | f, _, [] => f
  | f, k, y :: b => addAtM p c (f.set k ((cf f k + c * y) % p)) (k + 1) b
theorem addAtM_length (p c : Int) : ∀ (b f : List Int) (k : Nat), (addAtM p c f k b).length = f.length
  | [], _, _ => rfl
  | y :: b, f, k => by simp [addAtM, addAtM_length p c b]
def Red (p : Int) (a : List Int) : Prop := ∀ k, cf a k % p = cf a k
theorem addAtM_cf (p c : Int) : ∀ (b f : List Int) (k j : Nat), Red p f → k + b.length ≤ f.length → cf (addAtM p c f k b) j = (cf f j + (if k ≤ j then c * cf b (j - k) else 0)) % p
  | [], f, k, j, hr, _ => by simp [addAtM, cf_nil, hr j]
  | y :: b, f, k, j, hr, h => by
    simp only [List.length_cons] at h
    have hr' : Red p (f.set k ((cf f k + c * y) % p)) := fun i => by
      rw [cf_set (by omega)]
      split
      · exact Int.emod_emod_of_dvd _ (Int.dvd_refl _)
      · exact hr i
    rw [addAtM, addAtM_cf p c b _ _ j hr' (by simp; omega), cf_set (by omega)]
    by_cases e : j = k
    · subst e
      rw [if_pos rfl, if_neg (by omega), if_pos (Nat.le_refl _), Nat.sub_self, cf_zero, Int.add_zero]
      exact Int.emod_emod_of_dvd _ (Int.dvd_refl _)
    · rw [if_neg e]
      by_cases e2 : k ≤ j
      · rw [if_pos (by omega), if_pos e2]
        have : j - k = (j - (k + 1)) + 1 := by omega
        rw [this, cf_succ]
      · rw [if_neg (by omega), if_neg e2]
theorem addAtM_red (p c : Int) {b f : List Int} {k : Nat} (hr : Red p f) (h : k + b.length ≤ f.length) : Red p (addAtM p c f k b) := fun j => by
  rw [addAtM_cf p c b f k j hr h]; exact Int.emod_emod_of_dvd _ (Int.dvd_refl _)
def mulM (p : Int) (b : List Int) : List Int → List Int → Nat → List Int
  | [], f, _ => f
  | x :: a, f, k => mulM p b a (addAtM p x f k b) (k + 1)
theorem mulM_length (p : Int) (b : List Int) : ∀ (a f : List Int) (k : Nat), (mulM p b a f k).length = f.length
  | [], _, _ => rfl
  | x :: a, f, k => by rw [mulM, mulM_length p b a, addAtM_length]
theorem mulM_cf (p : Int) (b : List Int) : ∀ (a f : List Int) (k j : Nat), Red p f → k + a.length + b.length ≤ f.length → cf (mulM p b a f k) j = (cf f j + cv b a k j) % p
  | [], f, k, j, hr, _ => by simp [mulM, cv, hr j]
  | x :: a, f, k, j, hr, h => by
    simp only [List.length_cons] at h
    rw [mulM, mulM_cf p b a _ _ j (addAtM_red p x hr (by omega)) (by rw [addAtM_length]; omega), addAtM_cf p x b f k j hr (by omega), cv, Int.emod_add_emod, Int.add_assoc]
theorem red_zero (p : Int) (n : Nat) : Red p (List.replicate n 0) := fun k => by rw [cf_replicate]; simp
theorem mulM_trim (p : Int) (a b : List Int) : trim (mulM p b a (List.replicate (a.length + b.length) 0) 0) = mulP p a b := by
  rw [← mulP_trim]
  refine trim_ext fun k => ?_
  rw [mulP_cf, mulM_cf p b a _ _ _ (red_zero p _) (by simp), cf_replicate, Int.zero_add]
structure Po (p : Int) (a : List Int) : Prop where
  t : trim a = a
  r : ∀ x ∈ a, 0 ≤ x ∧ x < p
theorem Po.cf {p : Int} {a : List Int} (h : Po p a) (hp : 0 < p) (k : Nat) : 0 ≤ cf a k ∧ cf a k < p := by
  by_cases e : k < a.length
  · rw [cf_lt e]; exact h.r _ (List.getElem_mem e)
  · rw [cf_ge (by omega)]; exact ⟨Int.le_refl _, hp⟩
theorem Po.of_cf {p : Int} {a : List Int} (t : trim a = a) (h : ∀ k, 0 ≤ Rm.cf a k ∧ Rm.cf a k < p) : Po p a := ⟨t, fun x hx => by
  obtain ⟨k, hk, e⟩ := List.getElem_of_mem hx
  have := h k
  rwa [cf_lt hk, e] at this⟩
theorem Po.bl {p : Int} (hp : 0 < p) (w : Int) (a b : List Int) : Po p (bl p w a b) := .of_cf (bl_trim ..) fun k => by
  rw [bl_cf]; exact ⟨Int.emod_nonneg _ (by omega), Int.emod_lt_of_pos _ hp⟩
theorem Po.mulP {p : Int} (hp : 0 < p) (a b : List Int) : Po p (mulP p a b) := .of_cf (mulP_trim ..) fun k => by
  rw [mulP_cf]; exact ⟨Int.emod_nonneg _ (by omega), Int.emod_lt_of_pos _ hp⟩
theorem Po.trim {p : Int} {a : List Int} (h : ∀ x ∈ a, 0 ≤ x ∧ x < p) : Po p (Rm.trim a) := ⟨trim_trim a, fun x hx => h x (trim_mem hx)⟩
theorem mulP_length {p : Int} (a b : List Int) (n : Nat) (h : a.length + b.length ≤ n + 1) : (Rm.mulP p a b).length ≤ n := by
  by_cases hb : 0 < b.length
  · by_cases e : n < (Rm.mulP p a b).length
    · exfalso
      have hn : Rm.mulP p a b ≠ [] := fun z => by rw [z] at e; simp at e
      have := trim_last (mulP_trim p a b) hn
      rw [mulP_cf, cv_hi b a 0 _ (by omega) hb] at this
      simp at this
    · omega
  · have : b = [] := List.eq_nil_of_length_eq_zero (by omega)
    rw [this, mulP_nil_r]; simp
end Rm
namespace Rg
open PySem Rm
def FUEL : Nat := 1000000
abbrev tI (ns : List Int) : D := .tup (ns.map D.int)
abbrev lI (ns : List Int) : D := .lst (ns.map D.int)
def sq (t : Bool) (ns : List Int) : D := if t then tI ns else lI ns
theorem sq_t (ns : List Int) : sq true ns = .tup (ns.map D.int) := rfl
theorem sq_f (ns : List Int) : sq false ns = .lst (ns.map D.int) := rfl
theorem atI_ints (ns : List Int) (i : Nat) (h : i < ns.length) : L2.atI (ns.map D.int) (i : Int) = some (.int (cf ns i)) := by
  refine L2.atI_nat ?_
  rw [List.getElem?_map, cf_get? h]; rfl
theorem atI_ints' (ns : List Int) (k : Int) (i : Nat) (e : k = i) (h : i < ns.length) : L2.atI (ns.map D.int) k = some (.int (cf ns i)) := by rw [e]; exact atI_ints ns i h
theorem atI_d {ds : List D} {i : Nat} {k : Int} {d : D} (e : k = i) (h : ds[i]? = some d) : L2.atI ds k = some d := by rw [e]; exact L2.atI_nat h
theorem atI_lastI {ns : List Int} (h : ns ≠ []) : L2.atI (ns.map D.int) (-1) = some (.int (cf ns (ns.length - 1))) := by
  have hl : 0 < ns.length := List.length_pos_iff.mpr h
  have e : ns = ns.take (ns.length - 1) ++ [cf ns (ns.length - 1)] := by
    have h1 : ns.length - 1 < ns.length := by omega
    have h2 := List.take_append_drop (ns.length - 1) ns
    rw [List.drop_eq_getElem_cons h1, List.drop_of_length_le (by omega)] at h2
    rw [cf_lt h1]; exact h2.symm
  generalize hm : cf ns (ns.length - 1) = z at *
  rw [e, List.map_append]
  exact L2.atI_last _ _
theorem cutD_take (xs : List D) (n : Nat) : cutD xs none (some (n : Int)) = xs.take n := by
  unfold cutD
  rw [HT.sIx_none, HT.sIx_nat, List.drop_zero, Nat.sub_zero]
  by_cases h : n ≤ xs.length
  · rw [Nat.min_eq_left h]
  · rw [Nat.min_eq_right (by omega), List.take_of_length_le (Nat.le_refl _), List.take_of_length_le (by omega)]
theorem mWh_pos {c : Env → R (Bool × Env)} {b : Env → R Fl} {n : Nat} {Γ : Env} (h : 0 < n) : mWh c b n Γ = (c Γ).bind fun x => if x.1 = true then (b x.2).bind fun f => (match f with
    | .nx Γ1 => mWh c b (n - 1) Γ1
    | .ct Γ1 => mWh c b (n - 1) Γ1
    | .bk Γ1 => .ok (.nx Γ1)
    | .rt w Γ1 => .ok (.rt w Γ1)) else .ok (.nx x.2) := by
  cases n with
  | zero => omega
  | succ n => rfl
mutual
theorem eqv_refl : ∀ d : PyData, PyData.canLay0 d = true → PyData.eqv d d = true
  | .none, _ => by simp [PyData.eqv]
  | .bool _, _ => by simp [PyData.eqv]
  | .int _, _ => by simp [PyData.eqv]
  | .str _, _ => by simp [PyData.eqv]
  | .list xs, h => by rw [PyData.eqv]; exact eqvA_refl xs (by simpa [PyData.canLay0] using h)
  | .tuple xs, h => by rw [PyData.eqv]; exact eqvA_refl xs (by simpa [PyData.canLay0] using h)
  | .dict _, h => by simp [PyData.canLay0] at h
theorem eqvA_refl : ∀ ds : List PyData, PyData.canLayAll0 ds = true → PyData.eqvAll ds ds = true
  | [], _ => by simp [PyData.eqvAll]
  | d :: ds, h => by
    have h' : PyData.canLay0 d = true ∧ PyData.canLayAll0 ds = true := by simpa [PyData.canLayAll0] using h
    rw [PyData.eqvAll, eqv_refl d h'.1, eqvA_refl ds h'.2]; rfl
end
theorem toPA_ints : ∀ ns : List Int, toPA (ns.map D.int) = ns.map PyData.int
  | [] => by simp [toPA]
  | n :: ns => by rw [List.map_cons, toPA, toPA_ints ns]; simp [toP]
theorem lay_ints : ∀ ns : List Int, PyData.canLayAll0 (ns.map PyData.int) = true
  | [] => by simp [PyData.canLayAll0]
  | n :: ns => by simp [PyData.canLayAll0, PyData.canLay0, lay_ints ns]
theorem dep_ints : ∀ ns : List Int, PyData.depthAll (ns.map PyData.int) = 0
  | [] => by simp [PyData.depthAll]
  | n :: ns => by simp [PyData.depthAll, PyData.depth, dep_ints ns]
theorem shp_int (i : Int) : shp (.int i) = true := by simp [shp, toP, SeqAt.shaped, PyData.canLay0, PyData.depth]
theorem shp_bl (i : Bool) : shp (.bl i) = true := by simp [shp, toP, SeqAt.shaped, PyData.canLay0, PyData.depth]
theorem shp_non : shp .non = true := by simp [shp, toP, SeqAt.shaped, PyData.canLay0, PyData.depth]
theorem shp_tI (ns : List Int) : shp (.tup (ns.map D.int)) = true := by simp [shp, toP, toPA_ints, SeqAt.shaped, PyData.canLay0, PyData.depth, lay_ints, dep_ints]
theorem shp_lI (ns : List Int) : shp (.lst (ns.map D.int)) = true := by simp [shp, toP, toPA_ints, SeqAt.shaped, PyData.canLay0, PyData.depth, lay_ints, dep_ints]
theorem shp_nil : shp (.tup []) = true := shp_tI []
theorem shp_nilL : shp (.lst []) = true := shp_lI []
theorem eqvA_ints : ∀ a b : List Int, PyData.eqvAll (a.map PyData.int) (b.map PyData.int) = decide (a = b)
  | [], [] => by simp [PyData.eqvAll]
  | [], _ :: _ => by simp [PyData.eqvAll]
  | _ :: _, [] => by simp [PyData.eqvAll]
  | x :: a, y :: b => by
    simp only [List.map_cons, PyData.eqvAll, PyData.eqv, eqvA_ints a b]
    by_cases h : x = y <;> by_cases h2 : a = b <;> simp [h, h2]
theorem eqD_tI (a b : List Int) : eqD (.tup (a.map D.int)) (.tup (b.map D.int)) = decide (a = b) := by simp [eqD, toP, toPA_ints, PyData.eqv, eqvA_ints]
theorem eqD_lI (a b : List Int) : eqD (.lst (a.map D.int)) (.lst (b.map D.int)) = decide (a = b) := by simp [eqD, toP, toPA_ints, PyData.eqv, eqvA_ints]
theorem eqD_tn (a : List Int) : eqD (.tup (a.map D.int)) (.tup []) = decide (a = []) := eqD_tI a []
theorem eqD_int (a b : Int) : eqD (.int a) (.int b) = decide (a = b) := by
  by_cases h : a = b <;> simp [eqD, toP, PyData.eqv, h]
theorem eqD_bl (a b : Bool) : eqD (.bl a) (.bl b) = decide (a = b) := by
  cases a <;> cases b <;> simp [eqD, toP, PyData.eqv]
theorem fEq_int (a b : Int) : fEq [.int a, .int b] = some (.v (.bl (decide (a = b)))) := by simp [fEq, shp_int, eqD_int]
theorem fNe_int (a b : Int) : fNe [.int a, .int b] = some (.v (.bl (!decide (a = b)))) := by simp [fNe, shp_int, eqD_int]
theorem fEq_bl (a b : Bool) : fEq [.bl a, .bl b] = some (.v (.bl (decide (a = b)))) := by simp [fEq, shp_bl, eqD_bl]
theorem fNe_bl (a b : Bool) : fNe [.bl a, .bl b] = some (.v (.bl (!decide (a = b)))) := by simp [fNe, shp_bl, eqD_bl]
theorem fEq_tn (a : List Int) : fEq [.tup (a.map D.int), .tup []] = some (.v (.bl (decide (a = [])))) := by simp [fEq, shp_tI, shp_nil, eqD_tn]
theorem fNe_tn (a : List Int) : fNe [.tup (a.map D.int), .tup []] = some (.v (.bl (!decide (a = [])))) := by simp [fNe, shp_tI, shp_nil, eqD_tn]
theorem fEq_tI (a b : List Int) : fEq [.tup (a.map D.int), .tup (b.map D.int)] = some (.v (.bl (decide (a = b)))) := by simp [fEq, shp_tI, eqD_tI]
theorem fNe_tI (a b : List Int) : fNe [.tup (a.map D.int), .tup (b.map D.int)] = some (.v (.bl (!decide (a = b)))) := by simp [fNe, shp_tI, eqD_tI]
end Rg
namespace Rg
open PySem Rm
theorem mLcL_map {α : Type} (g h : α → D) {f : D → Env → Option Env} {e : Env → R (BV × Env)} {vs : List Nat} {Γ0 : Env} : ∀ (xs : List α) (acc : List D), (∀ x ∈ xs, ∃ Γ1 Γ2, f (g x) Γ0 = some Γ1 ∧ mFz1 e Γ1 = .ok (h x, Γ2) ∧ wipeE Γ2 vs = Γ0) → acc.length + xs.length ≤ SZ →
    mLcL f mYes e vs (xs.map g) Γ0 acc = .ok (acc ++ xs.map h, Γ0)
  | [], acc, _, _ => by simp [mLcL]
  | x :: xs, acc, hx, hl => by
    obtain ⟨Γ1, Γ2, h1, h2, h3⟩ := hx x (List.mem_cons_self ..)
    simp only [List.length_cons] at hl
    simp only [List.map_cons, mLcL, h1, mYes, nox, R.bind, if_true, h2, h3]
    rw [if_pos (by omega), mLcL_map g h xs (acc ++ [h x]) (fun y hy => hx y (List.mem_cons_of_mem _ hy)) (by simp; omega)]
    simp
theorem mLcL_inv {f : D → Env → Option Env} {e : Env → R (BV × Env)} {vs : List Nat} (I : Env → Prop) (P : D → Prop) : ∀ (ds : List D) (Γ : Env) (acc : List D), I Γ → (∀ d ∈ ds, ∀ Γ, I Γ → ∃ Γ1 y Γ2, f d Γ = some Γ1 ∧ mFz1 e Γ1 = .ok (y, Γ2) ∧ P y ∧ I (wipeE Γ2 vs)) → acc.length + ds.length ≤ SZ →
    ∃ ys Γ', mLcL f mYes e vs ds Γ acc = .ok (acc ++ ys, Γ') ∧ ys.length = ds.length ∧ (∀ y ∈ ys, P y) ∧ I Γ'
  | [], Γ, acc, i, _, _ => ⟨[], Γ, by simp [mLcL], rfl, by simp, i⟩
  | d :: ds, Γ, acc, i, hx, hl => by
    obtain ⟨Γ1, y, Γ2, h1, h2, h3, h4⟩ := hx d (List.mem_cons_self ..) Γ i
    simp only [List.length_cons] at hl
    obtain ⟨ys, Γ', q1, q2, q3, q4⟩ := mLcL_inv I P ds (wipeE Γ2 vs) (acc ++ [y]) h4 (fun d hd => hx d (List.mem_cons_of_mem _ hd)) (by simp; omega)
    refine ⟨y :: ys, Γ', ?_, by simp [q2], ?_, q4⟩
    · simp only [mLcL, h1, mYes, nox, R.bind, if_true, h2]
      rw [if_pos (by omega), q1]
      simp
    · intro z hz
      rcases List.mem_cons.mp hz with rfl | hz
      · exact h3
      · exact q3 z hz
theorem mLcL_rel {f : D → Env → Option Env} {e : Env → R (BV × Env)} {vs : List Nat} (I : Env → Prop) (P : D → D → Prop) : ∀ (ds : List D) (Γ : Env) (acc : List D), I Γ → (∀ d ∈ ds, ∀ Γ, I Γ → ∃ Γ1 y Γ2, f d Γ = some Γ1 ∧ mFz1 e Γ1 = .ok (y, Γ2) ∧ P d y ∧ I (wipeE Γ2 vs)) → acc.length + ds.length ≤ SZ →
    ∃ ys Γ', mLcL f mYes e vs ds Γ acc = .ok (acc ++ ys, Γ') ∧ ys.length = ds.length ∧ (∀ y ∈ ys, ∃ d ∈ ds, P d y) ∧ I Γ'
  | [], Γ, acc, i, _, _ => ⟨[], Γ, by simp [mLcL], rfl, by simp, i⟩
  | d :: ds, Γ, acc, i, hx, hl => by
    obtain ⟨Γ1, y, Γ2, h1, h2, h3, h4⟩ := hx d (List.mem_cons_self ..) Γ i
    simp only [List.length_cons] at hl
    obtain ⟨ys, Γ', q1, q2, q3, q4⟩ := mLcL_rel I P ds (wipeE Γ2 vs) (acc ++ [y]) h4 (fun d hd => hx d (List.mem_cons_of_mem _ hd)) (by simp; omega)
    refine ⟨y :: ys, Γ', ?_, by simp [q2], ?_, q4⟩
    · simp only [mLcL, h1, mYes, nox, R.bind, if_true, h2]
      rw [if_pos (by omega), q1]
      simp
    · intro z hz
      rcases List.mem_cons.mp hz with rfl | hz
      · exact ⟨d, List.mem_cons_self .., h3⟩
      · obtain ⟨d', hd, hp⟩ := q3 z hz
        exact ⟨d', List.mem_cons_of_mem _ hd, hp⟩
theorem mForL_inv {f : D → Env → Option Env} {b : Env → R Fl} (I : Env → Prop) : ∀ (ds : List D) (Γ : Env), I Γ → (∀ d ∈ ds, ∀ Γ, I Γ → ∃ Γ1 Γ2, f d Γ = some Γ1 ∧ b Γ1 = .ok (.nx Γ2) ∧ I Γ2) → ∃ Γ', mForL f b ds Γ = .ok (.nx Γ') ∧ I Γ'
  | [], Γ, i, _ => ⟨Γ, by simp [mForL], i⟩
  | d :: ds, Γ, i, hx => by
    obtain ⟨Γ1, Γ2, h1, h2, h3⟩ := hx d (List.mem_cons_self ..) Γ i
    obtain ⟨Γ', q1, q2⟩ := mForL_inv I ds Γ2 h3 (fun d hd => hx d (List.mem_cons_of_mem _ hd))
    exact ⟨Γ', by simp only [mForL, h1, h2, R.bind]; exact q1, q2⟩
theorem mForL_cons {f : D → Env → Option Env} {b : Env → R Fl} {d : D} {ds : List D} {Γ Γ1 Γ2 : Env} (h1 : f d Γ = some Γ1) (h2 : b Γ1 = .ok (.nx Γ2)) : mForL f b (d :: ds) Γ = mForL f b ds Γ2 := by
  simp only [mForL, h1, h2, R.bind]
theorem mForL_nil {f : D → Env → Option Env} {b : Env → R Fl} {Γ : Env} : mForL f b [] Γ = .ok (.nx Γ) := rfl
theorem flat1 (x : D) (n : Nat) : (List.replicate n [x]).flatten = List.replicate n x := by
  induction n with
  | zero => rfl
  | succ n ih => simp only [List.replicate_succ, List.flatten_cons, ih]; rfl
theorem fMul_l1 (x : D) (k : Int) (h1 : -1000000 ≤ k) (h2 : k ≤ 1000000) : fMul [.lst [x], .int k] = some (.o (List.replicate k.toNat x)) := by
  have h : 1 * k.toNat ≤ SZ := by unfold SZ; omega
  simp only [fMul, List.length_cons, List.length_nil, Nat.zero_add]
  rw [if_pos ⟨h1, h2, h⟩, flat1]
theorem fMul_int {i j : Int} (h : (-(2 ^ 64) < i ∧ i < 2 ^ 64) ∨ (-(2 ^ 64) < j ∧ j < 2 ^ 64)) : fMul [.int i, .int j] = some (.v (.int (i * j))) := by simp only [fMul]; rw [if_pos h]
theorem fMul_sm {i j : Int} (h1 : -1000000 ≤ j) (h2 : j ≤ 1000000) : fMul [.int i, .int j] = some (.v (.int (i * j))) := fMul_int (.inr ⟨by omega, by omega⟩)
theorem fMul_sml {i j : Int} (h1 : -1000000 ≤ i) (h2 : i ≤ 1000000) : fMul [.int i, .int j] = some (.v (.int (i * j))) := fMul_int (.inl ⟨by omega, by omega⟩)
theorem fAdd_int (i j : Int) : fAdd [.int i, .int j] = some (.v (.int (i + j))) := rfl
theorem fAdd_l {a b : List D} (h : a.length + b.length ≤ SZ) : fAdd [.lst a, .lst b] = some (.o (a ++ b)) := by simp only [fAdd]; rw [if_pos h]
theorem fMod_pos {i j : Int} (h : 0 < j) : fMod [.int i, .int j] = some (.v (.int (i % j))) := by simp only [fMod]; rw [if_pos h]
theorem fDiv_pos {i j : Int} (h : 0 < j) (h2 : j < 2 ^ 128) : fDiv [.int i, .int j] = some (.v (.int (i / j))) := by simp only [fDiv]; rw [if_pos ⟨h, h2⟩]
theorem sz1 {n : Nat} (h : n ≤ 1000000) : n ≤ SZ := h
theorem blsOf_mapf {α : Type} (q : α → Bool) (xs : List α) : blsOf (xs.map fun x => D.bl (q x)) = some (xs.map q) := by
  induction xs with
  | nil => rfl
  | cons x xs ih => simp only [List.map_cons, blsOf, ih]; rfl
theorem fAll_map {α : Type} (q : α → Bool) (xs : List α) : fAll [.lst (xs.map fun x => D.bl (q x))] = some (.v (.bl (xs.all q))) := by
  simp only [fAll, blsOf_mapf]
  simp
theorem fAll_true {α : Type} (xs : List α) : fAll [.lst (xs.map fun _ => D.bl true)] = some (.v (.bl true)) := by
  rw [fAll_map (fun _ => true)]; simp
theorem mFz1_v {e : Env → R (BV × Env)} {Γ Γ' : Env} {d : D} (h : e Γ = .ok (.v d, Γ')) : mFz1 e Γ = .ok (d, Γ') := by simp [mFz1, h, R.bind, BV.fz]
theorem mFz1_o {e : Env → R (BV × Env)} {Γ Γ' : Env} {ds : List D} (h : e Γ = .ok (.o ds, Γ')) : mFz1 e Γ = .ok (.lst ds, Γ') := by simp [mFz1, h, R.bind, BV.fz]
theorem mLc_map {α : Type} (g h : α → D) (xs : List α) {mi : Env → R (List D × Env)} {f : D → Env → Option Env} {e : Env → R (BV × Env)} {vs : List Nat} {Γ Γ1 : Env} (hi : mi Γ = .ok (xs.map g, Γ1)) (hl : xs.length ≤ 1000000)
    (hx : ∀ x ∈ xs, ∃ Γ2 Γ3, f (g x) (wipeE Γ1 vs) = some Γ2 ∧ mFz1 e Γ2 = .ok (h x, Γ3) ∧ wipeE Γ3 vs = wipeE Γ1 vs) : mLc mi f mYes e vs Γ = .ok (.o (xs.map h), wipeE Γ1 vs) := by
  simp only [mLc, hi, R.bind]
  rw [mLcL_map g h xs [] hx (by unfold SZ; simp; omega)]
  simp
theorem enumD_map (g : Int → D) : ∀ (k : Nat) (ns : List Int), enumD k (ns.map g) = (ns.zipIdx k).map fun x => .tup [.int (x.2 : Int), g x.1]
  | _, [] => rfl
  | k, n :: ns => by simp only [List.map_cons, enumD, enumD_map g (k + 1) ns, List.zipIdx_cons]
theorem zipD_ints : ∀ (a b : List Int), zipD (a.map D.int) (b.map D.int) = (a.zip b).map fun x => .tup [.int x.1, .int x.2]
  | [], _ => by simp [zipD]
  | _ :: _, [] => by simp [zipD]
  | x :: a, y :: b => by simp [zipD, zipD_ints a b]
theorem zip_zw (f : Int → Int → Int) : ∀ (a b : List Int), (a.zip b).map (fun x => f x.1 x.2) = zw f a b
  | [], _ => by simp [zw]
  | _ :: _, [] => by simp [zw]
  | x :: a, y :: b => by simp [zw, zip_zw f a b]
theorem ints_of {ds : List D} {P : Int → Prop} (h : ∀ d ∈ ds, ∃ n, d = .int n ∧ P n) : ∃ ns : List Int, ds = ns.map D.int ∧ ∀ n ∈ ns, P n := by
  induction ds with
  | nil => exact ⟨[], rfl, by simp⟩
  | cons d ds ih =>
    obtain ⟨n, rfl, hn⟩ := h d (List.mem_cons_self ..)
    obtain ⟨ns, rfl, hs⟩ := ih fun x hx => h x (List.mem_cons_of_mem _ hx)
    exact ⟨n :: ns, rfl, fun m hm => by
      rcases List.mem_cons.mp hm with rfl | hm
      · exact hn
      · exact hs m hm⟩
theorem cast_max (m n : Nat) : (if (n : Int) > (m : Int) then (n : Int) else (m : Int)) = ((max m n : Nat) : Int) := by
  split <;> omega
theorem mR1_n {ma : Env → R (List BV × Env)} {Γ Γ1 : Env} {n : Nat} (h : mFzA ma Γ = .ok ([.int n], Γ1)) (hn : n ≤ 1000000) : mR1 ma Γ = .ok (rngD 0 1 n, Γ1) := by
  have h2 : -(2 ^ 62) ≤ (n : Int) ∧ (n : Int) < 2 ^ 62 := by omega
  simp only [mR1, h, R.bind, if_pos h2, Int.toNat_natCast]
theorem ixN_nat {n k : Nat} {i : Int} (e : i = k) (h : k < n) : L2.ixN n i = some k := by
  subst e
  have h1 : (0 : Int) ≤ (k : Int) := by omega
  have h2 : (k : Int) < (n : Int) := by omega
  simp only [L2.ixN, if_pos h1, if_pos h2, Int.toNat_natCast]
theorem fEq_nn : fEq [.tup [], .tup []] = some (.v (.bl true)) := fEq_tn []
theorem at4_0 (a b c d : D) : L2.atI [a, b, c, d] 0 = some a := rfl
theorem at4_1 (a b c d : D) : L2.atI [a, b, c, d] 1 = some b := rfl
theorem at4_2 (a b c d : D) : L2.atI [a, b, c, d] 2 = some c := rfl
theorem at4_3 (a b c d : D) : L2.atI [a, b, c, d] 3 = some d := rfl
theorem ix4_1 : L2.ixN 4 1 = some 1 := rfl
theorem ix4_2 : L2.ixN 4 2 = some 2 := rfl
theorem ix4_3 : L2.ixN 4 3 = some 3 := rfl
theorem at2_0 (a b : D) : L2.atI [a, b] 0 = some a := rfl
theorem at2_1 (a b : D) : L2.atI [a, b] 1 = some b := rfl
theorem is2_int (n : Int) : fIsi2 "list" "tuple" [.int n] = some (.v (.bl false)) := rfl
theorem is2_bl (n : Bool) : fIsi2 "list" "tuple" [.bl n] = some (.v (.bl false)) := rfl
theorem is2_non : fIsi2 "list" "tuple" [.non] = some (.v (.bl false)) := rfl
theorem is2_str (s : Str) : fIsi2 "list" "tuple" [.str s] = some (.v (.bl false)) := rfl
theorem is2_tup (ds : List D) : fIsi2 "list" "tuple" [.tup ds] = some (.v (.bl true)) := rfl
theorem is2_lst (ds : List D) : fIsi2 "list" "tuple" [.lst ds] = some (.v (.bl true)) := rfl
theorem is_lt (ds : List D) : fIsi [.tup ds, .ty "list"] = some (.v (.bl false)) := rfl
theorem is_ll (ds : List D) : fIsi [.lst ds, .ty "list"] = some (.v (.bl true)) := rfl
theorem is_bi (n : Int) : fIsi [.int n, .ty "bool"] = some (.v (.bl false)) := rfl
theorem is_ii (n : Int) : fIsi [.int n, .ty "int"] = some (.v (.bl true)) := rfl
theorem is_si (n : Int) : fIsi [.int n, .ty "str"] = some (.v (.bl false)) := rfl
theorem is_bb (n : Bool) : fIsi [.bl n, .ty "bool"] = some (.v (.bl true)) := rfl
theorem is_ib (n : Bool) : fIsi [.bl n, .ty "int"] = some (.v (.bl true)) := rfl
theorem is_sb (n : Bool) : fIsi [.bl n, .ty "str"] = some (.v (.bl false)) := rfl
theorem is_bs (n : Str) : fIsi [.str n, .ty "bool"] = some (.v (.bl false)) := rfl
theorem is_is (n : Str) : fIsi [.str n, .ty "int"] = some (.v (.bl false)) := rfl
theorem is_ss (n : Str) : fIsi [.str n, .ty "str"] = some (.v (.bl true)) := rfl
theorem zipD_self (ds : List D) : zipD ds ds = ds.map fun d => .tup [d, d] := by
  induction ds with
  | nil => rfl
  | cons d ds ih => simp only [zipD, ih, List.map_cons]
def Dr (xs : List D) : Prop := ∃ (cs : List Int) (i : Nat) (j k : Int), xs = [.lst (cs.map D.int), .int i, .int j, .int k] ∧ cs.length ≤ 63 ∧ 0 ≤ j ∧ 0 ≤ k ∧ k < 2147483647
inductive Pl : Nat → D → Prop
  | int {k : Nat} (n : Int) : Pl (k + 1) (.int n)
  | bl {k : Nat} (n : Bool) : Pl (k + 1) (.bl n)
  | non {k : Nat} : Pl (k + 1) .non
  | str {k : Nat} {s : Str} : PyData.strOk s = true → Pl (k + 1) (.str s)
  | tup {k : Nat} {ds : List D} : ds.length ≤ 1000000 → (∀ d ∈ ds, Pl k d) → Pl (k + 1) (.tup ds)
  | lst {k : Nat} {ds : List D} : ds.length ≤ 1000000 → (∀ d ∈ ds, Pl k d) → Pl (k + 1) (.lst ds)
theorem Pl.mono {k m : Nat} {d : D} (h : Pl k d) : k ≤ m → Pl m d := by
  induction h generalizing m with
  | int n => intro h; cases m with | zero => omega | succ m => exact .int n
  | bl n => intro h; cases m with | zero => omega | succ m => exact .bl n
  | non => intro h; cases m with | zero => omega | succ m => exact .non
  | str q => intro h; cases m with | zero => omega | succ m => exact .str q
  | tup hl h ih => intro h; cases m with | zero => omega | succ m => exact .tup hl fun d hd => ih d hd (by omega)
  | lst hl h ih => intro h; cases m with | zero => omega | succ m => exact .lst hl fun d hd => ih d hd (by omega)
theorem Pl.tI {ns : List Int} (h : ns.length ≤ 1000000) : Pl 2 (.tup (ns.map D.int)) := .tup (by simpa using h) fun d hd => by
  obtain ⟨n, _, rfl⟩ := List.mem_map.mp hd
  exact .int n
theorem shp_str {s : Str} (h : PyData.strOk s = true) : shp (.str s) = true := by simp [shp, toP, SeqAt.shaped, PyData.canLay0, PyData.depth, h]
theorem fEq_str {s : Str} (h : PyData.strOk s = true) : fEq [.str s, .str s] = some (.v (.bl true)) := by simp [fEq, shp_str h, eqD, toP, PyData.eqv]
theorem mAugIx_ok {k : Nat} {bf : List D → Option Nw} {mi me : Env → R (BV × Env)} {Γ Γ1 Γ2 : Env} {i a b c : Int} {xs xs0 ys : List D} {j : Nat} (h0 : gt Γ k = .o xs0) (h1 : mi Γ = .ok (.v (.int i), Γ1)) (h2 : gt Γ1 k = .o xs) (h3 : 0 ≤ i ∧ i < 2 ^ 63) (h5 : xs[i.toNat]? = some (.int a)) (h6 : me Γ1 = .ok (.v (.int b), Γ2)) (h7 : gt Γ2 k = .o ys)
    (h8 : bf [.int a, .int b] = some (.v (.int c))) (h9 : L2.ixN ys.length i = some j) : mAugIx k bf mi me Γ = .ok (.nx (Γ2.set k (.o (ys.set j (.int c))))) := by
  unfold mAugIx
  simp only [h0, h1, h2, h6, h7, h8, h9, R.bind]
  rw [if_pos h3]
  simp only [h5, h8]
theorem z1 : ((0 : Nat) < 1) = True := eq_true (by decide)
theorem z2 : ((0 : Nat) < 2) = True := eq_true (by decide)
theorem z3 : ((0 : Nat) < 3) = True := eq_true (by decide)
theorem z4 : ((0 : Nat) < 4) = True := eq_true (by decide)
theorem z5 : ((0 : Nat) < 5) = True := eq_true (by decide)
theorem z6 : ((0 : Nat) < 6) = True := eq_true (by decide)
theorem z7 : ((0 : Nat) < 7) = True := eq_true (by decide)
theorem z8 : ((0 : Nat) < 8) = True := eq_true (by decide)
theorem z9 : ((0 : Nat) < 9) = True := eq_true (by decide)
theorem z10 : ((0 : Nat) < 10) = True := eq_true (by decide)
theorem z11 : ((0 : Nat) < 11) = True := eq_true (by decide)
theorem z12 : ((0 : Nat) < 12) = True := eq_true (by decide)
theorem z13 : ((0 : Nat) < 13) = True := eq_true (by decide)
theorem z14 : ((0 : Nat) < 14) = True := eq_true (by decide)
theorem z15 : ((0 : Nat) < 15) = True := eq_true (by decide)
theorem z16 : ((0 : Nat) < 16) = True := eq_true (by decide)
theorem z17 : ((0 : Nat) < 17) = True := eq_true (by decide)
theorem z18 : ((0 : Nat) < 18) = True := eq_true (by decide)
theorem z19 : ((0 : Nat) < 19) = True := eq_true (by decide)
theorem z20 : ((0 : Nat) < 20) = True := eq_true (by decide)
theorem z21 : ((0 : Nat) < 21) = True := eq_true (by decide)
theorem z22 : ((0 : Nat) < 22) = True := eq_true (by decide)
theorem z23 : ((0 : Nat) < 23) = True := eq_true (by decide)
theorem z24 : ((0 : Nat) < 24) = True := eq_true (by decide)
theorem lfA_ints : ∀ ns : List Int, lfA (ns.map D.int) = true
  | [] => rfl
  | n :: ns => by simp only [List.map_cons, lfA, lf, lfA_ints ns]; rfl
theorem fEq_tl (a : List Int) (b : List D) (c : List Int) (e : b = c.map D.int) : fEq [.tup (a.map D.int), .tup b] = some (.v (.bl (decide (a = c)))) := by rw [e]; exact fEq_tI a c
end Rg
namespace Rg
open PySem PySem.Spec PyProof.Rows L2 HT
theorem adjust_back (n : Nat) : Builtin.Slice.sliceAdjust none none (-1) (n : Int) = ((n : Int) - 1, -1) := by
  simp [Builtin.Slice.sliceAdjust]
theorem places_back (n : Nat) : Builtin.Slice.slicePlaces ((n : Int) - 1) (-1) (-1) = n := by
  simp [Builtin.Slice.slicePlaces]
  omega
theorem pick_back (xs : Array Value) : ((List.range xs.size).filterMap fun (m : Nat) => xs[(((xs.size : Int) - 1) + (m : Int) * (-1)).toNat]?).toArray = xs.toList.reverse.toArray := by
  have e : (fun (m : Nat) => xs[(((xs.size : Int) - 1) + (m : Int) * (-1)).toNat]?) = (fun k => xs[k]?) ∘ fun m => xs.size - 1 - m := by
    funext m
    have : (((xs.size : Int) - 1) + (m : Int) * (-1)).toNat = xs.size - 1 - m := by omega
    rw [this]; rfl
  rw [e, ← List.filterMap_map, PySem.W.krv_range, List.filterMap_reverse, PySem.W.krv_all]
section
variable {prog : Program} {w : World} {A : Around} {E : Value → Shared → Prop} {s : Shared}
theorem applied_back {sl : Addr} {vl vu vs : Value} {n : Nat} {Q : Int × Int × Nat → Shared → Prop} (hs : s.heap.IsSliceOf sl vl vu vs) (pl : IsPart vl none) (pu : IsPart vu none) (ps : IsPart vs (some (-1))) (h : Q ((n : Int) - 1, -1, n) s) :
    wpAny (model prog w) A (Builtin.Slice.sliceApplied (.ref sl) (pure (n : Int))) Q E s := by
  obtain ⟨o, ho, hc, hd⟩ := id hs
  unfold Builtin.Slice.sliceApplied Builtin.Slice.sliceFields
  refine wpAny_bind (wpAny_bind (wpAny_field ho hd (x := vl) rfl (wpAny_bind (wpAny_field ho hd (x := vu) rfl (wpAny_bind (wpAny_field ho hd (x := vs) rfl (wpAny_pure ?_)))))))
  refine wpAny_bind (slicePart_ ps ?_)
  show wpAny _ _ (if ((-1 : Int) == 0) = true then _ else _) _ _ s
  rw [if_neg (by decide)]
  refine wpAny_bind (slicePart_ pl (wpAny_bind (slicePart_ pu (wpAny_bind (wpAny_pure ?_)))))
  show wpAny _ _ (match Builtin.Slice.sliceAdjust none none (-1) (n : Int) with | (lo, hi) => pure (lo, (-1 : Int), Builtin.Slice.slicePlaces lo hi (-1))) _ _ s
  rw [adjust_back n]
  show wpAny _ _ (pure ((n : Int) - 1, (-1 : Int), Builtin.Slice.slicePlaces ((n : Int) - 1) (-1) (-1))) _ _ s
  rw [places_back]
  exact wpAny_pure h
theorem item_back {t sl : Addr} {items : Array Value} {vl vu vs : Value} {Q : Value → Shared → Prop} (ht : IsTup s.heap t items) (hs : s.heap.IsSliceOf sl vl vu vs) (pl : IsPart vl none) (pu : IsPart vu none) (ps : IsPart vs (some (-1)))
    (h : Q (.ref s.heap.objs.size) { s with heap := s.heap.push { cls := .type "tuple", data := .seq items.toList.reverse.toArray } }) (hsz : items.size ≤ sizeLine) : wpAny (model prog w) A (getItem (.ref t) (.ref sl)) Q E s := by
  have fits : sizeOk (.seq items.toList.reverse.toArray) := by
    show items.toList.reverse.toArray.size ≤ sizeLine
    simpa using hsz
  obtain ⟨o, ho, hc, hd⟩ := id hs
  have hTs : s.TypeIs (.ref sl) "slice" := ⟨o, ho, hc⟩
  unfold getItem
  try with_reducible refine wpAny_holding ?_
  first | refine wpAny_bind (wpAny_pure ?_) | skip
  refine wpAny_bind (wpAny_sequenceKey ht.typeIs (by decide) ?_)
  refine wpAny_bind (wpAny_callSpecial?_slot (name := Str.ofString "__getitem__") ht.typeIs PyProof.Rows.slot_tuple_getitem (wpAny_call_entry PyProof.Rows.slot_tuple_getitem ht.typeIs entry_tuple_getitem ?_ (args_tuple_getitem _ _)))
  show wpAny _ _ (Builtin.Tuple.tupleItemsOf (.ref t) >>= _) _ _ s
  refine wpAny_bind (tupleItemsOf_ ht (wpAny_bind (wpAny_typeOf hTs ?_)))
  rw [if_pos (by decide)]
  refine wpAny_bind (applied_back hs pl pu ps ?_)
  show wpAny _ _ (if ((((items.size : Int) - 1) == 0) && ((-1 : Int) == 1) && items.size == items.size) = true then _ else _) _ _ s
  rw [if_neg (by simp), pick_back]
  first
    | exact wpAny_bind (m := Builtin.Tuple.tupleExact _) (wpAny_newObj_type (wpAny_pure ⟨_, rfl, wpAny_pure h⟩) fits)
    | exact wpAny_bind (m := Builtin.Tuple.tupleExact _) (wpAny_newObj_type (wpAny_bind (wpAny_pure (wpAny_pure ⟨_, rfl, wpAny_pure h⟩))) fits)
    | exact wpAny_bind (wpAny_bind (m := Builtin.Tuple.tupleExact _) (wpAny_newObj_type (wpAny_pure (wpAny_pure ⟨_, rfl, wpAny_pure h⟩)) fits))
    | exact wpAny_bind (wpAny_bind (m := Builtin.Tuple.tupleExact _) (wpAny_newObj_type (wpAny_pure ⟨_, rfl, wpAny_pure h⟩) fits))
end
section
variable {X : Cx} {W : WX} {e : Expr} {me : Env → R (BV × Env)}
def rBack (K : PySem.W.Frag) (x : V) (H : Hp) (Q : VK) : Prop := ∃ a xs, x = .ref a ∧ ((SqL K H a xs ∧ ∀ p, H p = none → Q (.ref p) (upd H p (.lst xs.reverse))) ∨ (SqT K H a xs ∧ ∀ p, H p = none → Q (.ref p) (upd H p (.tup xs.reverse))))
def tBackT (K : PySem.W.Frag) (te : TE) : TE := fun σ H Q => te σ H fun x H1 => rBack K x H1 Q
theorem pe_backT {te : TE} {k : Nat} {p1 p2 p3 pos : Pos} (he : PE X e te) : PE X (.Subscript e (.Slice none none (some (.UnaryOp .USub (.Constant (.int 1) k p1) p2)) p3) pos) (tBackT X.K te) := by
  constructor
  intro pins s σ H Q I h
  refine Subscript_ (thn (he.run pins s σ H _ I h) fun v s1 ⟨x, H1, I1, r1, a, xs, ex, alt⟩ => ?_)
  subst ex
  cases r1
  have step : PO X (some (.UnaryOp .USub (.Constant (.int 1) k p1) p2)) (tPart (tUn (rU fun i => .int (-i)) (tC (.int 1)))) := po_some (pe_un un_neg pe_int)
  refine wpAny_Slice (thn (po_none.run pins s1 σ H1 (fun o H2 => o = none ∧ H2 = H1) I1 ⟨rfl, rfl⟩) fun vl s2 ⟨l, H2, I2, pl, el, e2⟩ => ?_)
  subst el
  subst e2
  refine thn (po_none.run pins s2 σ H2 (fun o H3 => o = none ∧ H3 = H2) I2 ⟨rfl, rfl⟩) fun vu s3 ⟨u, H3, I3, pu, eu, e3⟩ => ?_
  subst eu
  subst e3
  refine thn (step.run pins s3 σ H3 (fun o H4 => o = some (-1) ∧ H4 = H3) I3 ⟨1, rfl, -1, rfl, rfl, rfl⟩) fun vs s4 ⟨o, H4, I4, ps, eo, e4⟩ => ?_
  subst eo
  subst e4
  have I5 : Inv X pins σ H4 { s4 with heap := s4.heap.push { cls := .type "slice", data := .fields #[vl, vu, vs] } } := I4.kept (t' := s4.toks) fun b ob q => Heap.get?_push_of_some _ q
  show wpAny (model X.prog X.w) X.A (subscriptTail e (.Slice none none (some (.UnaryOp .USub (.Constant (.int 1) k p1) p2)) p3) (.ref a) (.ref s4.heap.objs.size)) (EP X pins σ Q) X.xe { s4 with heap := s4.heap.push { cls := .type "slice", data := .fields #[vl, vu, vs] } }
  rcases alt with ⟨hx, q⟩ | ⟨hx, q⟩
  · obtain ⟨its, r, ht, hz⟩ := I5.list hx
    refine tail_any (ops := [.ref a, .ref s4.heap.objs.size]) ht.isList.typeIs (PySem.slot_list_getitem.lookup) ?_ (by with_unfolding_all rfl)
    refine wpAny_getItem_list_slice ht.isList (Heap.IsSliceOf.new _ vl vu vs) pl pu ps (by decide) ?_ (by rw [List.size_toArray, ← r.length]; exact hz)
    rw [PySem.W.krv_pick]
    exact ⟨.ref _, _, I5.laid (t' := s4.toks) (o := .lst xs.reverse) (fun b ob q => Heap.get?_push_of_some _ q) (Nat.le_refl _) ⟨by rw [List.length_reverse]; exact hz, _, 0, r.reverse, Heap.get?_push_size _ rfl⟩, rfl, q _ (I5.hok.fresh (Nat.le_refl _))⟩
  · obtain ⟨its, r, ht, hz⟩ := I5.tuple hx
    refine tail_any (ops := [.ref a, .ref s4.heap.objs.size]) ht.typeIs (PyProof.Rows.slot_tuple_getitem.lookup) ?_ (by with_unfolding_all rfl)
    refine item_back ht (Heap.IsSliceOf.new _ vl vu vs) pl pu ps ?_ (by rw [List.size_toArray, ← r.length]; exact hz)
    exact ⟨.ref _, _, I5.laid (t' := s4.toks) (o := .tup xs.reverse) (fun b ob q => Heap.get?_push_of_some _ q) (Nat.le_refl _) ⟨by rw [List.length_reverse]; exact hz, _, r.reverse, ⟨_, Heap.get?_push_size _ rfl, rfl, _, rfl⟩⟩, rfl, q _ (I5.hok.fresh (Nat.le_refl _))⟩
def fRev : List D → Option Nw
  | [.lst xs] => some (.o xs.reverse)
  | [.tup xs] => some (.v (.tup xs.reverse))
  | _ => none
theorem sx_rev {k : Nat} {p1 p2 p3 pos : Pos} (h : SX X W e me) : SX X W (.Subscript e (.Slice none none (some (.UnaryOp .USub (.Constant (.int 1) k p1) p2)) p3) pos) (mB fRev (mA1 me mA0)) := by
  obtain ⟨t, p, s⟩ := h
  refine ⟨_, pe_backT p, sdX_B (r := fun vs H Q => match vs with | [x] => rBack X.K x H Q | _ => False) (sdA_cons s sdA_nil) (fun σ H Q h => h) fun F H vs ds nw Q e hv hf hy => ?_⟩
  unfold fRev at hf
  split at hf
  · cases hf
    obtain ⟨x, rfl, h1⟩ := hv.one
    obtain ⟨p, vs, rfl, h2, h3⟩ := h1.lst e
    exact ⟨p, vs, rfl, .inl ⟨SqL.of h2, fun q hq => hy q _ hq h3.reverse⟩⟩
  · cases hf
    obtain ⟨x, rfl, h1⟩ := hv.one
    obtain ⟨p, vs, rfl, h2, h3⟩ := h1.tup e
    exact ⟨p, vs, rfl, .inr ⟨h2, fun q hq => hy.2 _ q _ rfl hq h3.reverse⟩⟩
  · cases hf
end
end Rg
namespace Mn
open PySem Rg Rm
abbrev Env := Rg.Env
def k_PRIMES : List Int := [2, 3, 5, 7, 11, 13, 17, 19, 23, 29, 31, 37, 41, 43, 47, 53, 59, 61, 67, 71, 73, 79, 83, 89, 97]
noncomputable def B_is_prime : Env → R Fl :=
  (mRet (mB (two (fIn false)) (mA1 (mN 0) (mA1 (mK (.tup (k_PRIMES.map D.int))) mA0))))
noncomputable def M_is_prime : List D → R Nw := fin 1 B_is_prime 0
noncomputable def B_need_prime : Env → R Fl :=
  (mIf (mNot (mT (mCall M_is_prime (mA1 (mN 0) mA0)))) (mRaise "BadPrime" [] mA0) mNx)
noncomputable def M_need_prime : List D → R Nw := fin 1 B_need_prime 0
noncomputable def B_is_rest : Env → R Fl :=
  (mRet (mCh (fun i j => decide (i ≤ j)) (fun i j => decide (i < j)) (mK (.int 0)) (mN 0) (mN 1)))
noncomputable def M_is_rest : List D → R Nw := fin 2 B_is_rest 0
noncomputable def Wc_raised_1 : Env → R (Bool × Env) :=
  (mT (mB (two fGt) (mA1 (mN 1) (mA1 (mK (.int 0)) mA0))))
noncomputable def Wb_raised_1 : Env → R Fl :=
  (mSeq (mIf (mT (mB (two fEq) (mA1 (mB (two fMod) (mA1 (mN 1) (mA1 (mK (.int 2)) mA0))) (mA1 (mK (.int 1)) mA0)))) (mSet 3 (mB (two fMod) (mA1 (mB (two fMul) (mA1 (mN 3) (mA1 (mN 4) mA0))) (mA1 (mN 2) mA0)))) mNx)
  (mSeq (mSet 4 (mB (two fMod) (mA1 (mB (two fMul) (mA1 (mN 4) (mA1 (mN 4) mA0))) (mA1 (mN 2) mA0))))
  (mAug 1 fDiv (mK (.int 2)))))
noncomputable def B_raised : Env → R Fl :=
  (mSeq (mSet 3 (mK (.int 1)))
  (mSeq (mSet 4 (mN 0))
  (mSeq (mWh Wc_raised_1 Wb_raised_1 FUEL)
  (mRet (mN 3)))))
noncomputable def M_raised : List D → R Nw := fin 3 B_raised 2
noncomputable def B_turned_over : Env → R Fl :=
  (mRet (mCall M_raised (mA1 (mN 0) (mA1 (mB (two fSub) (mA1 (mN 1) (mA1 (mK (.int 2)) mA0))) (mA1 (mN 1) mA0)))))
noncomputable def M_turned_over : List D → R Nw := fin 2 B_turned_over 0
noncomputable def B_need_rest : Env → R Fl :=
  (mSeq (mDrop (mCall M_need_prime (mA1 (mN 1) mA0)))
  (mIf (mNot (mT (mCall M_is_rest (mA1 (mN 0) (mA1 (mN 1) mA0))))) (mRaise "BadRest" [] mA0) mNx))
noncomputable def M_need_rest : List D → R Nw := fin 2 B_need_rest 0
noncomputable def B_undone : Env → R Fl :=
  (mSeq (mDrop (mCall M_need_rest (mA1 (mN 0) (mA1 (mN 1) mA0))))
  (mSeq (mIf (mT (mB (two fEq) (mA1 (mN 0) (mA1 (mK (.int 0)) mA0)))) (mRaise "NoInverse" [] mA0) mNx)
  (mRet (mCall M_turned_over (mA1 (mN 0) (mA1 (mN 1) mA0))))))
noncomputable def M_undone : List D → R Nw := fin 2 B_undone 0
noncomputable def B_powered : Env → R Fl :=
  (mSeq (mDrop (mCall M_need_rest (mA1 (mN 0) (mA1 (mN 2) mA0))))
  (mSeq (mIf (mT (mB (two fGe) (mA1 (mN 1) (mA1 (mK (.int 0)) mA0)))) (mRet (mCall M_raised (mA1 (mN 0) (mA1 (mN 1) (mA1 (mN 2) mA0))))) mNx)
  (mSeq (mIf (mT (mB (two fEq) (mA1 (mN 0) (mA1 (mK (.int 0)) mA0)))) (mRaise "NoInverse" [] mA0) mNx)
  (mRet (mCall M_raised (mA1 (mCall M_turned_over (mA1 (mN 0) (mA1 (mN 2) mA0))) (mA1 (mB (two fSub) (mA1 (mK (.int 0)) (mA1 (mN 1) mA0))) (mA1 (mN 2) mA0))))))))
noncomputable def M_powered : List D → R Nw := fin 3 B_powered 0
noncomputable def B__law_begin : Env → R Fl :=
  (mRet (mLst (mA1 (mB fList (mA1 (mB fSlH (mA1 (mN 0) (mA1 (mK (.int 63)) mA0))) mA0)) (mA1 (mK (.int 0)) (mA1 (mK (.int 0)) (mA1 (mK (.int 37)) mA0))))))
noncomputable def M__law_begin : List D → R Nw := fin 1 B__law_begin 0
noncomputable def B__law_take : Env → R Fl :=
  (mSeq (mIf (mAnd (mT (mB (two fLt) (mA1 (mB (two fIx) (mA1 (mN 0) (mA1 (mK (.int 2)) mA0))) (mA1 (mN 1) mA0)))) (mT (mB (two fLt) (mA1 (mB (two fIx) (mA1 (mN 0) (mA1 (mK (.int 1)) mA0))) (mA1 (mB fLen (mA1 (mB (two fIx) (mA1 (mN 0) (mA1 (mK (.int 0)) mA0))) mA0)) mA0))))) (mSeq (mSet 2 (mB (two fIx) (mA1 (mB (two fIx) (mA1 (mN 0) (mA1 (mK (.int 0)) mA0))) (mA1 (mB (two fIx) (mA1 (mN 0) (mA1 (mK (.int 1)) mA0))) mA0))))
  (mSeq (mSetIx 0 (mK (.int 1)) (mB (two fAdd) (mA1 (mB (two fIx) (mA1 (mN 0) (mA1 (mK (.int 1)) mA0))) (mA1 (mK (.int 1)) mA0))))
  (mSeq (mSetIx 0 (mK (.int 2)) (mK (.int 0)))
  (mIf (mT (mB (two fGe) (mA1 (mB fAbs (mA1 (mN 2) mA0)) (mA1 (mB (two fPow) (mA1 (mK (.int 10)) (mA1 (mK (.int 18)) mA0))) mA0)))) (mSetIx 0 (mK (.int 2)) (mB fAbs (mA1 (mN 2) mA0))) (mSetIx 0 (mK (.int 3)) (mB (two fMod) (mA1 (mB (two fAdd) (mA1 (mB (two fAdd) (mA1 (mB (two fMul) (mA1 (mB (two fIx) (mA1 (mN 0) (mA1 (mK (.int 3)) mA0))) (mA1 (mK (.int 48271)) mA0))) (mA1 (mB (two fMul) (mA1 (mB (two fMod) (mA1 (mN 2) (mA1 (mK (.int 2147483629)) mA0))) (mA1 (mK (.int 69621)) mA0))) mA0))) (mA1 (mK (.int 12345)) mA0))) (mA1 (mK (.int 2147483647)) mA0)))))))) mNx)
  (mSeq (mIf (mT (mB (two fGe) (mA1 (mB (two fIx) (mA1 (mN 0) (mA1 (mK (.int 2)) mA0))) (mA1 (mN 1) mA0)))) (mSeq (mSet 3 (mB (two fMod) (mA1 (mB (two fIx) (mA1 (mN 0) (mA1 (mK (.int 2)) mA0))) (mA1 (mN 1) mA0))))
  (mSeq (mSetIx 0 (mK (.int 2)) (mB (two fDiv) (mA1 (mB (two fIx) (mA1 (mN 0) (mA1 (mK (.int 2)) mA0))) (mA1 (mN 1) mA0))))
  (mRet (mN 3)))) mNx)
  (mSeq (mSetIx 0 (mK (.int 3)) (mB (two fMod) (mA1 (mB (two fAdd) (mA1 (mB (two fAdd) (mA1 (mB (two fMul) (mA1 (mB (two fMod) (mA1 (mB (two fMul) (mA1 (mB (two fIx) (mA1 (mN 0) (mA1 (mK (.int 3)) mA0))) (mA1 (mB (two fIx) (mA1 (mN 0) (mA1 (mK (.int 3)) mA0))) mA0))) (mA1 (mK (.int 2147483629)) mA0))) (mA1 (mK (.int 5)) mA0))) (mA1 (mB (two fMul) (mA1 (mB (two fIx) (mA1 (mN 0) (mA1 (mK (.int 3)) mA0))) (mA1 (mK (.int 16811)) mA0))) mA0))) (mA1 (mK (.int 2531011)) mA0))) (mA1 (mK (.int 2147483647)) mA0))))
  (mRet (mB (two fMod) (mA1 (mB (two fAdd) (mA1 (mB (two fDiv) (mA1 (mB (two fIx) (mA1 (mN 0) (mA1 (mK (.int 3)) mA0))) (mA1 (mK (.int 61)) mA0))) (mA1 (mB (two fMul) (mA1 (mB (two fMod) (mA1 (mB (two fIx) (mA1 (mN 0) (mA1 (mK (.int 3)) mA0))) (mA1 (mK (.int 8191)) mA0))) (mA1 (mK (.int 31)) mA0))) mA0))) (mA1 (mN 1) mA0)))))))
noncomputable def M__law_take : List D → List D → R (Nw × List D) := finI 1 B__law_take 2
noncomputable def B__law_of : Env → R Fl :=
  (mRet (mB (two fIx) (mA1 (mN 1) (mA1 (mCallI M__law_take (mA1 (mN 0) (mA1 (mB fLen (mA1 (mN 1) mA0)) mA0))) mA0))))
noncomputable def M__law_of : List D → List D → R (Nw × List D) := finI 1 B__law_of 0
noncomputable def Le__law_same_1 (M__law_same : List D → R Nw) : Env → R (BV × Env) :=
  (mCall M__law_same (mA1 (mN 2) (mA1 (mN 3) mA0)))
noncomputable def B__law_same (M__law_same : List D → R Nw) : Env → R Fl :=
  (mSeq (mIf (mT (mB (fIsi2 "list" "tuple") (mA1 (mN 1) mA0))) (mSeq (mIf (mOr (mT (mB (two fNe) (mA1 (mB fIsi (mA1 (mN 0) (mA1 (mK (.ty "list")) mA0))) (mA1 (mB fIsi (mA1 (mN 1) (mA1 (mK (.ty "list")) mA0))) mA0)))) (mNot (mT (mB (fIsi2 "list" "tuple") (mA1 (mN 0) mA0))))) (mRet (mK (.bl false))) mNx)
  (mRet (mAndV (mB (two fEq) (mA1 (mB fLen (mA1 (mN 0) mA0)) (mA1 (mB fLen (mA1 (mN 1) mA0)) mA0))) (mB fAll (mA1 (mLc (mZa (mA1 (mN 0) (mA1 (mN 1) mA0))) (gT 2 (gs1 (gN 2) (gs1 (gN 3) gs0))) mYes (Le__law_same_1 M__law_same) [2, 3]) mA0))))) mNx)
  (mSeq (mIf (mT (mB (two (fIs false)) (mA1 (mN 1) (mA1 (mK .non) mA0)))) (mRet (mB (two (fIs false)) (mA1 (mN 0) (mA1 (mK .non) mA0)))) mNx)
  (mSeq (mIf (mOr (mT (mB (two fNe) (mA1 (mB fIsi (mA1 (mN 0) (mA1 (mK (.ty "bool")) mA0))) (mA1 (mB fIsi (mA1 (mN 1) (mA1 (mK (.ty "bool")) mA0))) mA0)))) (mT (mB (two fNe) (mA1 (mB fIsi (mA1 (mN 0) (mA1 (mK (.ty "int")) mA0))) (mA1 (mB fIsi (mA1 (mN 1) (mA1 (mK (.ty "int")) mA0))) mA0))))) (mRet (mK (.bl false))) mNx)
  (mRet (mAndV (mB (two fEq) (mA1 (mB fIsi (mA1 (mN 0) (mA1 (mK (.ty "str")) mA0))) (mA1 (mB fIsi (mA1 (mN 1) (mA1 (mK (.ty "str")) mA0))) mA0))) (mB (two fEq) (mA1 (mN 0) (mA1 (mN 1) mA0))))))))
noncomputable def M__law_same_ : Nat → List D → R Nw
  | 0 => fun _ => .bad
  | k + 1 => fin 2 (B__law_same (M__law_same_ k)) 2
noncomputable def M__law_same : List D → R Nw := M__law_same_ 8
theorem M__law_same_len : ∀ ds, ds.length ≠ 2 → M__law_same ds = .bad := fun ds h => fin_len ds h
noncomputable def B__law_primes : Env → R Fl :=
  (mRet (mLst (mA1 (mK (.int 2)) (mA1 (mK (.int 3)) (mA1 (mK (.int 5)) (mA1 (mK (.int 7)) (mA1 (mK (.int 11)) (mA1 (mK (.int 13)) (mA1 (mK (.int 17)) (mA1 (mK (.int 19)) (mA1 (mK (.int 23)) (mA1 (mK (.int 29)) (mA1 (mK (.int 31)) (mA1 (mK (.int 37)) (mA1 (mK (.int 41)) (mA1 (mK (.int 43)) (mA1 (mK (.int 47)) (mA1 (mK (.int 53)) (mA1 (mK (.int 59)) (mA1 (mK (.int 61)) (mA1 (mK (.int 67)) (mA1 (mK (.int 71)) (mA1 (mK (.int 73)) (mA1 (mK (.int 79)) (mA1 (mK (.int 83)) (mA1 (mK (.int 89)) (mA1 (mK (.int 97)) mA0)))))))))))))))))))))))))))
noncomputable def M__law_primes : List D → R Nw := fin 0 B__law_primes 0
noncomputable def B__law_any_prime : Env → R Fl :=
  (mRet (mCallI M__law_of (mA1 (mN 0) (mA1 (mCallI M__law_of (mA1 (mN 0) (mA1 (mLst (mA1 (mLst (mA1 (mK (.int 2)) mA0)) (mA1 (mLst (mA1 (mK (.int 3)) (mA1 (mK (.int 5)) (mA1 (mK (.int 7)) mA0)))) (mA1 (mLst (mA1 (mK (.int 2)) (mA1 (mK (.int 97)) mA0))) (mA1 (mCall M__law_primes mA0) mA0))))) mA0))) mA0))))
noncomputable def M__law_any_prime : List D → List D → R (Nw × List D) := finI 0 B__law_any_prime 0
noncomputable def B__law_bad_prime : Env → R Fl :=
  (mRet (mCallI M__law_of (mA1 (mN 0) (mA1 (mLst (mA1 (mK (.int 0)) (mA1 (mK (.int 1)) (mA1 (mK (.int 4)) (mA1 (mK (.int 9)) (mA1 (mK (.int 91)) (mA1 (mK (.int 101)) (mA1 (mNeg (mK (.int 2))) (mA1 (mNeg (mK (.int 97))) (mA1 (mB (two fPow) (mA1 (mK (.int 10)) (mA1 (mK (.int 20)) mA0))) (mA1 (mB (two fAdd) (mA1 (mK (.int 4)) (mA1 (mB (two fMul) (mA1 (mK (.int 2)) (mA1 (mCallI M__law_take (mA1 (mN 0) (mA1 (mB (two fPow) (mA1 (mK (.int 10)) (mA1 (mK (.int 9)) mA0))) mA0))) mA0))) mA0))) mA0))))))))))) mA0))))
noncomputable def M__law_bad_prime : List D → List D → R (Nw × List D) := finI 0 B__law_bad_prime 0
noncomputable def B__law_far : Env → R Fl :=
  (mRet (mCallI M__law_of (mA1 (mN 0) (mA1 (mLst (mA1 (mN 1) (mA1 (mNeg (mK (.int 1))) (mA1 (mB (two fPow) (mA1 (mK (.int 10)) (mA1 (mK (.int 20)) mA0))) (mA1 (mB (two fAdd) (mA1 (mN 1) (mA1 (mCallI M__law_take (mA1 (mN 0) (mA1 (mB (two fPow) (mA1 (mK (.int 10)) (mA1 (mK (.int 6)) mA0))) mA0))) mA0))) (mA1 (mNeg (mN 1)) mA0)))))) mA0))))
noncomputable def M__law_far : List D → List D → R (Nw × List D) := finI 1 B__law_far 0
noncomputable def Le__law_back_1 : Env → R (BV × Env) :=
  (mN 2)
noncomputable def Lt__law_back_1 : Env → R (Bool × Env) :=
  (mT (mB (two fEq) (mA1 (mB (two fMod) (mA1 (mB (two fMul) (mA1 (mN 2) (mA1 (mN 0) mA0))) (mA1 (mN 1) mA0))) (mA1 (mK (.int 1)) mA0))))
noncomputable def B__law_back : Env → R Fl :=
  (mRet (mB (two fIx) (mA1 (mLc (mR2 (mA1 (mK (.int 1)) (mA1 (mN 1) mA0))) (gN 2) Lt__law_back_1 Le__law_back_1 [2]) (mA1 (mK (.int 0)) mA0))))
noncomputable def M__law_back : List D → R Nw := fin 2 B__law_back 1
noncomputable def Fb__law_raised_1 : Env → R Fl :=
  (mSet 3 (mB (two fMod) (mA1 (mB (two fMul) (mA1 (mN 3) (mA1 (mN 0) mA0))) (mA1 (mN 2) mA0))))
noncomputable def B__law_raised : Env → R Fl :=
  (mSeq (mIf (mT (mB (two fEq) (mA1 (mN 0) (mA1 (mK (.int 0)) mA0)))) (mRet (mB fInt (mA1 (mB (two fEq) (mA1 (mN 1) (mA1 (mK (.int 0)) mA0))) mA0))) mNx)
  (mSeq (mSet 3 (mK (.int 1)))
  (mSeq (mFor (mR1 (mA1 (mB (two fMod) (mA1 (mN 1) (mA1 (mB (two fSub) (mA1 (mN 2) (mA1 (mK (.int 1)) mA0))) mA0))) mA0)) (gN 4) Fb__law_raised_1)
  (mRet (mN 3)))))
noncomputable def M__law_raised : List D → R Nw := fin 3 B__law_raised 2
noncomputable def Le_is_poly_1 : Env → R (BV × Env) :=
  (mCall M_is_rest (mA1 (mN 2) (mA1 (mN 1) mA0)))
noncomputable def B_is_poly : Env → R Fl :=
  (mSeq (mIf (mOr (mT (mB (two fGt) (mA1 (mB fLen (mA1 (mN 0) mA0)) (mA1 (mK (.int 25)) mA0)))) (mNot (mT (mB fAll (mA1 (mLc (mIs (mN 0)) (gN 2) mYes Le_is_poly_1 [2]) mA0))))) (mRet (mK (.bl false))) mNx)
  (mRet (mOrV (mB (two fEq) (mA1 (mN 0) (mA1 (mTup mA0) mA0))) (mB (two fNe) (mA1 (mB (two fIx) (mA1 (mN 0) (mA1 (mNeg (mK (.int 1))) mA0))) (mA1 (mK (.int 0)) mA0))))))
noncomputable def M_is_poly : List D → R Nw := fin 2 B_is_poly 1
noncomputable def Le_need_polys_1 : Env → R (BV × Env) :=
  (mCall M_is_poly (mA1 (mN 2) (mA1 (mN 1) mA0)))
noncomputable def B_need_polys : Env → R Fl :=
  (mSeq (mDrop (mCall M_need_prime (mA1 (mN 1) mA0)))
  (mIf (mNot (mT (mB fAll (mA1 (mLc (mIs (mN 0)) (gN 2) mYes Le_need_polys_1 [2]) mA0)))) (mRaise "BadPoly" [] mA0) mNx))
noncomputable def M_need_polys : List D → R Nw := fin 2 B_need_polys 1
noncomputable def Wc_cut_1 : Env → R (Bool × Env) :=
  (mAnd (mT (mB (two fGt) (mA1 (mN 1) (mA1 (mK (.int 0)) mA0)))) (mT (mB (two fEq) (mA1 (mB (two fIx) (mA1 (mN 0) (mA1 (mB (two fSub) (mA1 (mN 1) (mA1 (mK (.int 1)) mA0))) mA0))) (mA1 (mK (.int 0)) mA0)))))
noncomputable def Wb_cut_1 : Env → R Fl :=
  (mAug 1 fSub (mK (.int 1)))
noncomputable def B_cut : Env → R Fl :=
  (mSeq (mSet 1 (mB fLen (mA1 (mN 0) mA0)))
  (mSeq (mWh Wc_cut_1 Wb_cut_1 FUEL)
  (mRet (mB fTuple (mA1 (mB fSlH (mA1 (mN 0) (mA1 (mN 1) mA0))) mA0)))))
noncomputable def M_cut : List D → R Nw := fin 1 B_cut 1
noncomputable def B_widened : Env → R Fl :=
  (mRet (mB (two fAdd) (mA1 (mB fList (mA1 (mN 0) mA0)) (mA1 (mB (two fMul) (mA1 (mLst (mA1 (mK (.int 0)) mA0)) (mA1 (mB (two fSub) (mA1 (mN 1) (mA1 (mB fLen (mA1 (mN 0) mA0)) mA0))) mA0))) mA0))))
noncomputable def M_widened : List D → R Nw := fin 2 B_widened 0
noncomputable def Le_blended_1 : Env → R (BV × Env) :=
  (mB (two fMod) (mA1 (mB (two fAdd) (mA1 (mN 5) (mA1 (mB (two fMul) (mA1 (mN 2) (mA1 (mN 6) mA0))) mA0))) (mA1 (mN 3) mA0)))
noncomputable def B_blended : Env → R Fl :=
  (mSeq (mSet 4 (mB fMax (mA1 (mB fLen (mA1 (mN 0) mA0)) (mA1 (mB fLen (mA1 (mN 1) mA0)) mA0))))
  (mRet (mCall M_cut (mA1 (mLc (mZa (mA1 (mCall M_widened (mA1 (mN 0) (mA1 (mN 4) mA0))) (mA1 (mCall M_widened (mA1 (mN 1) (mA1 (mN 4) mA0))) mA0))) (gT 2 (gs1 (gN 5) (gs1 (gN 6) gs0))) mYes Le_blended_1 [5, 6]) mA0))))
noncomputable def M_blended : List D → R Nw := fin 4 B_blended 3
noncomputable def B_less : Env → R Fl :=
  (mRet (mCall M_blended (mA1 (mN 0) (mA1 (mN 1) (mA1 (mB (two fSub) (mA1 (mN 2) (mA1 (mK (.int 1)) mA0))) (mA1 (mN 2) mA0))))))
noncomputable def M_less : List D → R Nw := fin 3 B_less 0
noncomputable def Fb_multiplied_2 : Env → R Fl :=
  (mAugIx 3 fAdd (mB (two fAdd) (mA1 (mN 4) (mA1 (mN 6) mA0))) (mB (two fMul) (mA1 (mN 5) (mA1 (mN 7) mA0))))
noncomputable def Fb_multiplied_1 : Env → R Fl :=
  (mIf (mT (mB (two fNe) (mA1 (mN 5) (mA1 (mK (.int 0)) mA0)))) (mFor (mEn (mA1 (mN 1) mA0)) (gT 2 (gs1 (gN 6) (gs1 (gN 7) gs0))) Fb_multiplied_2) mNx)
noncomputable def Le_multiplied_3 : Env → R (BV × Env) :=
  (mB (two fMod) (mA1 (mN 8) (mA1 (mN 2) mA0)))
noncomputable def B_multiplied : Env → R Fl :=
  (mSeq (mIf (mOr (mT (mB (two fEq) (mA1 (mN 0) (mA1 (mTup mA0) mA0)))) (mT (mB (two fEq) (mA1 (mN 1) (mA1 (mTup mA0) mA0))))) (mRet (mTup mA0)) mNx)
  (mSeq (mSet 3 (mB (two fMul) (mA1 (mLst (mA1 (mK (.int 0)) mA0)) (mA1 (mB (two fSub) (mA1 (mB (two fAdd) (mA1 (mB fLen (mA1 (mN 0) mA0)) (mA1 (mB fLen (mA1 (mN 1) mA0)) mA0))) (mA1 (mK (.int 1)) mA0))) mA0))))
  (mSeq (mFor (mEn (mA1 (mN 0) mA0)) (gT 2 (gs1 (gN 4) (gs1 (gN 5) gs0))) Fb_multiplied_1)
  (mRet (mCall M_cut (mA1 (mLc (mIs (mN 3)) (gN 8) mYes Le_multiplied_3 [8]) mA0))))))
noncomputable def M_multiplied : List D → R Nw := fin 3 B_multiplied 6
noncomputable def B_poly_plus : Env → R Fl :=
  (mSeq (mDrop (mCall M_need_polys (mA1 (mTup (mA1 (mN 0) (mA1 (mN 1) mA0))) (mA1 (mN 2) mA0))))
  (mRet (mCall M_blended (mA1 (mN 0) (mA1 (mN 1) (mA1 (mK (.int 1)) (mA1 (mN 2) mA0)))))))
noncomputable def M_poly_plus : List D → R Nw := fin 3 B_poly_plus 0
noncomputable def B_poly_minus : Env → R Fl :=
  (mSeq (mDrop (mCall M_need_polys (mA1 (mTup (mA1 (mN 0) (mA1 (mN 1) mA0))) (mA1 (mN 2) mA0))))
  (mRet (mCall M_less (mA1 (mN 0) (mA1 (mN 1) (mA1 (mN 2) mA0))))))
noncomputable def M_poly_minus : List D → R Nw := fin 3 B_poly_minus 0
noncomputable def B_poly_times : Env → R Fl :=
  (mSeq (mDrop (mCall M_need_polys (mA1 (mTup (mA1 (mN 0) (mA1 (mN 1) mA0))) (mA1 (mN 2) mA0))))
  (mRet (mCall M_multiplied (mA1 (mN 0) (mA1 (mN 1) (mA1 (mN 2) mA0))))))
noncomputable def M_poly_times : List D → R Nw := fin 3 B_poly_times 0
noncomputable def Fb__law_trim_1 : Env → R Fl :=
  (mIf (mAnd (mT (mB (two fGt) (mA1 (mN 1) (mA1 (mK (.int 0)) mA0)))) (mT (mB (two fEq) (mA1 (mB (two fIx) (mA1 (mN 0) (mA1 (mB (two fSub) (mA1 (mN 1) (mA1 (mK (.int 1)) mA0))) mA0))) (mA1 (mK (.int 0)) mA0))))) (mSet 1 (mB (two fSub) (mA1 (mN 1) (mA1 (mK (.int 1)) mA0)))) mNx)
noncomputable def B__law_trim : Env → R Fl :=
  (mSeq (mSet 1 (mB fLen (mA1 (mN 0) mA0)))
  (mSeq (mFor (mR1 (mA1 (mB fLen (mA1 (mN 0) mA0)) mA0)) (gN 2) Fb__law_trim_1)
  (mRet (mB fTuple (mA1 (mB fSlH (mA1 (mN 0) (mA1 (mN 1) mA0))) mA0)))))
noncomputable def M__law_trim : List D → R Nw := fin 1 B__law_trim 2
noncomputable def Le__law_rests_1 : Env → R (BV × Env) :=
  (mCallI M__law_take (mA1 (mN 0) (mA1 (mN 2) mA0)))
noncomputable def B__law_rests : Env → R Fl :=
  (mRet (mLc (mR1 (mA1 (mN 1) mA0)) (gN 3) mYes Le__law_rests_1 [3]))
noncomputable def M__law_rests : List D → List D → R (Nw × List D) := finI 2 B__law_rests 1
noncomputable def Le__law_poly_1 : Env → R (BV × Env) :=
  (mB (two fMul) (mA1 (mN 4) (mA1 (mB fInt (mA1 (mB (two fEq) (mA1 (mCallI M__law_take (mA1 (mN 0) (mA1 (mK (.int 3)) mA0))) (mA1 (mK (.int 0)) mA0))) mA0)) mA0)))
noncomputable def B__law_poly : Env → R Fl :=
  (mSeq (mSet 3 (mCallI M__law_rests (mA1 (mN 0) (mA1 (mCallI M__law_take (mA1 (mN 0) (mA1 (mB (two fAdd) (mA1 (mN 1) (mA1 (mK (.int 1)) mA0))) mA0))) (mA1 (mN 2) mA0)))))
  (mSeq (mIf (mT (mB (two fEq) (mA1 (mCallI M__law_take (mA1 (mN 0) (mA1 (mK (.int 4)) mA0))) (mA1 (mK (.int 0)) mA0)))) (mSet 3 (mLc (mIs (mN 3)) (gN 4) mYes Le__law_poly_1 [4])) mNx)
  (mRet (mCall M__law_trim (mA1 (mN 3) mA0)))))
noncomputable def M__law_poly : List D → List D → R (Nw × List D) := finI 2 B__law_poly 2
noncomputable def Le__law_blend_1 : Env → R (BV × Env) :=
  (mB (two fAdd) (mA1 (mB fList (mA1 (mN 6) mA0)) (mA1 (mB (two fMul) (mA1 (mLst (mA1 (mK (.int 0)) mA0)) (mA1 (mB (two fSub) (mA1 (mN 4) (mA1 (mB fLen (mA1 (mN 6) mA0)) mA0))) mA0))) mA0)))
noncomputable def Le__law_blend_2 : Env → R (BV × Env) :=
  (mB (two fMod) (mA1 (mB (two fAdd) (mA1 (mN 7) (mA1 (mB (two fMul) (mA1 (mN 2) (mA1 (mN 8) mA0))) mA0))) (mA1 (mN 3) mA0)))
noncomputable def B__law_blend : Env → R Fl :=
  (mSeq (mSet 4 (mB fMax (mA1 (mB fLen (mA1 (mN 0) mA0)) (mA1 (mB fLen (mA1 (mN 1) mA0)) mA0))))
  (mSeq (mSet 5 (mLc (mIs (mTup (mA1 (mN 0) (mA1 (mN 1) mA0)))) (gN 6) mYes Le__law_blend_1 [6]))
  (mRet (mCall M__law_trim (mA1 (mLc (mZa (mA1 (mB (two fIx) (mA1 (mN 5) (mA1 (mK (.int 0)) mA0))) (mA1 (mB (two fIx) (mA1 (mN 5) (mA1 (mK (.int 1)) mA0))) mA0))) (gT 2 (gs1 (gN 7) (gs1 (gN 8) gs0))) mYes Le__law_blend_2 [7, 8]) mA0)))))
noncomputable def M__law_blend : List D → R Nw := fin 4 B__law_blend 5
noncomputable def Fb__law_conv_2 : Env → R Fl :=
  (mSetIx 3 (mB (two fAdd) (mA1 (mN 4) (mA1 (mN 6) mA0))) (mB (two fMod) (mA1 (mB (two fAdd) (mA1 (mB (two fIx) (mA1 (mN 3) (mA1 (mB (two fAdd) (mA1 (mN 4) (mA1 (mN 6) mA0))) mA0))) (mA1 (mB (two fMul) (mA1 (mN 5) (mA1 (mN 7) mA0))) mA0))) (mA1 (mN 2) mA0))))
noncomputable def Fb__law_conv_1 : Env → R Fl :=
  (mFor (mEn (mA1 (mN 1) mA0)) (gT 2 (gs1 (gN 6) (gs1 (gN 7) gs0))) Fb__law_conv_2)
noncomputable def B__law_conv : Env → R Fl :=
  (mSeq (mSet 3 (mB (two fMul) (mA1 (mLst (mA1 (mK (.int 0)) mA0)) (mA1 (mB (two fAdd) (mA1 (mB fLen (mA1 (mN 0) mA0)) (mA1 (mB fLen (mA1 (mN 1) mA0)) mA0))) mA0))))
  (mSeq (mFor (mEn (mA1 (mN 0) mA0)) (gT 2 (gs1 (gN 4) (gs1 (gN 5) gs0))) Fb__law_conv_1)
  (mRet (mN 3))))
noncomputable def M__law_conv : List D → R Nw := fin 3 B__law_conv 5
noncomputable def B__law_mul : Env → R Fl :=
  (mRet (mCall M__law_trim (mA1 (mCall M__law_conv (mA1 (mN 0) (mA1 (mN 1) (mA1 (mN 2) mA0)))) mA0)))
noncomputable def M__law_mul : List D → R Nw := fin 3 B__law_mul 0
noncomputable def Fb_divided_2 : Env → R Fl :=
  (mSetIx 3 (mB (two fAdd) (mA1 (mN 7) (mA1 (mN 9) mA0))) (mB (two fMod) (mA1 (mB (two fSub) (mA1 (mB (two fIx) (mA1 (mN 3) (mA1 (mB (two fAdd) (mA1 (mN 7) (mA1 (mN 9) mA0))) mA0))) (mA1 (mB (two fMul) (mA1 (mN 8) (mA1 (mN 10) mA0))) mA0))) (mA1 (mN 2) mA0))))
noncomputable def Fb_divided_1 : Env → R Fl :=
  (mSeq (mSet 8 (mB (two fMod) (mA1 (mB (two fMul) (mA1 (mB (two fIx) (mA1 (mN 3) (mA1 (mB (two fSub) (mA1 (mB (two fAdd) (mA1 (mN 7) (mA1 (mN 4) mA0))) (mA1 (mK (.int 1)) mA0))) mA0))) (mA1 (mN 5) mA0))) (mA1 (mN 2) mA0))))
  (mSeq (mSetIx 6 (mN 7) (mN 8))
  (mIf (mT (mB (two fNe) (mA1 (mN 8) (mA1 (mK (.int 0)) mA0)))) (mFor (mEn (mA1 (mN 1) mA0)) (gT 2 (gs1 (gN 9) (gs1 (gN 10) gs0))) Fb_divided_2) mNx)))
noncomputable def B_divided : Env → R Fl :=
  (mSeq (mSet 3 (mB fList (mA1 (mN 0) mA0)))
  (mSeq (mSet 4 (mB fLen (mA1 (mN 1) mA0)))
  (mSeq (mSet 5 (mCall M_turned_over (mA1 (mB (two fIx) (mA1 (mN 1) (mA1 (mNeg (mK (.int 1))) mA0))) (mA1 (mN 2) mA0))))
  (mSeq (mSet 6 (mB (two fMul) (mA1 (mLst (mA1 (mK (.int 0)) mA0)) (mA1 (mB fMax (mA1 (mK (.int 0)) (mA1 (mB (two fAdd) (mA1 (mB (two fSub) (mA1 (mB fLen (mA1 (mN 0) mA0)) (mA1 (mN 4) mA0))) (mA1 (mK (.int 1)) mA0))) mA0))) mA0))))
  (mSeq (mFor (mR3 (mA1 (mB (two fSub) (mA1 (mB fLen (mA1 (mN 0) mA0)) (mA1 (mN 4) mA0))) (mA1 (mNeg (mK (.int 1))) (mA1 (mNeg (mK (.int 1))) mA0)))) (gN 7) Fb_divided_1)
  (mRet (mTup (mA1 (mCall M_cut (mA1 (mN 6) mA0)) (mA1 (mCall M_cut (mA1 (mB fSlH (mA1 (mN 3) (mA1 (mB (two fSub) (mA1 (mN 4) (mA1 (mK (.int 1)) mA0))) mA0))) mA0)) mA0)))))))))
noncomputable def M_divided : List D → R Nw := fin 3 B_divided 8
noncomputable def B_poly_parted : Env → R Fl :=
  (mSeq (mDrop (mCall M_need_polys (mA1 (mTup (mA1 (mN 0) (mA1 (mN 1) mA0))) (mA1 (mN 2) mA0))))
  (mSeq (mIf (mT (mB (two fEq) (mA1 (mN 1) (mA1 (mTup mA0) mA0)))) (mRaise "NoInverse" [] mA0) mNx)
  (mRet (mCall M_divided (mA1 (mN 0) (mA1 (mN 1) (mA1 (mN 2) mA0)))))))
noncomputable def M_poly_parted : List D → R Nw := fin 3 B_poly_parted 0
noncomputable def Fb__law_cut_by_2 : Env → R Fl :=
  (mSeq (mSet 11 (mB (two fAdd) (mA1 (mB (two fSub) (mA1 (mN 7) (mA1 (mN 4) mA0))) (mA1 (mN 9) mA0))))
  (mSetIx 3 (mN 11) (mB (two fMod) (mA1 (mB (two fSub) (mA1 (mB (two fIx) (mA1 (mN 3) (mA1 (mN 11) mA0))) (mA1 (mB (two fMul) (mA1 (mN 8) (mA1 (mN 10) mA0))) mA0))) (mA1 (mN 2) mA0)))))
noncomputable def Fb__law_cut_by_1 : Env → R Fl :=
  (mSeq (mSet 8 (mB (two fMod) (mA1 (mB (two fMul) (mA1 (mB (two fIx) (mA1 (mN 3) (mA1 (mN 7) mA0))) (mA1 (mN 5) mA0))) (mA1 (mN 2) mA0))))
  (mSeq (mSetIx 6 (mB (two fSub) (mA1 (mN 7) (mA1 (mN 4) mA0))) (mN 8))
  (mFor (mEn (mA1 (mN 1) mA0)) (gT 2 (gs1 (gN 9) (gs1 (gN 10) gs0))) Fb__law_cut_by_2)))
noncomputable def B__law_cut_by : Env → R Fl :=
  (mSeq (mSet 3 (mB fList (mA1 (mN 0) mA0)))
  (mSeq (mSet 4 (mB (two fSub) (mA1 (mB fLen (mA1 (mN 1) mA0)) (mA1 (mK (.int 1)) mA0))))
  (mSeq (mSet 5 (mCall M__law_back (mA1 (mB (two fIx) (mA1 (mN 1) (mA1 (mNeg (mK (.int 1))) mA0))) (mA1 (mN 2) mA0))))
  (mSeq (mSet 6 (mB (two fMul) (mA1 (mLst (mA1 (mK (.int 0)) mA0)) (mA1 (mB fMax (mA1 (mK (.int 0)) (mA1 (mB (two fSub) (mA1 (mB fLen (mA1 (mN 0) mA0)) (mA1 (mN 4) mA0))) mA0))) mA0))))
  (mSeq (mFor (mR3 (mA1 (mB (two fSub) (mA1 (mB fLen (mA1 (mN 0) mA0)) (mA1 (mK (.int 1)) mA0))) (mA1 (mB (two fSub) (mA1 (mN 4) (mA1 (mK (.int 1)) mA0))) (mA1 (mNeg (mK (.int 1))) mA0)))) (gN 7) Fb__law_cut_by_1)
  (mRet (mTup (mA1 (mCall M__law_trim (mA1 (mN 6) mA0)) (mA1 (mCall M__law_trim (mA1 (mB fSlH (mA1 (mN 3) (mA1 (mN 4) mA0))) mA0)) mA0)))))))))
noncomputable def M__law_cut_by : List D → R Nw := fin 3 B__law_cut_by 9
noncomputable def Le_scaled_1 : Env → R (BV × Env) :=
  (mB (two fMod) (mA1 (mB (two fMul) (mA1 (mN 3) (mA1 (mN 1) mA0))) (mA1 (mN 2) mA0)))
noncomputable def B_scaled : Env → R Fl :=
  (mRet (mCall M_cut (mA1 (mLc (mIs (mN 0)) (gN 3) mYes Le_scaled_1 [3]) mA0)))
noncomputable def M_scaled : List D → R Nw := fin 3 B_scaled 1
noncomputable def Le_shared_2 : Env → R (BV × Env) :=
  (mCall M_less (mA1 (mB (two fIx) (mA1 (mN 3) (mA1 (mN 9) mA0))) (mA1 (mCall M_multiplied (mA1 (mN 5) (mA1 (mB (two fIx) (mA1 (mN 4) (mA1 (mN 9) mA0))) (mA1 (mN 2) mA0)))) (mA1 (mN 2) mA0))))
noncomputable def Wc_shared_1 : Env → R (Bool × Env) :=
  (mT (mB (two fNe) (mA1 (mB (two fIx) (mA1 (mN 4) (mA1 (mK (.int 0)) mA0))) (mA1 (mTup mA0) mA0))))
noncomputable def Wb_shared_1 : Env → R Fl :=
  (mSeq (mAsg (gT 2 (gs1 (gN 5) (gs1 (gN 6) gs0))) (mCall M_divided (mA1 (mB (two fIx) (mA1 (mN 3) (mA1 (mK (.int 0)) mA0))) (mA1 (mB (two fIx) (mA1 (mN 4) (mA1 (mK (.int 0)) mA0))) (mA1 (mN 2) mA0)))))
  (mSeq (mSet 7 (mLc (mIs (mTup (mA1 (mK (.int 1)) (mA1 (mK (.int 2)) mA0)))) (gN 9) mYes Le_shared_2 [9]))
  (mAsg (gT 2 (gs1 (gN 3) (gs1 (gN 4) gs0))) (mTup (mA1 (mN 4) (mA1 (mTup (mA1 (mN 6) (mA1 (mB (two fIx) (mA1 (mN 7) (mA1 (mK (.int 0)) mA0))) (mA1 (mB (two fIx) (mA1 (mN 7) (mA1 (mK (.int 1)) mA0))) mA0)))) mA0))))))
noncomputable def Le_shared_3 : Env → R (BV × Env) :=
  (mCall M_scaled (mA1 (mN 10) (mA1 (mN 8) (mA1 (mN 2) mA0))))
noncomputable def B_shared : Env → R Fl :=
  (mSeq (mAsg (gT 2 (gs1 (gN 3) (gs1 (gN 4) gs0))) (mTup (mA1 (mTup (mA1 (mN 0) (mA1 (mTup (mA1 (mK (.int 1)) mA0)) (mA1 (mTup mA0) mA0)))) (mA1 (mTup (mA1 (mN 1) (mA1 (mTup mA0) (mA1 (mTup (mA1 (mK (.int 1)) mA0)) mA0)))) mA0))))
  (mSeq (mWh Wc_shared_1 Wb_shared_1 FUEL)
  (mSeq (mIf (mT (mB (two fEq) (mA1 (mB (two fIx) (mA1 (mN 3) (mA1 (mK (.int 0)) mA0))) (mA1 (mTup mA0) mA0)))) (mRet (mN 3)) mNx)
  (mSeq (mSet 8 (mCall M_turned_over (mA1 (mB (two fIx) (mA1 (mB (two fIx) (mA1 (mN 3) (mA1 (mK (.int 0)) mA0))) (mA1 (mNeg (mK (.int 1))) mA0))) (mA1 (mN 2) mA0))))
  (mRet (mB fTuple (mA1 (mLc (mIs (mN 3)) (gN 10) mYes Le_shared_3 [10]) mA0)))))))
noncomputable def M_shared : List D → R Nw := fin 3 B_shared 8
noncomputable def B_poly_common : Env → R Fl :=
  (mSeq (mDrop (mCall M_need_polys (mA1 (mTup (mA1 (mN 0) (mA1 (mN 1) mA0))) (mA1 (mN 2) mA0))))
  (mRet (mCall M_shared (mA1 (mN 0) (mA1 (mN 1) (mA1 (mN 2) mA0))))))
noncomputable def M_poly_common : List D → R Nw := fin 3 B_poly_common 0
noncomputable def B__law_rem : Env → R Fl :=
  (mRet (mB (two fIx) (mA1 (mCall M__law_cut_by (mA1 (mN 0) (mA1 (mN 1) (mA1 (mN 2) mA0)))) (mA1 (mK (.int 1)) mA0))))
noncomputable def M__law_rem : List D → R Nw := fin 3 B__law_rem 0
noncomputable def Le__law_all_rests_1 : Env → R (BV × Env) :=
  (mAndV (mB fIsi (mA1 (mN 2) (mA1 (mK (.ty "int")) mA0))) (mAndV (mNotV (mB fIsi (mA1 (mN 2) (mA1 (mK (.ty "bool")) mA0)))) (mCh (fun i j => decide (i ≤ j)) (fun i j => decide (i < j)) (mK (.int 0)) (mN 2) (mN 1))))
noncomputable def B__law_all_rests : Env → R Fl :=
  (mRet (mB fAll (mA1 (mLc (mIs (mN 0)) (gN 2) mYes Le__law_all_rests_1 [2]) mA0)))
noncomputable def M__law_all_rests : List D → R Nw := fin 2 B__law_all_rests 1
noncomputable def B_left_by : Env → R Fl :=
  (mRet (mB (two fIx) (mA1 (mCall M_divided (mA1 (mN 0) (mA1 (mN 1) (mA1 (mN 2) mA0)))) (mA1 (mK (.int 1)) mA0))))
noncomputable def M_left_by : List D → R Nw := fin 3 B_left_by 0
noncomputable def Wc_left_raised_1 : Env → R (Bool × Env) :=
  (mT (mB (two fGt) (mA1 (mN 1) (mA1 (mK (.int 0)) mA0))))
noncomputable def Wb_left_raised_1 : Env → R Fl :=
  (mSeq (mIf (mT (mB (two fEq) (mA1 (mB (two fMod) (mA1 (mN 1) (mA1 (mK (.int 2)) mA0))) (mA1 (mK (.int 1)) mA0)))) (mSet 4 (mCall M_left_by (mA1 (mCall M_multiplied (mA1 (mN 4) (mA1 (mN 5) (mA1 (mN 3) mA0)))) (mA1 (mN 2) (mA1 (mN 3) mA0))))) mNx)
  (mSeq (mSet 5 (mCall M_left_by (mA1 (mCall M_multiplied (mA1 (mN 5) (mA1 (mN 5) (mA1 (mN 3) mA0)))) (mA1 (mN 2) (mA1 (mN 3) mA0)))))
  (mAug 1 fDiv (mK (.int 2)))))
noncomputable def B_left_raised : Env → R Fl :=
  (mSeq (mSet 4 (mCall M_left_by (mA1 (mTup (mA1 (mK (.int 1)) mA0)) (mA1 (mN 2) (mA1 (mN 3) mA0)))))
  (mSeq (mSet 5 (mCall M_left_by (mA1 (mN 0) (mA1 (mN 2) (mA1 (mN 3) mA0)))))
  (mSeq (mWh Wc_left_raised_1 Wb_left_raised_1 FUEL)
  (mRet (mN 4)))))
noncomputable def M_left_raised : List D → R Nw := fin 4 B_left_raised 2
noncomputable def Fb_put_through_1 : Env → R Fl :=
  (mSet 4 (mCall M_left_by (mA1 (mCall M_blended (mA1 (mCall M_multiplied (mA1 (mN 4) (mA1 (mN 1) (mA1 (mN 3) mA0)))) (mA1 (mCall M_cut (mA1 (mLst (mA1 (mN 5) mA0)) mA0)) (mA1 (mK (.int 1)) (mA1 (mN 3) mA0))))) (mA1 (mN 2) (mA1 (mN 3) mA0)))))
noncomputable def B_put_through : Env → R Fl :=
  (mSeq (mSet 4 (mTup mA0))
  (mSeq (mFor (mIs (mB fRev (mA1 (mN 0) mA0))) (gN 5) Fb_put_through_1)
  (mRet (mN 4))))
noncomputable def M_put_through : List D → R Nw := fin 4 B_put_through 2
noncomputable def Fb_worth_at_1 : Env → R Fl :=
  (mSet 3 (mB (two fMod) (mA1 (mB (two fAdd) (mA1 (mB (two fMul) (mA1 (mN 3) (mA1 (mN 1) mA0))) (mA1 (mN 4) mA0))) (mA1 (mN 2) mA0))))
noncomputable def B_worth_at : Env → R Fl :=
  (mSeq (mSet 3 (mK (.int 0)))
  (mSeq (mFor (mIs (mB fRev (mA1 (mN 0) mA0))) (gN 4) Fb_worth_at_1)
  (mRet (mN 3))))
noncomputable def M_worth_at : List D → R Nw := fin 3 B_worth_at 2
noncomputable def Le_sloped_1 : Env → R (BV × Env) :=
  (mB (two fMod) (mA1 (mB (two fMul) (mA1 (mN 2) (mA1 (mN 3) mA0))) (mA1 (mN 1) mA0)))
noncomputable def B_sloped : Env → R Fl :=
  (mRet (mCall M_cut (mA1 (mB fSlL (mA1 (mLc (mEn (mA1 (mN 0) mA0)) (gT 2 (gs1 (gN 2) (gs1 (gN 3) gs0))) mYes Le_sloped_1 [2, 3]) (mA1 (mK (.int 1)) mA0))) mA0)))
noncomputable def M_sloped : List D → R Nw := fin 2 B_sloped 2
noncomputable def B_poly_value : Env → R Fl :=
  (mSeq (mDrop (mCall M_need_polys (mA1 (mTup (mA1 (mN 0) mA0)) (mA1 (mN 2) mA0))))
  (mSeq (mIf (mNot (mT (mCall M_is_rest (mA1 (mN 1) (mA1 (mN 2) mA0))))) (mRaise "BadRest" [] mA0) mNx)
  (mRet (mCall M_worth_at (mA1 (mN 0) (mA1 (mN 1) (mA1 (mN 2) mA0)))))))
noncomputable def M_poly_value : List D → R Nw := fin 3 B_poly_value 0
noncomputable def B_poly_put : Env → R Fl :=
  (mSeq (mDrop (mCall M_need_polys (mA1 (mTup (mA1 (mN 0) (mA1 (mN 1) (mA1 (mN 2) mA0)))) (mA1 (mN 3) mA0))))
  (mSeq (mIf (mT (mB (two fEq) (mA1 (mN 2) (mA1 (mTup mA0) mA0)))) (mRaise "NoInverse" [] mA0) mNx)
  (mRet (mCall M_put_through (mA1 (mN 0) (mA1 (mN 1) (mA1 (mN 2) (mA1 (mN 3) mA0))))))))
noncomputable def M_poly_put : List D → R Nw := fin 4 B_poly_put 0
noncomputable def B_poly_left : Env → R Fl :=
  (mSeq (mDrop (mCall M_need_polys (mA1 (mTup (mA1 (mN 0) (mA1 (mN 2) mA0))) (mA1 (mN 3) mA0))))
  (mSeq (mIf (mT (mB (two fLt) (mA1 (mN 1) (mA1 (mK (.int 0)) mA0)))) (mRaise "BadNumber" [] mA0) mNx)
  (mSeq (mIf (mT (mB (two fEq) (mA1 (mN 2) (mA1 (mTup mA0) mA0)))) (mRaise "NoInverse" [] mA0) mNx)
  (mRet (mCall M_left_raised (mA1 (mN 0) (mA1 (mN 1) (mA1 (mN 2) (mA1 (mN 3) mA0)))))))))
noncomputable def M_poly_left : List D → R Nw := fin 4 B_poly_left 0
noncomputable def B_poly_slope : Env → R Fl :=
  (mSeq (mDrop (mCall M_need_polys (mA1 (mTup (mA1 (mN 0) mA0)) (mA1 (mN 1) mA0))))
  (mRet (mCall M_sloped (mA1 (mN 0) (mA1 (mN 1) mA0)))))
noncomputable def M_poly_slope : List D → R Nw := fin 2 B_poly_slope 0
noncomputable def Fb__law_lift_1 : Env → R Fl :=
  (mSeq (mIf (mT (mB (two fEq) (mA1 (mB (two fMod) (mA1 (mN 6) (mA1 (mK (.int 2)) mA0))) (mA1 (mK (.int 1)) mA0)))) (mSet 4 (mCall M__law_rem (mA1 (mCall M__law_mul (mA1 (mN 4) (mA1 (mN 5) (mA1 (mN 3) mA0)))) (mA1 (mN 2) (mA1 (mN 3) mA0))))) mNx)
  (mSeq (mSet 6 (mB (two fDiv) (mA1 (mN 6) (mA1 (mK (.int 2)) mA0))))
  (mIf (mT (mB (two fGt) (mA1 (mN 6) (mA1 (mK (.int 0)) mA0)))) (mSet 5 (mCall M__law_rem (mA1 (mCall M__law_mul (mA1 (mN 5) (mA1 (mN 5) (mA1 (mN 3) mA0)))) (mA1 (mN 2) (mA1 (mN 3) mA0))))) mNx)))
noncomputable def B__law_lift : Env → R Fl :=
  (mSeq (mSet 4 (mCall M__law_rem (mA1 (mTup (mA1 (mK (.int 1)) mA0)) (mA1 (mN 2) (mA1 (mN 3) mA0)))))
  (mSeq (mSet 5 (mCall M__law_rem (mA1 (mN 0) (mA1 (mN 2) (mA1 (mN 3) mA0)))))
  (mSeq (mSet 6 (mN 1))
  (mSeq (mFor (mR1 (mA1 (mK (.int 140)) mA0)) (gN 7) Fb__law_lift_1)
  (mRet (mN 4))))))
noncomputable def M__law_lift : List D → R Nw := fin 4 B__law_lift 4
noncomputable def Fb__law_put_1 : Env → R Fl :=
  (mSet 4 (mCall M__law_rem (mA1 (mCall M__law_blend (mA1 (mCall M__law_mul (mA1 (mN 4) (mA1 (mN 1) (mA1 (mN 3) mA0)))) (mA1 (mTup (mA1 (mK (.int 1)) mA0)) (mA1 (mN 5) (mA1 (mN 3) mA0))))) (mA1 (mN 2) (mA1 (mN 3) mA0)))))
noncomputable def B__law_put : Env → R Fl :=
  (mSeq (mSet 4 (mTup mA0))
  (mSeq (mFor (mIs (mB fRev (mA1 (mN 0) mA0))) (gN 5) Fb__law_put_1)
  (mRet (mN 4))))
noncomputable def M__law_put : List D → R Nw := fin 4 B__law_put 2
noncomputable def Fb__law_worth_1 : Env → R Fl :=
  (mSeq (mSet 3 (mB (two fMod) (mA1 (mB (two fAdd) (mA1 (mN 3) (mA1 (mB (two fMul) (mA1 (mN 5) (mA1 (mN 4) mA0))) mA0))) (mA1 (mN 2) mA0))))
  (mSet 4 (mB (two fMod) (mA1 (mB (two fMul) (mA1 (mN 4) (mA1 (mN 1) mA0))) (mA1 (mN 2) mA0)))))
noncomputable def B__law_worth : Env → R Fl :=
  (mSeq (mSet 3 (mK (.int 0)))
  (mSeq (mSet 4 (mK (.int 1)))
  (mSeq (mFor (mIs (mN 0)) (gN 5) Fb__law_worth_1)
  (mRet (mN 3)))))
noncomputable def M__law_worth : List D → R Nw := fin 3 B__law_worth 3
end Mn
namespace Mn
open PySem Rg Rm
theorem e_is_rest (n p : Int) : M_is_rest [.int n, .int p] = .ok (.v (.bl (decide (0 ≤ n) && decide (n < p)))) := by
  simp only [M_is_rest, B_is_rest, Nw.lf, lf, lfA_ints, SZ, Nat.reduceLeDiff, z1, z2, z3, z4, z5, z6, z7, z8, z9, z10, z11, z12, z13, z14, z15, z16, z17, z18, z19, z20, z21, z22, z23, z24, Nat.zero_le, fin, finI, mSeq, mIf, mRet, mRetN, mDrop, mSet, mAsg, mPar, mAug, mSetIx, mMe, mFor, mIs, mEn, mZa, mN, mK, mA0, mA1, mB, mT, mAnd, mOr, mNot, mAndV, mOrV, mNotV, mIfE, mCh, mTup, mLst, mFz1, mFzA, fzL, fz1, mCall, mCallI, mAp, mAd, mNeg, mYes, mLc, mNx, mBad, mRaise, mBk, mCt, stB, gN, gs0, gs1, gT, rsA, rs, allV, BV.fz, Nw.bv, R.bind, nox, gt, two, fAdd_int, fSub, fCmp, fLen, fList, fTuple, fInt, fAbs, fMax, fMin, fIx, fSlH, fSlL, fSl, fRev, fIs, fNeg, isNon, Option.bind_some, Option.map_some, List.set_cons_zero, List.set_cons_succ, List.map_cons, List.map_nil, List.cons_append, List.nil_append, List.replicate, List.length_cons, List.length_nil, Nat.zero_add, Nat.reduceAdd, if_true, ite_true, reduceIte, wipeE, Bool.true_or, Bool.false_or, Bool.true_and, Bool.false_and, Bool.not_true, Bool.not_false, Bool.false_eq_true, if_false]
  by_cases h : 0 ≤ n <;> simp [h]
theorem e_is_prime (n : Int) : M_is_prime [.int n] = .ok (.v (.bl (k_PRIMES.contains n))) := by
  simp only [M_is_prime, B_is_prime, Nw.lf, lf, lfA_ints, SZ, Nat.reduceLeDiff, z1, z2, z3, z4, z5, z6, z7, z8, z9, z10, z11, z12, z13, z14, z15, z16, z17, z18, z19, z20, z21, z22, z23, z24, Nat.zero_le, fin, finI, mSeq, mIf, mRet, mRetN, mDrop, mSet, mAsg, mPar, mAug, mSetIx, mMe, mFor, mIs, mEn, mZa, mN, mK, mA0, mA1, mB, mT, mAnd, mOr, mNot, mAndV, mOrV, mNotV, mIfE, mCh, mTup, mLst, mFz1, mFzA, fzL, fz1, mCall, mCallI, mAp, mAd, mNeg, mYes, mLc, mNx, mBad, mRaise, mBk, mCt, stB, gN, gs0, gs1, gT, rsA, rs, allV, BV.fz, Nw.bv, R.bind, nox, gt, two, fAdd_int, fSub, fCmp, fLen, fList, fTuple, fInt, fAbs, fMax, fMin, fIx, fSlH, fSlL, fSl, fRev, fIs, fNeg, isNon, Option.bind_some, Option.map_some, List.set_cons_zero, List.set_cons_succ, List.map_cons, List.map_nil, List.cons_append, List.nil_append, List.replicate, List.length_cons, List.length_nil, Nat.zero_add, Nat.reduceAdd, if_true, ite_true, reduceIte, wipeE, Bool.true_or, Bool.false_or, Bool.true_and, Bool.false_and, Bool.not_true, Bool.not_false, Bool.false_eq_true, if_false, fIn, intsOf_map]
theorem e_need_prime (p : Int) (h : p ∈ k_PRIMES) : M_need_prime [.int p] = .ok (.v .non) := by
  have h' : k_PRIMES.contains p = true := by simpa using h
  simp only [M_need_prime, B_need_prime, Nw.lf, lf, lfA_ints, SZ, Nat.reduceLeDiff, z1, z2, z3, z4, z5, z6, z7, z8, z9, z10, z11, z12, z13, z14, z15, z16, z17, z18, z19, z20, z21, z22, z23, z24, Nat.zero_le, fin, finI, mSeq, mIf, mRet, mRetN, mDrop, mSet, mAsg, mPar, mAug, mSetIx, mMe, mFor, mIs, mEn, mZa, mN, mK, mA0, mA1, mB, mT, mAnd, mOr, mNot, mAndV, mOrV, mNotV, mIfE, mCh, mTup, mLst, mFz1, mFzA, fzL, fz1, mCall, mCallI, mAp, mAd, mNeg, mYes, mLc, mNx, mBad, mRaise, mBk, mCt, stB, gN, gs0, gs1, gT, rsA, rs, allV, BV.fz, Nw.bv, R.bind, nox, gt, two, fAdd_int, fSub, fCmp, fLen, fList, fTuple, fInt, fAbs, fMax, fMin, fIx, fSlH, fSlL, fSl, fRev, fIs, fNeg, isNon, Option.bind_some, Option.map_some, List.set_cons_zero, List.set_cons_succ, List.map_cons, List.map_nil, List.cons_append, List.nil_append, List.replicate, List.length_cons, List.length_nil, Nat.zero_add, Nat.reduceAdd, if_true, ite_true, reduceIte, wipeE, Bool.true_or, Bool.false_or, Bool.true_and, Bool.false_and, Bool.not_true, Bool.not_false, Bool.false_eq_true, if_false, e_is_prime, h']
theorem e_less (a b : D) (p : Int) : M_less [a, b, .int p] = M_blended [a, b, .int (p - 1), .int p] := by
  simp only [M_less, B_less, Nw.lf, lf, lfA_ints, SZ, Nat.reduceLeDiff, z1, z2, z3, z4, z5, z6, z7, z8, z9, z10, z11, z12, z13, z14, z15, z16, z17, z18, z19, z20, z21, z22, z23, z24, Nat.zero_le, fin, finI, mSeq, mIf, mRet, mRetN, mDrop, mSet, mAsg, mPar, mAug, mSetIx, mMe, mFor, mIs, mEn, mZa, mN, mK, mA0, mA1, mB, mT, mAnd, mOr, mNot, mAndV, mOrV, mNotV, mIfE, mCh, mTup, mLst, mFz1, mFzA, fzL, fz1, mCall, mCallI, mAp, mAd, mNeg, mYes, mLc, mNx, mBad, mRaise, mBk, mCt, stB, gN, gs0, gs1, gT, rsA, rs, allV, BV.fz, Nw.bv, R.bind, nox, gt, two, fAdd_int, fSub, fCmp, fLen, fList, fTuple, fInt, fAbs, fMax, fMin, fIx, fSlH, fSlL, fSl, fRev, fIs, fNeg, isNon, Option.bind_some, Option.map_some, List.set_cons_zero, List.set_cons_succ, List.map_cons, List.map_nil, List.cons_append, List.nil_append, List.replicate, List.length_cons, List.length_nil, Nat.zero_add, Nat.reduceAdd, if_true, ite_true, reduceIte, wipeE, Bool.true_or, Bool.false_or, Bool.true_and, Bool.false_and, Bool.not_true, Bool.not_false, Bool.false_eq_true, if_false]
  cases h : M_blended [a, b, .int (p - 1), .int p] with
  | ok z => cases z <;> simp
  | exc c fs => simp
  | bad => simp
theorem w_cut (t : Bool) (ns : List Int) : ∀ (m fuel : Nat), m ≤ ns.length → m < fuel → mWh Wc_cut_1 Wb_cut_1 fuel [.v (sq t ns), .v (.int m)] = .ok (.nx [.v (sq t ns), .v (.int (cl ns m))])
  | 0, fuel, _, hf => by
    have hc : Wc_cut_1 [.v (sq t ns), .v (.int (0 : Nat))] = .ok (false, [.v (sq t ns), .v (.int (0 : Nat))]) := by
      simp only [Wc_cut_1, Nw.lf, lf, lfA_ints, SZ, Nat.reduceLeDiff, z1, z2, z3, z4, z5, z6, z7, z8, z9, z10, z11, z12, z13, z14, z15, z16, z17, z18, z19, z20, z21, z22, z23, z24, Nat.zero_le, fin, finI, mSeq, mIf, mRet, mRetN, mDrop, mSet, mAsg, mPar, mAug, mSetIx, mMe, mFor, mIs, mEn, mZa, mN, mK, mA0, mA1, mB, mT, mAnd, mOr, mNot, mAndV, mOrV, mNotV, mIfE, mCh, mTup, mLst, mFz1, mFzA, fzL, fz1, mCall, mCallI, mAp, mAd, mNeg, mYes, mLc, mNx, mBad, mRaise, mBk, mCt, stB, gN, gs0, gs1, gT, rsA, rs, allV, BV.fz, Nw.bv, R.bind, nox, gt, two, fAdd_int, fSub, fCmp, fLen, fList, fTuple, fInt, fAbs, fMax, fMin, fIx, fSlH, fSlL, fSl, fRev, fIs, fNeg, isNon, Option.bind_some, Option.map_some, List.set_cons_zero, List.set_cons_succ, List.map_cons, List.map_nil, List.cons_append, List.nil_append, List.replicate, List.length_cons, List.length_nil, Nat.zero_add, Nat.reduceAdd, if_true, ite_true, reduceIte, wipeE, Bool.true_or, Bool.false_or, Bool.true_and, Bool.false_and, Bool.not_true, Bool.not_false, Bool.false_eq_true, if_false]
      simp
    rw [mWh_pos (by omega), hc]
    simp [cl, R.bind]
  | m + 1, fuel, hm, hf => by
    have hi : (((m + 1 : Nat) : Int) - 1) = (m : Int) := by omega
    have ha := atI_ints ns m (by omega)
    have hd : decide ((0 : Int) < ((m + 1 : Nat) : Int)) = true := by simp
    have ih := w_cut t ns m (fuel - 1) (by omega) (by omega)
    have hc : Wc_cut_1 [.v (sq t ns), .v (.int (m + 1 : Nat))] = .ok (decide (cf ns m = 0), [.v (sq t ns), .v (.int (m + 1 : Nat))]) := by
      cases t with
      | true =>
        rw [sq_t]
        simp only [Wc_cut_1, Nw.lf, lf, lfA_ints, SZ, Nat.reduceLeDiff, z1, z2, z3, z4, z5, z6, z7, z8, z9, z10, z11, z12, z13, z14, z15, z16, z17, z18, z19, z20, z21, z22, z23, z24, Nat.zero_le, fin, finI, mSeq, mIf, mRet, mRetN, mDrop, mSet, mAsg, mPar, mAug, mSetIx, mMe, mFor, mIs, mEn, mZa, mN, mK, mA0, mA1, mB, mT, mAnd, mOr, mNot, mAndV, mOrV, mNotV, mIfE, mCh, mTup, mLst, mFz1, mFzA, fzL, fz1, mCall, mCallI, mAp, mAd, mNeg, mYes, mLc, mNx, mBad, mRaise, mBk, mCt, stB, gN, gs0, gs1, gT, rsA, rs, allV, BV.fz, Nw.bv, R.bind, nox, gt, two, fAdd_int, fSub, fCmp, fLen, fList, fTuple, fInt, fAbs, fMax, fMin, fIx, fSlH, fSlL, fSl, fRev, fIs, fNeg, isNon, Option.bind_some, Option.map_some, List.set_cons_zero, List.set_cons_succ, List.map_cons, List.map_nil, List.cons_append, List.nil_append, List.replicate, List.length_cons, List.length_nil, Nat.zero_add, Nat.reduceAdd, if_true, ite_true, reduceIte, wipeE, Bool.true_or, Bool.false_or, Bool.true_and, Bool.false_and, Bool.not_true, Bool.not_false, Bool.false_eq_true, if_false, hd, hi, ha, fEq_int]
      | false =>
        rw [sq_f]
        simp only [Wc_cut_1, Nw.lf, lf, lfA_ints, SZ, Nat.reduceLeDiff, z1, z2, z3, z4, z5, z6, z7, z8, z9, z10, z11, z12, z13, z14, z15, z16, z17, z18, z19, z20, z21, z22, z23, z24, Nat.zero_le, fin, finI, mSeq, mIf, mRet, mRetN, mDrop, mSet, mAsg, mPar, mAug, mSetIx, mMe, mFor, mIs, mEn, mZa, mN, mK, mA0, mA1, mB, mT, mAnd, mOr, mNot, mAndV, mOrV, mNotV, mIfE, mCh, mTup, mLst, mFz1, mFzA, fzL, fz1, mCall, mCallI, mAp, mAd, mNeg, mYes, mLc, mNx, mBad, mRaise, mBk, mCt, stB, gN, gs0, gs1, gT, rsA, rs, allV, BV.fz, Nw.bv, R.bind, nox, gt, two, fAdd_int, fSub, fCmp, fLen, fList, fTuple, fInt, fAbs, fMax, fMin, fIx, fSlH, fSlL, fSl, fRev, fIs, fNeg, isNon, Option.bind_some, Option.map_some, List.set_cons_zero, List.set_cons_succ, List.map_cons, List.map_nil, List.cons_append, List.nil_append, List.replicate, List.length_cons, List.length_nil, Nat.zero_add, Nat.reduceAdd, if_true, ite_true, reduceIte, wipeE, Bool.true_or, Bool.false_or, Bool.true_and, Bool.false_and, Bool.not_true, Bool.not_false, Bool.false_eq_true, if_false, hd, hi, ha, fEq_int]
    have hb : Wb_cut_1 [.v (sq t ns), .v (.int (m + 1 : Nat))] = .ok (.nx [.v (sq t ns), .v (.int m)]) := by
      simp only [Wb_cut_1, Nw.lf, lf, lfA_ints, SZ, Nat.reduceLeDiff, z1, z2, z3, z4, z5, z6, z7, z8, z9, z10, z11, z12, z13, z14, z15, z16, z17, z18, z19, z20, z21, z22, z23, z24, Nat.zero_le, fin, finI, mSeq, mIf, mRet, mRetN, mDrop, mSet, mAsg, mPar, mAug, mSetIx, mMe, mFor, mIs, mEn, mZa, mN, mK, mA0, mA1, mB, mT, mAnd, mOr, mNot, mAndV, mOrV, mNotV, mIfE, mCh, mTup, mLst, mFz1, mFzA, fzL, fz1, mCall, mCallI, mAp, mAd, mNeg, mYes, mLc, mNx, mBad, mRaise, mBk, mCt, stB, gN, gs0, gs1, gT, rsA, rs, allV, BV.fz, Nw.bv, R.bind, nox, gt, two, fAdd_int, fSub, fCmp, fLen, fList, fTuple, fInt, fAbs, fMax, fMin, fIx, fSlH, fSlL, fSl, fRev, fIs, fNeg, isNon, Option.bind_some, Option.map_some, List.set_cons_zero, List.set_cons_succ, List.map_cons, List.map_nil, List.cons_append, List.nil_append, List.replicate, List.length_cons, List.length_nil, Nat.zero_add, Nat.reduceAdd, if_true, ite_true, reduceIte, wipeE, Bool.true_or, Bool.false_or, Bool.true_and, Bool.false_and, Bool.not_true, Bool.not_false, Bool.false_eq_true, if_false, hi]
    rw [mWh_pos (by omega), hc]
    by_cases h0 : cf ns m = 0
    · simp only [h0, R.bind, hb, cl, decide_true, if_true]; exact ih
    · simp [h0, R.bind, cl]
theorem e_cut (t : Bool) (ns : List Int) (h : ns.length ≤ 1000) : M_cut [sq t ns] = .ok (.v (.tup ((trim ns).map D.int))) := by
  have hw := w_cut t ns ns.length FUEL (Nat.le_refl _) (by unfold FUEL; omega)
  have ht : (ns.map D.int).take (cl ns ns.length) = (trim ns).map D.int := by rw [← List.map_take, take_cl]
  cases t with
  | true =>
    rw [sq_t] at hw ⊢
    simp only [M_cut, B_cut, Nw.lf, lf, lfA_ints, SZ, Nat.reduceLeDiff, z1, z2, z3, z4, z5, z6, z7, z8, z9, z10, z11, z12, z13, z14, z15, z16, z17, z18, z19, z20, z21, z22, z23, z24, Nat.zero_le, fin, finI, mSeq, mIf, mRet, mRetN, mDrop, mSet, mAsg, mPar, mAug, mSetIx, mMe, mFor, mIs, mEn, mZa, mN, mK, mA0, mA1, mB, mT, mAnd, mOr, mNot, mAndV, mOrV, mNotV, mIfE, mCh, mTup, mLst, mFz1, mFzA, fzL, fz1, mCall, mCallI, mAp, mAd, mNeg, mYes, mLc, mNx, mBad, mRaise, mBk, mCt, stB, gN, gs0, gs1, gT, rsA, rs, allV, BV.fz, Nw.bv, R.bind, nox, gt, two, fAdd_int, fSub, fCmp, fLen, fList, fTuple, fInt, fAbs, fMax, fMin, fIx, fSlH, fSlL, fSl, fRev, fIs, fNeg, isNon, Option.bind_some, Option.map_some, List.set_cons_zero, List.set_cons_succ, List.map_cons, List.map_nil, List.cons_append, List.nil_append, List.replicate, List.length_cons, List.length_nil, Nat.zero_add, Nat.reduceAdd, if_true, ite_true, reduceIte, wipeE, Bool.true_or, Bool.false_or, Bool.true_and, Bool.false_and, Bool.not_true, Bool.not_false, Bool.false_eq_true, if_false, List.length_map, hw, cutD_take, ht]
  | false =>
    rw [sq_f] at hw ⊢
    simp only [M_cut, B_cut, Nw.lf, lf, lfA_ints, SZ, Nat.reduceLeDiff, z1, z2, z3, z4, z5, z6, z7, z8, z9, z10, z11, z12, z13, z14, z15, z16, z17, z18, z19, z20, z21, z22, z23, z24, Nat.zero_le, fin, finI, mSeq, mIf, mRet, mRetN, mDrop, mSet, mAsg, mPar, mAug, mSetIx, mMe, mFor, mIs, mEn, mZa, mN, mK, mA0, mA1, mB, mT, mAnd, mOr, mNot, mAndV, mOrV, mNotV, mIfE, mCh, mTup, mLst, mFz1, mFzA, fzL, fz1, mCall, mCallI, mAp, mAd, mNeg, mYes, mLc, mNx, mBad, mRaise, mBk, mCt, stB, gN, gs0, gs1, gT, rsA, rs, allV, BV.fz, Nw.bv, R.bind, nox, gt, two, fAdd_int, fSub, fCmp, fLen, fList, fTuple, fInt, fAbs, fMax, fMin, fIx, fSlH, fSlL, fSl, fRev, fIs, fNeg, isNon, Option.bind_some, Option.map_some, List.set_cons_zero, List.set_cons_succ, List.map_cons, List.map_nil, List.cons_append, List.nil_append, List.replicate, List.length_cons, List.length_nil, Nat.zero_add, Nat.reduceAdd, if_true, ite_true, reduceIte, wipeE, Bool.true_or, Bool.false_or, Bool.true_and, Bool.false_and, Bool.not_true, Bool.not_false, Bool.false_eq_true, if_false, List.length_map, hw, cutD_take, ht]
theorem e_cutL (ns : List Int) (h : ns.length ≤ 1000) : M_cut [.lst (ns.map D.int)] = .ok (.v (.tup ((trim ns).map D.int))) := e_cut false ns h
theorem e_cutT (ns : List Int) (h : ns.length ≤ 1000) : M_cut [.tup (ns.map D.int)] = .ok (.v (.tup ((trim ns).map D.int))) := e_cut true ns h
theorem e_widened (ns : List Int) (n : Nat) (h : n ≤ 1000) (hl : ns.length ≤ n) : M_widened [.tup (ns.map D.int), .int n] = .ok (.o ((pad ns n).map D.int)) := by
  have e : ((n : Int) - (ns.length : Int)).toNat = n - ns.length := by omega
  have h1 := fMul_l1 (.int 0) ((n : Int) - (ns.length : Int)) (by omega) (by omega)
  have h2 : fAdd [.lst (ns.map D.int), .lst (List.replicate ((n : Int) - (ns.length : Int)).toNat (.int 0))] = some (.o ((pad ns n).map D.int)) := by
    rw [fAdd_l (by rw [List.length_map, List.length_replicate]; unfold SZ; omega)]
    simp only [pad, List.map_append, List.map_replicate, e]
  have h0 : 1 ≤ SZ := by unfold SZ; omega
  simp only [M_widened, B_widened, Nw.lf, lf, lfA_ints, SZ, Nat.reduceLeDiff, z1, z2, z3, z4, z5, z6, z7, z8, z9, z10, z11, z12, z13, z14, z15, z16, z17, z18, z19, z20, z21, z22, z23, z24, Nat.zero_le, fin, finI, mSeq, mIf, mRet, mRetN, mDrop, mSet, mAsg, mPar, mAug, mSetIx, mMe, mFor, mIs, mEn, mZa, mN, mK, mA0, mA1, mB, mT, mAnd, mOr, mNot, mAndV, mOrV, mNotV, mIfE, mCh, mTup, mLst, mFz1, mFzA, fzL, fz1, mCall, mCallI, mAp, mAd, mNeg, mYes, mLc, mNx, mBad, mRaise, mBk, mCt, stB, gN, gs0, gs1, gT, rsA, rs, allV, BV.fz, Nw.bv, R.bind, nox, gt, two, fAdd_int, fSub, fCmp, fLen, fList, fTuple, fInt, fAbs, fMax, fMin, fIx, fSlH, fSlL, fSl, fRev, fIs, fNeg, isNon, Option.bind_some, Option.map_some, List.set_cons_zero, List.set_cons_succ, List.map_cons, List.map_nil, List.cons_append, List.nil_append, List.replicate, List.length_cons, List.length_nil, Nat.zero_add, Nat.reduceAdd, if_true, ite_true, reduceIte, wipeE, Bool.true_or, Bool.false_or, Bool.true_and, Bool.false_and, Bool.not_true, Bool.not_false, Bool.false_eq_true, if_false, List.length_map, if_pos h0, h1, h2]
theorem e_blended (a b : List Int) (w p : Int) (hp : 0 < p) (hw1 : -1000000 ≤ w) (hw2 : w ≤ 1000000) (ha : a.length ≤ 500) (hb : b.length ≤ 500) : M_blended [.tup (a.map D.int), .tup (b.map D.int), .int w, .int p] = .ok (.v (.tup ((bl p w a b).map D.int))) := by
  have hm := cast_max a.length b.length
  have h1 := e_widened a (max a.length b.length) (by omega) (by omega)
  have h2 := e_widened b (max a.length b.length) (by omega) (by omega)
  have h3 := e_cutL (zw (fun x y => (x + w * y) % p) (pad a (max a.length b.length)) (pad b (max a.length b.length))) (by rw [zw_length, pad_length (by omega), pad_length (by omega)]; omega)
  have hl := mLc_map (fun x : Int × Int => .tup [.int x.1, .int x.2]) (fun x => .int ((x.1 + w * x.2) % p)) ((pad a (max a.length b.length)).zip (pad b (max a.length b.length)))
    (mi := mZa (mA1 (mCall M_widened (mA1 (mN 0) (mA1 (mN 4) mA0))) (mA1 (mCall M_widened (mA1 (mN 1) (mA1 (mN 4) mA0))) mA0))) (f := gT 2 (gs1 (gN 5) (gs1 (gN 6) gs0))) (e := Le_blended_1) (vs := [5, 6])
    (Γ := [.v (.tup (a.map D.int)), .v (.tup (b.map D.int)), .v (.int w), .v (.int p), .v (.int (max a.length b.length : Nat)), .no, .no]) (Γ1 := [.v (.tup (a.map D.int)), .v (.tup (b.map D.int)), .v (.int w), .v (.int p), .v (.int (max a.length b.length : Nat)), .no, .no])
    (by simp only [Nw.lf, lf, lfA_ints, SZ, Nat.reduceLeDiff, z1, z2, z3, z4, z5, z6, z7, z8, z9, z10, z11, z12, z13, z14, z15, z16, z17, z18, z19, z20, z21, z22, z23, z24, Nat.zero_le, fin, finI, mSeq, mIf, mRet, mRetN, mDrop, mSet, mAsg, mPar, mAug, mSetIx, mMe, mFor, mIs, mEn, mZa, mN, mK, mA0, mA1, mB, mT, mAnd, mOr, mNot, mAndV, mOrV, mNotV, mIfE, mCh, mTup, mLst, mFz1, mFzA, fzL, fz1, mCall, mCallI, mAp, mAd, mNeg, mYes, mLc, mNx, mBad, mRaise, mBk, mCt, stB, gN, gs0, gs1, gT, rsA, rs, allV, BV.fz, Nw.bv, R.bind, nox, gt, two, fAdd_int, fSub, fCmp, fLen, fList, fTuple, fInt, fAbs, fMax, fMin, fIx, fSlH, fSlL, fSl, fRev, fIs, fNeg, isNon, Option.bind_some, Option.map_some, List.set_cons_zero, List.set_cons_succ, List.map_cons, List.map_nil, List.cons_append, List.nil_append, List.replicate, List.length_cons, List.length_nil, Nat.zero_add, Nat.reduceAdd, if_true, ite_true, reduceIte, wipeE, Bool.true_or, Bool.false_or, Bool.true_and, Bool.false_and, Bool.not_true, Bool.not_false, Bool.false_eq_true, if_false, h1, h2, zipD_ints]) (by rw [List.length_zip, pad_length (by omega), pad_length (by omega)]; omega)
    (fun x hx => by
      have := fMul_sml (i := w) (j := x.2) hw1 hw2
      exact ⟨_, _, rfl, by simp only [Le_blended_1, Nw.lf, lf, lfA_ints, SZ, Nat.reduceLeDiff, z1, z2, z3, z4, z5, z6, z7, z8, z9, z10, z11, z12, z13, z14, z15, z16, z17, z18, z19, z20, z21, z22, z23, z24, Nat.zero_le, fin, finI, mSeq, mIf, mRet, mRetN, mDrop, mSet, mAsg, mPar, mAug, mSetIx, mMe, mFor, mIs, mEn, mZa, mN, mK, mA0, mA1, mB, mT, mAnd, mOr, mNot, mAndV, mOrV, mNotV, mIfE, mCh, mTup, mLst, mFz1, mFzA, fzL, fz1, mCall, mCallI, mAp, mAd, mNeg, mYes, mLc, mNx, mBad, mRaise, mBk, mCt, stB, gN, gs0, gs1, gT, rsA, rs, allV, BV.fz, Nw.bv, R.bind, nox, gt, two, fAdd_int, fSub, fCmp, fLen, fList, fTuple, fInt, fAbs, fMax, fMin, fIx, fSlH, fSlL, fSl, fRev, fIs, fNeg, isNon, Option.bind_some, Option.map_some, List.set_cons_zero, List.set_cons_succ, List.map_cons, List.map_nil, List.cons_append, List.nil_append, List.replicate, List.length_cons, List.length_nil, Nat.zero_add, Nat.reduceAdd, if_true, ite_true, reduceIte, wipeE, Bool.true_or, Bool.false_or, Bool.true_and, Bool.false_and, Bool.not_true, Bool.not_false, Bool.false_eq_true, if_false, this, fMod_pos hp]; rfl, by rfl⟩)
  have hz : ((pad a (max a.length b.length)).zip (pad b (max a.length b.length))).map (fun x => D.int ((x.1 + w * x.2) % p)) = (zw (fun x y => (x + w * y) % p) (pad a (max a.length b.length)) (pad b (max a.length b.length))).map D.int := by
    rw [← zip_zw, List.map_map]; rfl
  rw [hz] at hl
  simp only [M_blended, B_blended, Nw.lf, lf, lfA_ints, SZ, Nat.reduceLeDiff, z1, z2, z3, z4, z5, z6, z7, z8, z9, z10, z11, z12, z13, z14, z15, z16, z17, z18, z19, z20, z21, z22, z23, z24, Nat.zero_le, fin, finI, mSeq, mIf, mRet, mRetN, mDrop, mSet, mAsg, mPar, mAug, mSetIx, mMe, mFor, mIs, mEn, mZa, mN, mK, mA0, mA1, mB, mT, mAnd, mOr, mNot, mAndV, mOrV, mNotV, mIfE, mCh, mTup, mLst, mFz1, mFzA, fzL, fz1, mCall, mCallI, mAp, mAd, mNeg, mYes, mLc, mNx, mBad, mRaise, mBk, mCt, stB, gN, gs0, gs1, gT, rsA, rs, allV, BV.fz, Nw.bv, R.bind, nox, gt, two, fAdd_int, fSub, fCmp, fLen, fList, fTuple, fInt, fAbs, fMax, fMin, fIx, fSlH, fSlL, fSl, fRev, fIs, fNeg, isNon, Option.bind_some, Option.map_some, List.set_cons_zero, List.set_cons_succ, List.map_cons, List.map_nil, List.cons_append, List.nil_append, List.replicate, List.length_cons, List.length_nil, Nat.zero_add, Nat.reduceAdd, if_true, ite_true, reduceIte, wipeE, Bool.true_or, Bool.false_or, Bool.true_and, Bool.false_and, Bool.not_true, Bool.not_false, Bool.false_eq_true, if_false, List.length_map, hm] at hl ⊢
  simp only [hl, Nw.lf, lf, lfA_ints, SZ, Nat.reduceLeDiff, z1, z2, z3, z4, z5, z6, z7, z8, z9, z10, z11, z12, z13, z14, z15, z16, z17, z18, z19, z20, z21, z22, z23, z24, Nat.zero_le, fin, finI, mSeq, mIf, mRet, mRetN, mDrop, mSet, mAsg, mPar, mAug, mSetIx, mMe, mFor, mIs, mEn, mZa, mN, mK, mA0, mA1, mB, mT, mAnd, mOr, mNot, mAndV, mOrV, mNotV, mIfE, mCh, mTup, mLst, mFz1, mFzA, fzL, fz1, mCall, mCallI, mAp, mAd, mNeg, mYes, mLc, mNx, mBad, mRaise, mBk, mCt, stB, gN, gs0, gs1, gT, rsA, rs, allV, BV.fz, Nw.bv, R.bind, nox, gt, two, fAdd_int, fSub, fCmp, fLen, fList, fTuple, fInt, fAbs, fMax, fMin, fIx, fSlH, fSlL, fSl, fRev, fIs, fNeg, isNon, Option.bind_some, Option.map_some, List.set_cons_zero, List.set_cons_succ, List.map_cons, List.map_nil, List.cons_append, List.nil_append, List.replicate, List.length_cons, List.length_nil, Nat.zero_add, Nat.reduceAdd, if_true, ite_true, reduceIte, wipeE, Bool.true_or, Bool.false_or, Bool.true_and, Bool.false_and, Bool.not_true, Bool.not_false, Bool.false_eq_true, if_false, h3, bl]
theorem b_mul2 (x y : Int) (hx : -1000 ≤ x ∧ x ≤ 1000) (at_ k : Nat) (S0 S1 S2 S8 : Sl) (f : List Int) (h : at_ + k < f.length) (hf : f.length ≤ 1000) : Fb_multiplied_2 [S0, S1, S2, .o (f.map D.int), .v (.int at_), .v (.int x), .v (.int k), .v (.int y), S8] = .ok (.nx [S0, S1, S2, .o ((f.set (at_ + k) (cf f (at_ + k) + x * y)).map D.int), .v (.int at_), .v (.int x), .v (.int k), .v (.int y), S8]) := by
  have e1 : ((at_ : Int) + (k : Int)).toNat = at_ + k := by omega
  have e2 : (0 : Int) ≤ (at_ : Int) + (k : Int) ∧ (at_ : Int) + (k : Int) < 2 ^ 63 := ⟨by omega, by omega⟩
  have e3 : (f.map D.int)[at_ + k]? = some (.int (cf f (at_ + k))) := by rw [List.getElem?_map, cf_get? (by omega)]; rfl
  have e4 : L2.ixN f.length ((at_ : Int) + (k : Int)) = some (at_ + k) := ixN_nat (by omega) (by omega)
  have e5 := fMul_sml (i := x) (j := y) (by omega) (by omega)
  unfold Fb_multiplied_2
  refine (mAugIx_ok (i := (at_ : Int) + (k : Int)) (a := cf f (at_ + k)) (b := x * y) (c := cf f (at_ + k) + x * y) (xs := f.map D.int) (ys := f.map D.int) (j := at_ + k) rfl (by simp only [Nw.lf, lf, lfA_ints, SZ, Nat.reduceLeDiff, z1, z2, z3, z4, z5, z6, z7, z8, z9, z10, z11, z12, z13, z14, z15, z16, z17, z18, z19, z20, z21, z22, z23, z24, Nat.zero_le, fin, finI, mSeq, mIf, mRet, mRetN, mDrop, mSet, mAsg, mPar, mAug, mSetIx, mMe, mFor, mIs, mEn, mZa, mN, mK, mA0, mA1, mB, mT, mAnd, mOr, mNot, mAndV, mOrV, mNotV, mIfE, mCh, mTup, mLst, mFz1, mFzA, fzL, fz1, mCall, mCallI, mAp, mAd, mNeg, mYes, mLc, mNx, mBad, mRaise, mBk, mCt, stB, gN, gs0, gs1, gT, rsA, rs, allV, BV.fz, Nw.bv, R.bind, nox, gt, two, fAdd_int, fSub, fCmp, fLen, fList, fTuple, fInt, fAbs, fMax, fMin, fIx, fSlH, fSlL, fSl, fRev, fIs, fNeg, isNon, Option.bind_some, Option.map_some, List.set_cons_zero, List.set_cons_succ, List.map_cons, List.map_nil, List.cons_append, List.nil_append, List.replicate, List.length_cons, List.length_nil, Nat.zero_add, Nat.reduceAdd, if_true, ite_true, reduceIte, wipeE, Bool.true_or, Bool.false_or, Bool.true_and, Bool.false_and, Bool.not_true, Bool.not_false, Bool.false_eq_true, if_false]; rfl) rfl e2 (by rw [e1]; exact e3) (by simp only [Nw.lf, lf, lfA_ints, SZ, Nat.reduceLeDiff, z1, z2, z3, z4, z5, z6, z7, z8, z9, z10, z11, z12, z13, z14, z15, z16, z17, z18, z19, z20, z21, z22, z23, z24, Nat.zero_le, fin, finI, mSeq, mIf, mRet, mRetN, mDrop, mSet, mAsg, mPar, mAug, mSetIx, mMe, mFor, mIs, mEn, mZa, mN, mK, mA0, mA1, mB, mT, mAnd, mOr, mNot, mAndV, mOrV, mNotV, mIfE, mCh, mTup, mLst, mFz1, mFzA, fzL, fz1, mCall, mCallI, mAp, mAd, mNeg, mYes, mLc, mNx, mBad, mRaise, mBk, mCt, stB, gN, gs0, gs1, gT, rsA, rs, allV, BV.fz, Nw.bv, R.bind, nox, gt, two, fAdd_int, fSub, fCmp, fLen, fList, fTuple, fInt, fAbs, fMax, fMin, fIx, fSlH, fSlL, fSl, fRev, fIs, fNeg, isNon, Option.bind_some, Option.map_some, List.set_cons_zero, List.set_cons_succ, List.map_cons, List.map_nil, List.cons_append, List.nil_append, List.replicate, List.length_cons, List.length_nil, Nat.zero_add, Nat.reduceAdd, if_true, ite_true, reduceIte, wipeE, Bool.true_or, Bool.false_or, Bool.true_and, Bool.false_and, Bool.not_true, Bool.not_false, Bool.false_eq_true, if_false, e5]; rfl) rfl rfl (by rw [List.length_map]; exact e4)).trans ?_
  simp only [Nw.lf, lf, lfA_ints, SZ, Nat.reduceLeDiff, z1, z2, z3, z4, z5, z6, z7, z8, z9, z10, z11, z12, z13, z14, z15, z16, z17, z18, z19, z20, z21, z22, z23, z24, Nat.zero_le, fin, finI, mSeq, mIf, mRet, mRetN, mDrop, mSet, mAsg, mPar, mAug, mSetIx, mMe, mFor, mIs, mEn, mZa, mN, mK, mA0, mA1, mB, mT, mAnd, mOr, mNot, mAndV, mOrV, mNotV, mIfE, mCh, mTup, mLst, mFz1, mFzA, fzL, fz1, mCall, mCallI, mAp, mAd, mNeg, mYes, mLc, mNx, mBad, mRaise, mBk, mCt, stB, gN, gs0, gs1, gT, rsA, rs, allV, BV.fz, Nw.bv, R.bind, nox, gt, two, fAdd_int, fSub, fCmp, fLen, fList, fTuple, fInt, fAbs, fMax, fMin, fIx, fSlH, fSlL, fSl, fRev, fIs, fNeg, isNon, Option.bind_some, Option.map_some, List.set_cons_zero, List.set_cons_succ, List.map_cons, List.map_nil, List.cons_append, List.nil_append, List.replicate, List.length_cons, List.length_nil, Nat.zero_add, Nat.reduceAdd, if_true, ite_true, reduceIte, wipeE, Bool.true_or, Bool.false_or, Bool.true_and, Bool.false_and, Bool.not_true, Bool.not_false, Bool.false_eq_true, if_false, List.map_set]
theorem w_mul2 (x : Int) (hx : -1000 ≤ x ∧ x ≤ 1000) (at_ : Nat) (S0 S1 S2 S8 : Sl) : ∀ (b f : List Int) (k : Nat) (s6 s7 : Sl), at_ + k + b.length ≤ f.length → f.length ≤ 1000 → ∃ s6' s7', mForL (gT 2 (gs1 (gN 6) (gs1 (gN 7) gs0))) Fb_multiplied_2 (enumD k (b.map D.int)) [S0, S1, S2, .o (f.map D.int), .v (.int at_), .v (.int x), s6, s7, S8] = .ok (.nx [S0, S1, S2, .o ((addAt x f (at_ + k) b).map D.int), .v (.int at_), .v (.int x), s6', s7', S8])
  | [], f, k, s6, s7, _, _ => ⟨s6, s7, rfl⟩
  | y :: b, f, k, s6, s7, h, hf => by
    simp only [List.length_cons] at h
    obtain ⟨s6', s7', ih⟩ := w_mul2 x hx at_ S0 S1 S2 S8 b (f.set (at_ + k) (cf f (at_ + k) + x * y)) (k + 1) (.v (.int k)) (.v (.int y)) (by simp; omega) (by simp; omega)
    refine ⟨s6', s7', ?_⟩
    have hb := b_mul2 x y hx at_ k S0 S1 S2 S8 f (by omega) hf
    rw [List.map_cons, enumD, mForL_cons (Γ1 := [S0, S1, S2, .o (f.map D.int), .v (.int at_), .v (.int x), .v (.int k), .v (.int y), S8]) rfl hb]
    rw [addAt, ← Nat.add_assoc] at *
    exact ih
theorem w_mul1 (b : List Int) (S2 S8 : Sl) (t : D) : ∀ (a f : List Int) (k : Nat) (s4 s5 s6 s7 : Sl), (∀ x ∈ a, -1000 ≤ x ∧ x ≤ 1000) → k + a.length + b.length ≤ f.length + 1 → f.length ≤ 1000 →
    ∃ s4' s5' s6' s7', mForL (gT 2 (gs1 (gN 4) (gs1 (gN 5) gs0))) Fb_multiplied_1 (enumD k (a.map D.int)) [.v t, .v (.tup (b.map D.int)), S2, .o (f.map D.int), s4, s5, s6, s7, S8] = .ok (.nx [.v t, .v (.tup (b.map D.int)), S2, .o ((mulR b a f k).map D.int), s4', s5', s6', s7', S8])
  | [], f, k, s4, s5, s6, s7, _, _, _ => ⟨s4, s5, s6, s7, rfl⟩
  | x :: a, f, k, s4, s5, s6, s7, hx, h, hf => by
    simp only [List.length_cons] at h
    have hx0 := hx x (List.mem_cons_self ..)
    obtain ⟨s6', s7', hi⟩ := w_mul2 x hx0 k (.v t) (.v (.tup (b.map D.int))) S2 S8 b f 0 s6 s7 (by omega) hf
    by_cases h0 : x = 0
    · obtain ⟨r4, r5, r6, r7, ih⟩ := w_mul1 b S2 S8 t a f (k + 1) (.v (.int k)) (.v (.int x)) s6 s7 (fun y hy => hx y (List.mem_cons_of_mem _ hy)) (by omega) hf
      refine ⟨r4, r5, r6, r7, ?_⟩
      have hb : Fb_multiplied_1 [.v t, .v (.tup (b.map D.int)), S2, .o (f.map D.int), .v (.int k), .v (.int x), s6, s7, S8] = .ok (.nx [.v t, .v (.tup (b.map D.int)), S2, .o (f.map D.int), .v (.int k), .v (.int x), s6, s7, S8]) := by
        simp only [Fb_multiplied_1, Nw.lf, lf, lfA_ints, SZ, Nat.reduceLeDiff, z1, z2, z3, z4, z5, z6, z7, z8, z9, z10, z11, z12, z13, z14, z15, z16, z17, z18, z19, z20, z21, z22, z23, z24, Nat.zero_le, fin, finI, mSeq, mIf, mRet, mRetN, mDrop, mSet, mAsg, mPar, mAug, mSetIx, mMe, mFor, mIs, mEn, mZa, mN, mK, mA0, mA1, mB, mT, mAnd, mOr, mNot, mAndV, mOrV, mNotV, mIfE, mCh, mTup, mLst, mFz1, mFzA, fzL, fz1, mCall, mCallI, mAp, mAd, mNeg, mYes, mLc, mNx, mBad, mRaise, mBk, mCt, stB, gN, gs0, gs1, gT, rsA, rs, allV, BV.fz, Nw.bv, R.bind, nox, gt, two, fAdd_int, fSub, fCmp, fLen, fList, fTuple, fInt, fAbs, fMax, fMin, fIx, fSlH, fSlL, fSl, fRev, fIs, fNeg, isNon, Option.bind_some, Option.map_some, List.set_cons_zero, List.set_cons_succ, List.map_cons, List.map_nil, List.cons_append, List.nil_append, List.replicate, List.length_cons, List.length_nil, Nat.zero_add, Nat.reduceAdd, if_true, ite_true, reduceIte, wipeE, Bool.true_or, Bool.false_or, Bool.true_and, Bool.false_and, Bool.not_true, Bool.not_false, Bool.false_eq_true, if_false, fNe_int, h0, decide_true]
      rw [List.map_cons, enumD, mForL_cons (Γ1 := [.v t, .v (.tup (b.map D.int)), S2, .o (f.map D.int), .v (.int k), .v (.int x), s6, s7, S8]) rfl hb, mulR, if_pos h0]
      exact ih
    · obtain ⟨r4, r5, r6, r7, ih⟩ := w_mul1 b S2 S8 t a (addAt x f k b) (k + 1) (.v (.int k)) (.v (.int x)) s6' s7' (fun y hy => hx y (List.mem_cons_of_mem _ hy)) (by rw [addAt_length]; omega) (by rw [addAt_length]; omega)
      refine ⟨r4, r5, r6, r7, ?_⟩
      have hb : Fb_multiplied_1 [.v t, .v (.tup (b.map D.int)), S2, .o (f.map D.int), .v (.int k), .v (.int x), s6, s7, S8] = .ok (.nx [.v t, .v (.tup (b.map D.int)), S2, .o ((addAt x f k b).map D.int), .v (.int k), .v (.int x), s6', s7', S8]) := by
        simp only [Fb_multiplied_1, Nw.lf, lf, lfA_ints, SZ, Nat.reduceLeDiff, z1, z2, z3, z4, z5, z6, z7, z8, z9, z10, z11, z12, z13, z14, z15, z16, z17, z18, z19, z20, z21, z22, z23, z24, Nat.zero_le, fin, finI, mSeq, mIf, mRet, mRetN, mDrop, mSet, mAsg, mPar, mAug, mSetIx, mMe, mFor, mIs, mEn, mZa, mN, mK, mA0, mA1, mB, mT, mAnd, mOr, mNot, mAndV, mOrV, mNotV, mIfE, mCh, mTup, mLst, mFz1, mFzA, fzL, fz1, mCall, mCallI, mAp, mAd, mNeg, mYes, mLc, mNx, mBad, mRaise, mBk, mCt, stB, gN, gs0, gs1, gT, rsA, rs, allV, BV.fz, Nw.bv, R.bind, nox, gt, two, fAdd_int, fSub, fCmp, fLen, fList, fTuple, fInt, fAbs, fMax, fMin, fIx, fSlH, fSlL, fSl, fRev, fIs, fNeg, isNon, Option.bind_some, Option.map_some, List.set_cons_zero, List.set_cons_succ, List.map_cons, List.map_nil, List.cons_append, List.nil_append, List.replicate, List.length_cons, List.length_nil, Nat.zero_add, Nat.reduceAdd, if_true, ite_true, reduceIte, wipeE, Bool.true_or, Bool.false_or, Bool.true_and, Bool.false_and, Bool.not_true, Bool.not_false, Bool.false_eq_true, if_false, fNe_int, h0, decide_false]
        exact hi
      rw [List.map_cons, enumD, mForL_cons (Γ1 := [.v t, .v (.tup (b.map D.int)), S2, .o (f.map D.int), .v (.int k), .v (.int x), s6, s7, S8]) rfl hb, mulR, if_neg h0]
      exact ih
theorem e_multiplied (a b : List Int) (p : Int) (hp : 0 < p) (hx : ∀ x ∈ a, -1000 ≤ x ∧ x ≤ 1000) (ha : a.length ≤ 200) (hb : b.length ≤ 200) : M_multiplied [.tup (a.map D.int), .tup (b.map D.int), .int p] = .ok (.v (.tup ((mulP p a b).map D.int))) := by
  by_cases h1 : a = []
  · simp only [M_multiplied, B_multiplied, Nw.lf, lf, lfA_ints, SZ, Nat.reduceLeDiff, z1, z2, z3, z4, z5, z6, z7, z8, z9, z10, z11, z12, z13, z14, z15, z16, z17, z18, z19, z20, z21, z22, z23, z24, Nat.zero_le, fin, finI, mSeq, mIf, mRet, mRetN, mDrop, mSet, mAsg, mPar, mAug, mSetIx, mMe, mFor, mIs, mEn, mZa, mN, mK, mA0, mA1, mB, mT, mAnd, mOr, mNot, mAndV, mOrV, mNotV, mIfE, mCh, mTup, mLst, mFz1, mFzA, fzL, fz1, mCall, mCallI, mAp, mAd, mNeg, mYes, mLc, mNx, mBad, mRaise, mBk, mCt, stB, gN, gs0, gs1, gT, rsA, rs, allV, BV.fz, Nw.bv, R.bind, nox, gt, two, fAdd_int, fSub, fCmp, fLen, fList, fTuple, fInt, fAbs, fMax, fMin, fIx, fSlH, fSlL, fSl, fRev, fIs, fNeg, isNon, Option.bind_some, Option.map_some, List.set_cons_zero, List.set_cons_succ, List.map_cons, List.map_nil, List.cons_append, List.nil_append, List.replicate, List.length_cons, List.length_nil, Nat.zero_add, Nat.reduceAdd, if_true, ite_true, reduceIte, wipeE, Bool.true_or, Bool.false_or, Bool.true_and, Bool.false_and, Bool.not_true, Bool.not_false, Bool.false_eq_true, if_false, fEq_tn, h1, decide_true, mulP_nil_l, List.map_nil, fEq_nn]
  · by_cases h2 : b = []
    · simp only [M_multiplied, B_multiplied, Nw.lf, lf, lfA_ints, SZ, Nat.reduceLeDiff, z1, z2, z3, z4, z5, z6, z7, z8, z9, z10, z11, z12, z13, z14, z15, z16, z17, z18, z19, z20, z21, z22, z23, z24, Nat.zero_le, fin, finI, mSeq, mIf, mRet, mRetN, mDrop, mSet, mAsg, mPar, mAug, mSetIx, mMe, mFor, mIs, mEn, mZa, mN, mK, mA0, mA1, mB, mT, mAnd, mOr, mNot, mAndV, mOrV, mNotV, mIfE, mCh, mTup, mLst, mFz1, mFzA, fzL, fz1, mCall, mCallI, mAp, mAd, mNeg, mYes, mLc, mNx, mBad, mRaise, mBk, mCt, stB, gN, gs0, gs1, gT, rsA, rs, allV, BV.fz, Nw.bv, R.bind, nox, gt, two, fAdd_int, fSub, fCmp, fLen, fList, fTuple, fInt, fAbs, fMax, fMin, fIx, fSlH, fSlL, fSl, fRev, fIs, fNeg, isNon, Option.bind_some, Option.map_some, List.set_cons_zero, List.set_cons_succ, List.map_cons, List.map_nil, List.cons_append, List.nil_append, List.replicate, List.length_cons, List.length_nil, Nat.zero_add, Nat.reduceAdd, if_true, ite_true, reduceIte, wipeE, Bool.true_or, Bool.false_or, Bool.true_and, Bool.false_and, Bool.not_true, Bool.not_false, Bool.false_eq_true, if_false, fEq_tn, h1, h2, decide_true, decide_false, mulP_nil_r, List.map_nil, fEq_nn]
    · have ha0 : 0 < a.length := List.length_pos_iff.mpr h1
      have hb0 : 0 < b.length := List.length_pos_iff.mpr h2
      have e1 : ((a.length : Int) + (b.length : Int) - 1).toNat = a.length + b.length - 1 := by omega
      have hm := fMul_l1 (.int 0) ((a.length : Int) + (b.length : Int) - 1) (by omega) (by omega)
      rw [e1, ← List.map_replicate] at hm
      obtain ⟨r4, r5, r6, r7, hw⟩ := w_mul1 b (.v (.int p)) .no (.tup (a.map D.int)) a (List.replicate (a.length + b.length - 1) 0) 0 .no .no .no .no hx (by simp; omega) (by simp; omega)
      have hc := e_cutL ((mulR b a (List.replicate (a.length + b.length - 1) 0) 0).map (· % p)) (by rw [List.length_map, mulR_length]; simp; omega)
      rw [mulR_trim p a b h1 h2] at hc
      have hl := mLc_map D.int (fun n => .int (n % p)) (mulR b a (List.replicate (a.length + b.length - 1) 0) 0) (mi := mIs (mN 3)) (f := gN 8) (e := Le_multiplied_3) (vs := [8])
        (Γ := [.v (.tup (a.map D.int)), .v (.tup (b.map D.int)), .v (.int p), .o ((mulR b a (List.replicate (a.length + b.length - 1) 0) 0).map D.int), r4, r5, r6, r7, .no])
        (Γ1 := [.v (.tup (a.map D.int)), .v (.tup (b.map D.int)), .v (.int p), .v (.lst ((mulR b a (List.replicate (a.length + b.length - 1) 0) 0).map D.int)), r4, r5, r6, r7, .no])
        (by simp only [Nw.lf, lf, lfA_ints, SZ, Nat.reduceLeDiff, z1, z2, z3, z4, z5, z6, z7, z8, z9, z10, z11, z12, z13, z14, z15, z16, z17, z18, z19, z20, z21, z22, z23, z24, Nat.zero_le, fin, finI, mSeq, mIf, mRet, mRetN, mDrop, mSet, mAsg, mPar, mAug, mSetIx, mMe, mFor, mIs, mEn, mZa, mN, mK, mA0, mA1, mB, mT, mAnd, mOr, mNot, mAndV, mOrV, mNotV, mIfE, mCh, mTup, mLst, mFz1, mFzA, fzL, fz1, mCall, mCallI, mAp, mAd, mNeg, mYes, mLc, mNx, mBad, mRaise, mBk, mCt, stB, gN, gs0, gs1, gT, rsA, rs, allV, BV.fz, Nw.bv, R.bind, nox, gt, two, fAdd_int, fSub, fCmp, fLen, fList, fTuple, fInt, fAbs, fMax, fMin, fIx, fSlH, fSlL, fSl, fRev, fIs, fNeg, isNon, Option.bind_some, Option.map_some, List.set_cons_zero, List.set_cons_succ, List.map_cons, List.map_nil, List.cons_append, List.nil_append, List.replicate, List.length_cons, List.length_nil, Nat.zero_add, Nat.reduceAdd, if_true, ite_true, reduceIte, wipeE, Bool.true_or, Bool.false_or, Bool.true_and, Bool.false_and, Bool.not_true, Bool.not_false, Bool.false_eq_true, if_false]) (by rw [mulR_length]; simp; omega)
        (fun x hx => by exact ⟨_, _, rfl, by simp only [Le_multiplied_3, Nw.lf, lf, lfA_ints, SZ, Nat.reduceLeDiff, z1, z2, z3, z4, z5, z6, z7, z8, z9, z10, z11, z12, z13, z14, z15, z16, z17, z18, z19, z20, z21, z22, z23, z24, Nat.zero_le, fin, finI, mSeq, mIf, mRet, mRetN, mDrop, mSet, mAsg, mPar, mAug, mSetIx, mMe, mFor, mIs, mEn, mZa, mN, mK, mA0, mA1, mB, mT, mAnd, mOr, mNot, mAndV, mOrV, mNotV, mIfE, mCh, mTup, mLst, mFz1, mFzA, fzL, fz1, mCall, mCallI, mAp, mAd, mNeg, mYes, mLc, mNx, mBad, mRaise, mBk, mCt, stB, gN, gs0, gs1, gT, rsA, rs, allV, BV.fz, Nw.bv, R.bind, nox, gt, two, fAdd_int, fSub, fCmp, fLen, fList, fTuple, fInt, fAbs, fMax, fMin, fIx, fSlH, fSlL, fSl, fRev, fIs, fNeg, isNon, Option.bind_some, Option.map_some, List.set_cons_zero, List.set_cons_succ, List.map_cons, List.map_nil, List.cons_append, List.nil_append, List.replicate, List.length_cons, List.length_nil, Nat.zero_add, Nat.reduceAdd, if_true, ite_true, reduceIte, wipeE, Bool.true_or, Bool.false_or, Bool.true_and, Bool.false_and, Bool.not_true, Bool.not_false, Bool.false_eq_true, if_false, fMod_pos hp]; rfl, by rfl⟩)
      have hz : (mulR b a (List.replicate (a.length + b.length - 1) 0) 0).map (fun n => D.int (n % p)) = ((mulR b a (List.replicate (a.length + b.length - 1) 0) 0).map (· % p)).map D.int := by rw [List.map_map]; rfl
      rw [hz] at hl
      generalize hL : (mulR b a (List.replicate (a.length + b.length - 1) 0) 0) = L at *
      simp only [mLc, Nw.lf, lf, lfA_ints, SZ, Nat.reduceLeDiff, z1, z2, z3, z4, z5, z6, z7, z8, z9, z10, z11, z12, z13, z14, z15, z16, z17, z18, z19, z20, z21, z22, z23, z24, Nat.zero_le, fin, finI, mSeq, mIf, mRet, mRetN, mDrop, mSet, mAsg, mPar, mAug, mSetIx, mMe, mFor, mIs, mEn, mZa, mN, mK, mA0, mA1, mB, mT, mAnd, mOr, mNot, mAndV, mOrV, mNotV, mIfE, mCh, mTup, mLst, mFz1, mFzA, fzL, fz1, mCall, mCallI, mAp, mAd, mNeg, mYes, mLc, mNx, mBad, mRaise, mBk, mCt, stB, gN, gs0, gs1, gT, rsA, rs, allV, BV.fz, Nw.bv, R.bind, nox, gt, two, fAdd_int, fSub, fCmp, fLen, fList, fTuple, fInt, fAbs, fMax, fMin, fIx, fSlH, fSlL, fSl, fRev, fIs, fNeg, isNon, Option.bind_some, Option.map_some, List.set_cons_zero, List.set_cons_succ, List.map_cons, List.map_nil, List.cons_append, List.nil_append, List.replicate, List.length_cons, List.length_nil, Nat.zero_add, Nat.reduceAdd, if_true, ite_true, reduceIte, wipeE, Bool.true_or, Bool.false_or, Bool.true_and, Bool.false_and, Bool.not_true, Bool.not_false, Bool.false_eq_true, if_false] at hl
      simp only [M_multiplied, B_multiplied, Nw.lf, lf, lfA_ints, SZ, Nat.reduceLeDiff, z1, z2, z3, z4, z5, z6, z7, z8, z9, z10, z11, z12, z13, z14, z15, z16, z17, z18, z19, z20, z21, z22, z23, z24, Nat.zero_le, fin, finI, mSeq, mIf, mRet, mRetN, mDrop, mSet, mAsg, mPar, mAug, mSetIx, mMe, mFor, mIs, mEn, mZa, mN, mK, mA0, mA1, mB, mT, mAnd, mOr, mNot, mAndV, mOrV, mNotV, mIfE, mCh, mTup, mLst, mFz1, mFzA, fzL, fz1, mCall, mCallI, mAp, mAd, mNeg, mYes, mLc, mNx, mBad, mRaise, mBk, mCt, stB, gN, gs0, gs1, gT, rsA, rs, allV, BV.fz, Nw.bv, R.bind, nox, gt, two, fAdd_int, fSub, fCmp, fLen, fList, fTuple, fInt, fAbs, fMax, fMin, fIx, fSlH, fSlL, fSl, fRev, fIs, fNeg, isNon, Option.bind_some, Option.map_some, List.set_cons_zero, List.set_cons_succ, List.map_cons, List.map_nil, List.cons_append, List.nil_append, List.replicate, List.length_cons, List.length_nil, Nat.zero_add, Nat.reduceAdd, if_true, ite_true, reduceIte, wipeE, Bool.true_or, Bool.false_or, Bool.true_and, Bool.false_and, Bool.not_true, Bool.not_false, Bool.false_eq_true, if_false, fEq_tn, h1, h2, decide_false, List.length_map, hm, hw, hl, hc]
theorem pr_le : ∀ p ∈ k_PRIMES, 2 ≤ p ∧ p ≤ 97 := by decide
theorem e_is_poly (a : List Int) (p : Int) (h : Po p a) (hl : a.length ≤ 25) : M_is_poly [.tup (a.map D.int), .int p] = .ok (.v (.bl true)) := by
  have h1 : decide ((25 : Int) < (a.length : Int)) = false := by simp; omega
  have hq := mLc_map D.int (fun n => .bl (decide (0 ≤ n) && decide (n < p))) a (mi := mIs (mN 0)) (f := gN 2) (e := Le_is_poly_1) (vs := [2]) (Γ := [.v (.tup (a.map D.int)), .v (.int p), .no]) (Γ1 := [.v (.tup (a.map D.int)), .v (.int p), .no])
    (by simp only [Nw.lf, lf, lfA_ints, SZ, Nat.reduceLeDiff, z1, z2, z3, z4, z5, z6, z7, z8, z9, z10, z11, z12, z13, z14, z15, z16, z17, z18, z19, z20, z21, z22, z23, z24, Nat.zero_le, fin, finI, mSeq, mIf, mRet, mRetN, mDrop, mSet, mAsg, mPar, mAug, mSetIx, mMe, mFor, mIs, mEn, mZa, mN, mK, mA0, mA1, mB, mT, mAnd, mOr, mNot, mAndV, mOrV, mNotV, mIfE, mCh, mTup, mLst, mFz1, mFzA, fzL, fz1, mCall, mCallI, mAp, mAd, mNeg, mYes, mLc, mNx, mBad, mRaise, mBk, mCt, stB, gN, gs0, gs1, gT, rsA, rs, allV, BV.fz, Nw.bv, R.bind, nox, gt, two, fAdd_int, fSub, fCmp, fLen, fList, fTuple, fInt, fAbs, fMax, fMin, fIx, fSlH, fSlL, fSl, fRev, fIs, fNeg, isNon, Option.bind_some, Option.map_some, List.set_cons_zero, List.set_cons_succ, List.map_cons, List.map_nil, List.cons_append, List.nil_append, List.replicate, List.length_cons, List.length_nil, Nat.zero_add, Nat.reduceAdd, if_true, ite_true, reduceIte, wipeE, Bool.true_or, Bool.false_or, Bool.true_and, Bool.false_and, Bool.not_true, Bool.not_false, Bool.false_eq_true, if_false]) (by omega) (fun x hx => by exact ⟨_, _, rfl, by simp only [Le_is_poly_1, Nw.lf, lf, lfA_ints, SZ, Nat.reduceLeDiff, z1, z2, z3, z4, z5, z6, z7, z8, z9, z10, z11, z12, z13, z14, z15, z16, z17, z18, z19, z20, z21, z22, z23, z24, Nat.zero_le, fin, finI, mSeq, mIf, mRet, mRetN, mDrop, mSet, mAsg, mPar, mAug, mSetIx, mMe, mFor, mIs, mEn, mZa, mN, mK, mA0, mA1, mB, mT, mAnd, mOr, mNot, mAndV, mOrV, mNotV, mIfE, mCh, mTup, mLst, mFz1, mFzA, fzL, fz1, mCall, mCallI, mAp, mAd, mNeg, mYes, mLc, mNx, mBad, mRaise, mBk, mCt, stB, gN, gs0, gs1, gT, rsA, rs, allV, BV.fz, Nw.bv, R.bind, nox, gt, two, fAdd_int, fSub, fCmp, fLen, fList, fTuple, fInt, fAbs, fMax, fMin, fIx, fSlH, fSlL, fSl, fRev, fIs, fNeg, isNon, Option.bind_some, Option.map_some, List.set_cons_zero, List.set_cons_succ, List.map_cons, List.map_nil, List.cons_append, List.nil_append, List.replicate, List.length_cons, List.length_nil, Nat.zero_add, Nat.reduceAdd, if_true, ite_true, reduceIte, wipeE, Bool.true_or, Bool.false_or, Bool.true_and, Bool.false_and, Bool.not_true, Bool.not_false, Bool.false_eq_true, if_false, e_is_rest]; rfl, by rfl⟩)
  have ha : a.all (fun n => decide (0 ≤ n) && decide (n < p)) = true := by
    rw [List.all_eq_true]
    intro x hx
    have := h.r x hx
    simp [this.1, this.2]
  have hf := fAll_map (fun n : Int => decide (0 ≤ n) && decide (n < p)) a
  rw [ha] at hf
  simp only [mLc, Nw.lf, lf, lfA_ints, SZ, Nat.reduceLeDiff, z1, z2, z3, z4, z5, z6, z7, z8, z9, z10, z11, z12, z13, z14, z15, z16, z17, z18, z19, z20, z21, z22, z23, z24, Nat.zero_le, fin, finI, mSeq, mIf, mRet, mRetN, mDrop, mSet, mAsg, mPar, mAug, mSetIx, mMe, mFor, mIs, mEn, mZa, mN, mK, mA0, mA1, mB, mT, mAnd, mOr, mNot, mAndV, mOrV, mNotV, mIfE, mCh, mTup, mLst, mFz1, mFzA, fzL, fz1, mCall, mCallI, mAp, mAd, mNeg, mYes, mLc, mNx, mBad, mRaise, mBk, mCt, stB, gN, gs0, gs1, gT, rsA, rs, allV, BV.fz, Nw.bv, R.bind, nox, gt, two, fAdd_int, fSub, fCmp, fLen, fList, fTuple, fInt, fAbs, fMax, fMin, fIx, fSlH, fSlL, fSl, fRev, fIs, fNeg, isNon, Option.bind_some, Option.map_some, List.set_cons_zero, List.set_cons_succ, List.map_cons, List.map_nil, List.cons_append, List.nil_append, List.replicate, List.length_cons, List.length_nil, Nat.zero_add, Nat.reduceAdd, if_true, ite_true, reduceIte, wipeE, Bool.true_or, Bool.false_or, Bool.true_and, Bool.false_and, Bool.not_true, Bool.not_false, Bool.false_eq_true, if_false] at hq
  by_cases h0 : a = []
  · subst h0
    simp only [List.map_nil] at hq hf
    simp only [M_is_poly, B_is_poly, Nw.lf, lf, lfA_ints, SZ, Nat.reduceLeDiff, z1, z2, z3, z4, z5, z6, z7, z8, z9, z10, z11, z12, z13, z14, z15, z16, z17, z18, z19, z20, z21, z22, z23, z24, Nat.zero_le, fin, finI, mSeq, mIf, mRet, mRetN, mDrop, mSet, mAsg, mPar, mAug, mSetIx, mMe, mFor, mIs, mEn, mZa, mN, mK, mA0, mA1, mB, mT, mAnd, mOr, mNot, mAndV, mOrV, mNotV, mIfE, mCh, mTup, mLst, mFz1, mFzA, fzL, fz1, mCall, mCallI, mAp, mAd, mNeg, mYes, mLc, mNx, mBad, mRaise, mBk, mCt, stB, gN, gs0, gs1, gT, rsA, rs, allV, BV.fz, Nw.bv, R.bind, nox, gt, two, fAdd_int, fSub, fCmp, fLen, fList, fTuple, fInt, fAbs, fMax, fMin, fIx, fSlH, fSlL, fSl, fRev, fIs, fNeg, isNon, Option.bind_some, Option.map_some, List.set_cons_zero, List.set_cons_succ, List.map_cons, List.map_nil, List.cons_append, List.nil_append, List.replicate, List.length_cons, List.length_nil, Nat.zero_add, Nat.reduceAdd, if_true, ite_true, reduceIte, wipeE, Bool.true_or, Bool.false_or, Bool.true_and, Bool.false_and, Bool.not_true, Bool.not_false, Bool.false_eq_true, if_false, hq, hf, fEq_nn, h1, List.map_nil]
    rfl
  · have hl := atI_lastI h0
    have hz : ¬ cf a (a.length - 1) = 0 := trim_last h.t h0
    simp only [M_is_poly, B_is_poly, Nw.lf, lf, lfA_ints, SZ, Nat.reduceLeDiff, z1, z2, z3, z4, z5, z6, z7, z8, z9, z10, z11, z12, z13, z14, z15, z16, z17, z18, z19, z20, z21, z22, z23, z24, Nat.zero_le, fin, finI, mSeq, mIf, mRet, mRetN, mDrop, mSet, mAsg, mPar, mAug, mSetIx, mMe, mFor, mIs, mEn, mZa, mN, mK, mA0, mA1, mB, mT, mAnd, mOr, mNot, mAndV, mOrV, mNotV, mIfE, mCh, mTup, mLst, mFz1, mFzA, fzL, fz1, mCall, mCallI, mAp, mAd, mNeg, mYes, mLc, mNx, mBad, mRaise, mBk, mCt, stB, gN, gs0, gs1, gT, rsA, rs, allV, BV.fz, Nw.bv, R.bind, nox, gt, two, fAdd_int, fSub, fCmp, fLen, fList, fTuple, fInt, fAbs, fMax, fMin, fIx, fSlH, fSlL, fSl, fRev, fIs, fNeg, isNon, Option.bind_some, Option.map_some, List.set_cons_zero, List.set_cons_succ, List.map_cons, List.map_nil, List.cons_append, List.nil_append, List.replicate, List.length_cons, List.length_nil, Nat.zero_add, Nat.reduceAdd, if_true, ite_true, reduceIte, wipeE, Bool.true_or, Bool.false_or, Bool.true_and, Bool.false_and, Bool.not_true, Bool.not_false, Bool.false_eq_true, if_false, hq, hf, fEq_tn, h0, decide_false, fNe_int, hl, hz, h1, List.length_map]
theorem e_need_polys (as : List (List Int)) (p : Int) (hp : p ∈ k_PRIMES) (hl : as.length ≤ 1000) (h : ∀ a ∈ as, Po p a ∧ a.length ≤ 25) : M_need_polys [.tup (as.map fun a => .tup (a.map D.int)), .int p] = .ok (.v .non) := by
  have hq := mLc_map (fun a : List Int => .tup (a.map D.int)) (fun _ => .bl true) as (mi := mIs (mN 0)) (f := gN 2) (e := Le_need_polys_1) (vs := [2]) (Γ := [.v (.tup (as.map fun a => .tup (a.map D.int))), .v (.int p), .no]) (Γ1 := [.v (.tup (as.map fun a => .tup (a.map D.int))), .v (.int p), .no])
    (by simp only [Nw.lf, lf, lfA_ints, SZ, Nat.reduceLeDiff, z1, z2, z3, z4, z5, z6, z7, z8, z9, z10, z11, z12, z13, z14, z15, z16, z17, z18, z19, z20, z21, z22, z23, z24, Nat.zero_le, fin, finI, mSeq, mIf, mRet, mRetN, mDrop, mSet, mAsg, mPar, mAug, mSetIx, mMe, mFor, mIs, mEn, mZa, mN, mK, mA0, mA1, mB, mT, mAnd, mOr, mNot, mAndV, mOrV, mNotV, mIfE, mCh, mTup, mLst, mFz1, mFzA, fzL, fz1, mCall, mCallI, mAp, mAd, mNeg, mYes, mLc, mNx, mBad, mRaise, mBk, mCt, stB, gN, gs0, gs1, gT, rsA, rs, allV, BV.fz, Nw.bv, R.bind, nox, gt, two, fAdd_int, fSub, fCmp, fLen, fList, fTuple, fInt, fAbs, fMax, fMin, fIx, fSlH, fSlL, fSl, fRev, fIs, fNeg, isNon, Option.bind_some, Option.map_some, List.set_cons_zero, List.set_cons_succ, List.map_cons, List.map_nil, List.cons_append, List.nil_append, List.replicate, List.length_cons, List.length_nil, Nat.zero_add, Nat.reduceAdd, if_true, ite_true, reduceIte, wipeE, Bool.true_or, Bool.false_or, Bool.true_and, Bool.false_and, Bool.not_true, Bool.not_false, Bool.false_eq_true, if_false]) (by omega) (fun x hx => by exact ⟨_, _, rfl, by simp only [Le_need_polys_1, Nw.lf, lf, lfA_ints, SZ, Nat.reduceLeDiff, z1, z2, z3, z4, z5, z6, z7, z8, z9, z10, z11, z12, z13, z14, z15, z16, z17, z18, z19, z20, z21, z22, z23, z24, Nat.zero_le, fin, finI, mSeq, mIf, mRet, mRetN, mDrop, mSet, mAsg, mPar, mAug, mSetIx, mMe, mFor, mIs, mEn, mZa, mN, mK, mA0, mA1, mB, mT, mAnd, mOr, mNot, mAndV, mOrV, mNotV, mIfE, mCh, mTup, mLst, mFz1, mFzA, fzL, fz1, mCall, mCallI, mAp, mAd, mNeg, mYes, mLc, mNx, mBad, mRaise, mBk, mCt, stB, gN, gs0, gs1, gT, rsA, rs, allV, BV.fz, Nw.bv, R.bind, nox, gt, two, fAdd_int, fSub, fCmp, fLen, fList, fTuple, fInt, fAbs, fMax, fMin, fIx, fSlH, fSlL, fSl, fRev, fIs, fNeg, isNon, Option.bind_some, Option.map_some, List.set_cons_zero, List.set_cons_succ, List.map_cons, List.map_nil, List.cons_append, List.nil_append, List.replicate, List.length_cons, List.length_nil, Nat.zero_add, Nat.reduceAdd, if_true, ite_true, reduceIte, wipeE, Bool.true_or, Bool.false_or, Bool.true_and, Bool.false_and, Bool.not_true, Bool.not_false, Bool.false_eq_true, if_false, e_is_poly x p (h x hx).1 (h x hx).2]; rfl, by rfl⟩)
  have hf := fAll_true as
  simp only [mLc, Nw.lf, lf, lfA_ints, SZ, Nat.reduceLeDiff, z1, z2, z3, z4, z5, z6, z7, z8, z9, z10, z11, z12, z13, z14, z15, z16, z17, z18, z19, z20, z21, z22, z23, z24, Nat.zero_le, fin, finI, mSeq, mIf, mRet, mRetN, mDrop, mSet, mAsg, mPar, mAug, mSetIx, mMe, mFor, mIs, mEn, mZa, mN, mK, mA0, mA1, mB, mT, mAnd, mOr, mNot, mAndV, mOrV, mNotV, mIfE, mCh, mTup, mLst, mFz1, mFzA, fzL, fz1, mCall, mCallI, mAp, mAd, mNeg, mYes, mLc, mNx, mBad, mRaise, mBk, mCt, stB, gN, gs0, gs1, gT, rsA, rs, allV, BV.fz, Nw.bv, R.bind, nox, gt, two, fAdd_int, fSub, fCmp, fLen, fList, fTuple, fInt, fAbs, fMax, fMin, fIx, fSlH, fSlL, fSl, fRev, fIs, fNeg, isNon, Option.bind_some, Option.map_some, List.set_cons_zero, List.set_cons_succ, List.map_cons, List.map_nil, List.cons_append, List.nil_append, List.replicate, List.length_cons, List.length_nil, Nat.zero_add, Nat.reduceAdd, if_true, ite_true, reduceIte, wipeE, Bool.true_or, Bool.false_or, Bool.true_and, Bool.false_and, Bool.not_true, Bool.not_false, Bool.false_eq_true, if_false] at hq
  simp only [M_need_polys, B_need_polys, Nw.lf, lf, lfA_ints, SZ, Nat.reduceLeDiff, z1, z2, z3, z4, z5, z6, z7, z8, z9, z10, z11, z12, z13, z14, z15, z16, z17, z18, z19, z20, z21, z22, z23, z24, Nat.zero_le, fin, finI, mSeq, mIf, mRet, mRetN, mDrop, mSet, mAsg, mPar, mAug, mSetIx, mMe, mFor, mIs, mEn, mZa, mN, mK, mA0, mA1, mB, mT, mAnd, mOr, mNot, mAndV, mOrV, mNotV, mIfE, mCh, mTup, mLst, mFz1, mFzA, fzL, fz1, mCall, mCallI, mAp, mAd, mNeg, mYes, mLc, mNx, mBad, mRaise, mBk, mCt, stB, gN, gs0, gs1, gT, rsA, rs, allV, BV.fz, Nw.bv, R.bind, nox, gt, two, fAdd_int, fSub, fCmp, fLen, fList, fTuple, fInt, fAbs, fMax, fMin, fIx, fSlH, fSlL, fSl, fRev, fIs, fNeg, isNon, Option.bind_some, Option.map_some, List.set_cons_zero, List.set_cons_succ, List.map_cons, List.map_nil, List.cons_append, List.nil_append, List.replicate, List.length_cons, List.length_nil, Nat.zero_add, Nat.reduceAdd, if_true, ite_true, reduceIte, wipeE, Bool.true_or, Bool.false_or, Bool.true_and, Bool.false_and, Bool.not_true, Bool.not_false, Bool.false_eq_true, if_false, hq, hf, e_need_prime p hp]
theorem e_poly_plus (a b : List Int) (p : Int) (hp : p ∈ k_PRIMES) (ha : Po p a) (hb : Po p b) (hla : a.length ≤ 25) (hlb : b.length ≤ 25) : M_poly_plus [.tup (a.map D.int), .tup (b.map D.int), .int p] = .ok (.v (.tup ((bl p 1 a b).map D.int))) := by
  have hn := e_need_polys [a, b] p hp (by simp) (by simp; exact ⟨⟨ha, hla⟩, hb, hlb⟩)
  have h2 := pr_le p hp
  have hd := e_blended a b 1 p (by omega) (by omega) (by omega) (by omega) (by omega)
  simp only [List.map_cons, List.map_nil] at hn
  simp only [M_poly_plus, B_poly_plus, Nw.lf, lf, lfA_ints, SZ, Nat.reduceLeDiff, z1, z2, z3, z4, z5, z6, z7, z8, z9, z10, z11, z12, z13, z14, z15, z16, z17, z18, z19, z20, z21, z22, z23, z24, Nat.zero_le, fin, finI, mSeq, mIf, mRet, mRetN, mDrop, mSet, mAsg, mPar, mAug, mSetIx, mMe, mFor, mIs, mEn, mZa, mN, mK, mA0, mA1, mB, mT, mAnd, mOr, mNot, mAndV, mOrV, mNotV, mIfE, mCh, mTup, mLst, mFz1, mFzA, fzL, fz1, mCall, mCallI, mAp, mAd, mNeg, mYes, mLc, mNx, mBad, mRaise, mBk, mCt, stB, gN, gs0, gs1, gT, rsA, rs, allV, BV.fz, Nw.bv, R.bind, nox, gt, two, fAdd_int, fSub, fCmp, fLen, fList, fTuple, fInt, fAbs, fMax, fMin, fIx, fSlH, fSlL, fSl, fRev, fIs, fNeg, isNon, Option.bind_some, Option.map_some, List.set_cons_zero, List.set_cons_succ, List.map_cons, List.map_nil, List.cons_append, List.nil_append, List.replicate, List.length_cons, List.length_nil, Nat.zero_add, Nat.reduceAdd, if_true, ite_true, reduceIte, wipeE, Bool.true_or, Bool.false_or, Bool.true_and, Bool.false_and, Bool.not_true, Bool.not_false, Bool.false_eq_true, if_false, hn, hd]
theorem e_poly_minus (a b : List Int) (p : Int) (hp : p ∈ k_PRIMES) (ha : Po p a) (hb : Po p b) (hla : a.length ≤ 25) (hlb : b.length ≤ 25) : M_poly_minus [.tup (a.map D.int), .tup (b.map D.int), .int p] = .ok (.v (.tup ((bl p (p - 1) a b).map D.int))) := by
  have hn := e_need_polys [a, b] p hp (by simp) (by simp; exact ⟨⟨ha, hla⟩, hb, hlb⟩)
  have h2 := pr_le p hp
  have hd := e_blended a b (p - 1) p (by omega) (by omega) (by omega) (by omega) (by omega)
  simp only [List.map_cons, List.map_nil] at hn
  simp only [M_poly_minus, B_poly_minus, Nw.lf, lf, lfA_ints, SZ, Nat.reduceLeDiff, z1, z2, z3, z4, z5, z6, z7, z8, z9, z10, z11, z12, z13, z14, z15, z16, z17, z18, z19, z20, z21, z22, z23, z24, Nat.zero_le, fin, finI, mSeq, mIf, mRet, mRetN, mDrop, mSet, mAsg, mPar, mAug, mSetIx, mMe, mFor, mIs, mEn, mZa, mN, mK, mA0, mA1, mB, mT, mAnd, mOr, mNot, mAndV, mOrV, mNotV, mIfE, mCh, mTup, mLst, mFz1, mFzA, fzL, fz1, mCall, mCallI, mAp, mAd, mNeg, mYes, mLc, mNx, mBad, mRaise, mBk, mCt, stB, gN, gs0, gs1, gT, rsA, rs, allV, BV.fz, Nw.bv, R.bind, nox, gt, two, fAdd_int, fSub, fCmp, fLen, fList, fTuple, fInt, fAbs, fMax, fMin, fIx, fSlH, fSlL, fSl, fRev, fIs, fNeg, isNon, Option.bind_some, Option.map_some, List.set_cons_zero, List.set_cons_succ, List.map_cons, List.map_nil, List.cons_append, List.nil_append, List.replicate, List.length_cons, List.length_nil, Nat.zero_add, Nat.reduceAdd, if_true, ite_true, reduceIte, wipeE, Bool.true_or, Bool.false_or, Bool.true_and, Bool.false_and, Bool.not_true, Bool.not_false, Bool.false_eq_true, if_false, hn, e_less, hd]
theorem e_poly_times (a b : List Int) (p : Int) (hp : p ∈ k_PRIMES) (ha : Po p a) (hb : Po p b) (hla : a.length ≤ 25) (hlb : b.length ≤ 25) : M_poly_times [.tup (a.map D.int), .tup (b.map D.int), .int p] = .ok (.v (.tup ((mulP p a b).map D.int))) := by
  have hn := e_need_polys [a, b] p hp (by simp) (by simp; exact ⟨⟨ha, hla⟩, hb, hlb⟩)
  have h2 := pr_le p hp
  have hd := e_multiplied a b p (by omega) (fun x hx => by have := ha.r x hx; omega) (by omega) (by omega)
  simp only [List.map_cons, List.map_nil] at hn
  simp only [M_poly_times, B_poly_times, Nw.lf, lf, lfA_ints, SZ, Nat.reduceLeDiff, z1, z2, z3, z4, z5, z6, z7, z8, z9, z10, z11, z12, z13, z14, z15, z16, z17, z18, z19, z20, z21, z22, z23, z24, Nat.zero_le, fin, finI, mSeq, mIf, mRet, mRetN, mDrop, mSet, mAsg, mPar, mAug, mSetIx, mMe, mFor, mIs, mEn, mZa, mN, mK, mA0, mA1, mB, mT, mAnd, mOr, mNot, mAndV, mOrV, mNotV, mIfE, mCh, mTup, mLst, mFz1, mFzA, fzL, fz1, mCall, mCallI, mAp, mAd, mNeg, mYes, mLc, mNx, mBad, mRaise, mBk, mCt, stB, gN, gs0, gs1, gT, rsA, rs, allV, BV.fz, Nw.bv, R.bind, nox, gt, two, fAdd_int, fSub, fCmp, fLen, fList, fTuple, fInt, fAbs, fMax, fMin, fIx, fSlH, fSlL, fSl, fRev, fIs, fNeg, isNon, Option.bind_some, Option.map_some, List.set_cons_zero, List.set_cons_succ, List.map_cons, List.map_nil, List.cons_append, List.nil_append, List.replicate, List.length_cons, List.length_nil, Nat.zero_add, Nat.reduceAdd, if_true, ite_true, reduceIte, wipeE, Bool.true_or, Bool.false_or, Bool.true_and, Bool.false_and, Bool.not_true, Bool.not_false, Bool.false_eq_true, if_false, hn, hd]
theorem e__law_begin (ns : List Int) : ∃ xs, M__law_begin [.scr ns] = .ok (.o xs) ∧ Dr xs := by
  have hc : cutD (ns.map D.int) none (some (63 : Int)) = (ns.take 63).map D.int := by rw [show (63 : Int) = ((63 : Nat) : Int) from rfl, cutD_take, List.map_take]
  refine ⟨[.lst ((ns.take 63).map D.int), .int (0 : Nat), .int 0, .int 37], ?_, ⟨ns.take 63, 0, 0, 37, rfl, by simp; omega, by omega, by omega, by omega⟩⟩
  simp only [M__law_begin, B__law_begin, Nw.lf, lf, lfA_ints, SZ, Nat.reduceLeDiff, z1, z2, z3, z4, z5, z6, z7, z8, z9, z10, z11, z12, z13, z14, z15, z16, z17, z18, z19, z20, z21, z22, z23, z24, Nat.zero_le, fin, finI, mSeq, mIf, mRet, mRetN, mDrop, mSet, mAsg, mPar, mAug, mSetIx, mMe, mFor, mIs, mEn, mZa, mN, mK, mA0, mA1, mB, mT, mAnd, mOr, mNot, mAndV, mOrV, mNotV, mIfE, mCh, mTup, mLst, mFz1, mFzA, fzL, fz1, mCall, mCallI, mAp, mAd, mNeg, mYes, mLc, mNx, mBad, mRaise, mBk, mCt, stB, gN, gs0, gs1, gT, rsA, rs, allV, BV.fz, Nw.bv, R.bind, nox, gt, two, fAdd_int, fSub, fCmp, fLen, fList, fTuple, fInt, fAbs, fMax, fMin, fIx, fSlH, fSlL, fSl, fRev, fIs, fNeg, isNon, Option.bind_some, Option.map_some, List.set_cons_zero, List.set_cons_succ, List.map_cons, List.map_nil, List.cons_append, List.nil_append, List.replicate, List.length_cons, List.length_nil, Nat.zero_add, Nat.reduceAdd, if_true, ite_true, reduceIte, wipeE, Bool.true_or, Bool.false_or, Bool.true_and, Bool.false_and, Bool.not_true, Bool.not_false, Bool.false_eq_true, if_false, hc]
  rfl
theorem pow18 : fPow [.int 10, .int 18] = some (.v (.int 1000000000000000000)) := by
  have h : (0 : Int) ≤ 18 ∧ (18 : Int) ≤ 1000000 ∧ (10 : Int).natAbs < 2 ^ 64 := by decide
  simp only [fPow, if_pos h]
  rfl
theorem e__law_take (xs : List D) (h : Dr xs) (n : Int) (hn : 0 < n) (hn2 : n < 2 ^ 128) : ∃ r xs', M__law_take xs [.int n] = .ok (.v (.int r), xs') ∧ 0 ≤ r ∧ r < n ∧ Dr xs' := by
  obtain ⟨cs, i, j, k, rfl, hl, hj, hk, hk2⟩ := h
  have m1 : ∀ i, fMul [.int i, .int 48271] = some (.v (.int (i * 48271))) := fun i => fMul_sm (by omega) (by omega)
  have m2 : ∀ i, fMul [.int i, .int 69621] = some (.v (.int (i * 69621))) := fun i => fMul_sm (by omega) (by omega)
  have m3 : ∀ i, fMul [.int i, .int 5] = some (.v (.int (i * 5))) := fun i => fMul_sm (by omega) (by omega)
  have m4 : ∀ i, fMul [.int i, .int 16811] = some (.v (.int (i * 16811))) := fun i => fMul_sm (by omega) (by omega)
  have m5 : ∀ i, fMul [.int i, .int 31] = some (.v (.int (i * 31))) := fun i => fMul_sm (by omega) (by omega)
  have m6 : ∀ i, 0 ≤ i → i < 2147483647 → fMul [.int i, .int i] = some (.v (.int (i * i))) := fun i h1 h2 => fMul_int (.inl ⟨by omega, by omega⟩)
  have d1 : ∀ i, fMod [.int i, .int 2147483647] = some (.v (.int (i % 2147483647))) := fun i => fMod_pos (by omega)
  have d2 : ∀ i, fMod [.int i, .int 2147483629] = some (.v (.int (i % 2147483629))) := fun i => fMod_pos (by omega)
  have d3 : ∀ i, fMod [.int i, .int 8191] = some (.v (.int (i % 8191))) := fun i => fMod_pos (by omega)
  have d4 : ∀ i, fMod [.int i, .int n] = some (.v (.int (i % n))) := fun i => fMod_pos hn
  have q1 : ∀ i, fDiv [.int i, .int 61] = some (.v (.int (i / 61))) := fun i => fDiv_pos (by omega) (by omega)
  have q2 : ∀ i, fDiv [.int i, .int n] = some (.v (.int (i / n))) := fun i => fDiv_pos hn (by omega)
  have em : ∀ z : Int, 0 ≤ z % n ∧ z % n < n := fun z => ⟨Int.emod_nonneg _ (by omega), Int.emod_lt_of_pos _ hn⟩
  have eM : ∀ z : Int, 0 ≤ z % 2147483647 ∧ z % 2147483647 < 2147483647 := fun z => ⟨Int.emod_nonneg _ (by omega), Int.emod_lt_of_pos _ (by omega)⟩
  have eD : ∀ z : Int, 0 ≤ z → 0 ≤ z / n := fun z hz => Int.ediv_nonneg hz (by omega)
  by_cases hA1 : j < n
  · by_cases hA2 : i < cs.length
    · have hc := atI_ints cs i hA2
      have hA2' : (i : Int) < (cs.length : Int) := by omega
      generalize hcc : cf cs i = c at hc
      by_cases hB : 1000000000000000000 ≤ (if c < 0 then -c else c)
      · generalize hab : (if c < 0 then -c else c) = ab at hB
        by_cases hC : n ≤ ab
        · refine ⟨ab % n, [.lst (cs.map D.int), .int (i + 1 : Nat), .int (ab / n), .int k], ?_, (em _).1, (em _).2, ⟨cs, i + 1, ab / n, k, rfl, hl, eD _ (by omega), hk, hk2⟩⟩
          simp only [M__law_take, B__law_take, Nw.lf, lf, lfA_ints, SZ, Nat.reduceLeDiff, z1, z2, z3, z4, z5, z6, z7, z8, z9, z10, z11, z12, z13, z14, z15, z16, z17, z18, z19, z20, z21, z22, z23, z24, Nat.zero_le, fin, finI, mSeq, mIf, mRet, mRetN, mDrop, mSet, mAsg, mPar, mAug, mSetIx, mMe, mFor, mIs, mEn, mZa, mN, mK, mA0, mA1, mB, mT, mAnd, mOr, mNot, mAndV, mOrV, mNotV, mIfE, mCh, mTup, mLst, mFz1, mFzA, fzL, fz1, mCall, mCallI, mAp, mAd, mNeg, mYes, mLc, mNx, mBad, mRaise, mBk, mCt, stB, gN, gs0, gs1, gT, rsA, rs, allV, BV.fz, Nw.bv, R.bind, nox, gt, two, fAdd_int, fSub, fCmp, fLen, fList, fTuple, fInt, fAbs, fMax, fMin, fIx, fSlH, fSlL, fSl, fRev, fIs, fNeg, isNon, Option.bind_some, Option.map_some, List.set_cons_zero, List.set_cons_succ, List.map_cons, List.map_nil, List.cons_append, List.nil_append, List.replicate, List.length_cons, List.length_nil, Nat.zero_add, Nat.reduceAdd, if_true, ite_true, reduceIte, wipeE, Bool.true_or, Bool.false_or, Bool.true_and, Bool.false_and, Bool.not_true, Bool.not_false, Bool.false_eq_true, if_false, at4_0, at4_1, at4_2, at4_3, ix4_1, ix4_2, ix4_3, List.length_map, hA1, hA2', decide_true, decide_false, hc, pow18, hab, hB, hC, d4, q2]
          rfl
        · refine ⟨((((k * k % 2147483629) * 5 + k * 16811 + 2531011) % 2147483647) / 61 + (((k * k % 2147483629) * 5 + k * 16811 + 2531011) % 2147483647) % 8191 * 31) % n, [.lst (cs.map D.int), .int (i + 1 : Nat), .int ab, .int (((k * k % 2147483629) * 5 + k * 16811 + 2531011) % 2147483647)], ?_, (em _).1, (em _).2, ⟨cs, i + 1, ab, _, rfl, hl, by omega, (eM _).1, (eM _).2⟩⟩
          simp only [M__law_take, B__law_take, Nw.lf, lf, lfA_ints, SZ, Nat.reduceLeDiff, z1, z2, z3, z4, z5, z6, z7, z8, z9, z10, z11, z12, z13, z14, z15, z16, z17, z18, z19, z20, z21, z22, z23, z24, Nat.zero_le, fin, finI, mSeq, mIf, mRet, mRetN, mDrop, mSet, mAsg, mPar, mAug, mSetIx, mMe, mFor, mIs, mEn, mZa, mN, mK, mA0, mA1, mB, mT, mAnd, mOr, mNot, mAndV, mOrV, mNotV, mIfE, mCh, mTup, mLst, mFz1, mFzA, fzL, fz1, mCall, mCallI, mAp, mAd, mNeg, mYes, mLc, mNx, mBad, mRaise, mBk, mCt, stB, gN, gs0, gs1, gT, rsA, rs, allV, BV.fz, Nw.bv, R.bind, nox, gt, two, fAdd_int, fSub, fCmp, fLen, fList, fTuple, fInt, fAbs, fMax, fMin, fIx, fSlH, fSlL, fSl, fRev, fIs, fNeg, isNon, Option.bind_some, Option.map_some, List.set_cons_zero, List.set_cons_succ, List.map_cons, List.map_nil, List.cons_append, List.nil_append, List.replicate, List.length_cons, List.length_nil, Nat.zero_add, Nat.reduceAdd, if_true, ite_true, reduceIte, wipeE, Bool.true_or, Bool.false_or, Bool.true_and, Bool.false_and, Bool.not_true, Bool.not_false, Bool.false_eq_true, if_false, at4_0, at4_1, at4_2, at4_3, ix4_1, ix4_2, ix4_3, List.length_map, hA1, hA2', decide_true, decide_false, hc, pow18, hab, hB, hC, d1, d2, d3, d4, q1, q2, m1, m2, m3, m4, m5, m6 k hk hk2]
          rfl
      · have hC : ¬ n ≤ 0 := by omega
        have hk' := eM (k * 48271 + c % 2147483629 * 69621 + 12345)
        generalize hkk : (k * 48271 + c % 2147483629 * 69621 + 12345) % 2147483647 = k' at hk'
        refine ⟨((((k' * k' % 2147483629) * 5 + k' * 16811 + 2531011) % 2147483647) / 61 + (((k' * k' % 2147483629) * 5 + k' * 16811 + 2531011) % 2147483647) % 8191 * 31) % n, [.lst (cs.map D.int), .int (i + 1 : Nat), .int 0, .int (((k' * k' % 2147483629) * 5 + k' * 16811 + 2531011) % 2147483647)], ?_, (em _).1, (em _).2, ⟨cs, i + 1, 0, _, rfl, hl, by omega, (eM _).1, (eM _).2⟩⟩
        simp only [M__law_take, B__law_take, Nw.lf, lf, lfA_ints, SZ, Nat.reduceLeDiff, z1, z2, z3, z4, z5, z6, z7, z8, z9, z10, z11, z12, z13, z14, z15, z16, z17, z18, z19, z20, z21, z22, z23, z24, Nat.zero_le, fin, finI, mSeq, mIf, mRet, mRetN, mDrop, mSet, mAsg, mPar, mAug, mSetIx, mMe, mFor, mIs, mEn, mZa, mN, mK, mA0, mA1, mB, mT, mAnd, mOr, mNot, mAndV, mOrV, mNotV, mIfE, mCh, mTup, mLst, mFz1, mFzA, fzL, fz1, mCall, mCallI, mAp, mAd, mNeg, mYes, mLc, mNx, mBad, mRaise, mBk, mCt, stB, gN, gs0, gs1, gT, rsA, rs, allV, BV.fz, Nw.bv, R.bind, nox, gt, two, fAdd_int, fSub, fCmp, fLen, fList, fTuple, fInt, fAbs, fMax, fMin, fIx, fSlH, fSlL, fSl, fRev, fIs, fNeg, isNon, Option.bind_some, Option.map_some, List.set_cons_zero, List.set_cons_succ, List.map_cons, List.map_nil, List.cons_append, List.nil_append, List.replicate, List.length_cons, List.length_nil, Nat.zero_add, Nat.reduceAdd, if_true, ite_true, reduceIte, wipeE, Bool.true_or, Bool.false_or, Bool.true_and, Bool.false_and, Bool.not_true, Bool.not_false, Bool.false_eq_true, if_false, at4_0, at4_1, at4_2, at4_3, ix4_1, ix4_2, ix4_3, List.length_map, hA1, hA2', decide_true, decide_false, hc, pow18, hB, hC, d1, d2, d3, d4, q1, q2, m1, m2, m3, m4, m5, hkk, m6 k' hk'.1 hk'.2]
        rfl
    · have hA2' : ¬ (i : Int) < (cs.length : Int) := by omega
      have hC : ¬ n ≤ j := by omega
      refine ⟨((((k * k % 2147483629) * 5 + k * 16811 + 2531011) % 2147483647) / 61 + (((k * k % 2147483629) * 5 + k * 16811 + 2531011) % 2147483647) % 8191 * 31) % n, [.lst (cs.map D.int), .int i, .int j, .int (((k * k % 2147483629) * 5 + k * 16811 + 2531011) % 2147483647)], ?_, (em _).1, (em _).2, ⟨cs, i, j, _, rfl, hl, by omega, (eM _).1, (eM _).2⟩⟩
      simp only [M__law_take, B__law_take, Nw.lf, lf, lfA_ints, SZ, Nat.reduceLeDiff, z1, z2, z3, z4, z5, z6, z7, z8, z9, z10, z11, z12, z13, z14, z15, z16, z17, z18, z19, z20, z21, z22, z23, z24, Nat.zero_le, fin, finI, mSeq, mIf, mRet, mRetN, mDrop, mSet, mAsg, mPar, mAug, mSetIx, mMe, mFor, mIs, mEn, mZa, mN, mK, mA0, mA1, mB, mT, mAnd, mOr, mNot, mAndV, mOrV, mNotV, mIfE, mCh, mTup, mLst, mFz1, mFzA, fzL, fz1, mCall, mCallI, mAp, mAd, mNeg, mYes, mLc, mNx, mBad, mRaise, mBk, mCt, stB, gN, gs0, gs1, gT, rsA, rs, allV, BV.fz, Nw.bv, R.bind, nox, gt, two, fAdd_int, fSub, fCmp, fLen, fList, fTuple, fInt, fAbs, fMax, fMin, fIx, fSlH, fSlL, fSl, fRev, fIs, fNeg, isNon, Option.bind_some, Option.map_some, List.set_cons_zero, List.set_cons_succ, List.map_cons, List.map_nil, List.cons_append, List.nil_append, List.replicate, List.length_cons, List.length_nil, Nat.zero_add, Nat.reduceAdd, if_true, ite_true, reduceIte, wipeE, Bool.true_or, Bool.false_or, Bool.true_and, Bool.false_and, Bool.not_true, Bool.not_false, Bool.false_eq_true, if_false, at4_0, at4_1, at4_2, at4_3, ix4_1, ix4_2, ix4_3, List.length_map, hA1, hA2', decide_true, decide_false, hC, d1, d2, d3, d4, q1, q2, m1, m2, m3, m4, m5, m6 k hk hk2]
  · have hC : n ≤ j := by omega
    refine ⟨j % n, [.lst (cs.map D.int), .int i, .int (j / n), .int k], ?_, (em _).1, (em _).2, ⟨cs, i, j / n, k, rfl, hl, eD _ hj, hk, hk2⟩⟩
    simp only [M__law_take, B__law_take, Nw.lf, lf, lfA_ints, SZ, Nat.reduceLeDiff, z1, z2, z3, z4, z5, z6, z7, z8, z9, z10, z11, z12, z13, z14, z15, z16, z17, z18, z19, z20, z21, z22, z23, z24, Nat.zero_le, fin, finI, mSeq, mIf, mRet, mRetN, mDrop, mSet, mAsg, mPar, mAug, mSetIx, mMe, mFor, mIs, mEn, mZa, mN, mK, mA0, mA1, mB, mT, mAnd, mOr, mNot, mAndV, mOrV, mNotV, mIfE, mCh, mTup, mLst, mFz1, mFzA, fzL, fz1, mCall, mCallI, mAp, mAd, mNeg, mYes, mLc, mNx, mBad, mRaise, mBk, mCt, stB, gN, gs0, gs1, gT, rsA, rs, allV, BV.fz, Nw.bv, R.bind, nox, gt, two, fAdd_int, fSub, fCmp, fLen, fList, fTuple, fInt, fAbs, fMax, fMin, fIx, fSlH, fSlL, fSl, fRev, fIs, fNeg, isNon, Option.bind_some, Option.map_some, List.set_cons_zero, List.set_cons_succ, List.map_cons, List.map_nil, List.cons_append, List.nil_append, List.replicate, List.length_cons, List.length_nil, Nat.zero_add, Nat.reduceAdd, if_true, ite_true, reduceIte, wipeE, Bool.true_or, Bool.false_or, Bool.true_and, Bool.false_and, Bool.not_true, Bool.not_false, Bool.false_eq_true, if_false, at4_0, at4_1, at4_2, at4_3, ix4_1, ix4_2, ix4_3, List.length_map, hA1, decide_true, decide_false, hC, d4, q2]
theorem e__law_of (xs : List D) (h : Dr xs) (row : D) (ds : List D) (hr : row = .lst ds ∨ row = .tup ds) (h0 : 0 < ds.length) (hl : ds.length ≤ 1000000) : ∃ d xs', M__law_of xs [row] = .ok (.v d, xs') ∧ d ∈ ds ∧ Dr xs' := by
  obtain ⟨r, xs', e, h1, h2, hd⟩ := e__law_take xs h ds.length (by omega) (by omega)
  obtain ⟨m, rfl⟩ := Int.eq_ofNat_of_zero_le h1
  have hm : m < ds.length := by omega
  have ha : L2.atI ds (m : Int) = some ds[m] := L2.atI_nat (List.getElem?_eq_getElem hm)
  refine ⟨ds[m], xs', ?_, List.getElem_mem hm, hd⟩
  rcases hr with rfl | rfl
  · simp only [M__law_of, B__law_of, Nw.lf, lf, lfA_ints, SZ, Nat.reduceLeDiff, z1, z2, z3, z4, z5, z6, z7, z8, z9, z10, z11, z12, z13, z14, z15, z16, z17, z18, z19, z20, z21, z22, z23, z24, Nat.zero_le, fin, finI, mSeq, mIf, mRet, mRetN, mDrop, mSet, mAsg, mPar, mAug, mSetIx, mMe, mFor, mIs, mEn, mZa, mN, mK, mA0, mA1, mB, mT, mAnd, mOr, mNot, mAndV, mOrV, mNotV, mIfE, mCh, mTup, mLst, mFz1, mFzA, fzL, fz1, mCall, mCallI, mAp, mAd, mNeg, mYes, mLc, mNx, mBad, mRaise, mBk, mCt, stB, gN, gs0, gs1, gT, rsA, rs, allV, BV.fz, Nw.bv, R.bind, nox, gt, two, fAdd_int, fSub, fCmp, fLen, fList, fTuple, fInt, fAbs, fMax, fMin, fIx, fSlH, fSlL, fSl, fRev, fIs, fNeg, isNon, Option.bind_some, Option.map_some, List.set_cons_zero, List.set_cons_succ, List.map_cons, List.map_nil, List.cons_append, List.nil_append, List.replicate, List.length_cons, List.length_nil, Nat.zero_add, Nat.reduceAdd, if_true, ite_true, reduceIte, wipeE, Bool.true_or, Bool.false_or, Bool.true_and, Bool.false_and, Bool.not_true, Bool.not_false, Bool.false_eq_true, if_false, e, ha]
  · simp only [M__law_of, B__law_of, Nw.lf, lf, lfA_ints, SZ, Nat.reduceLeDiff, z1, z2, z3, z4, z5, z6, z7, z8, z9, z10, z11, z12, z13, z14, z15, z16, z17, z18, z19, z20, z21, z22, z23, z24, Nat.zero_le, fin, finI, mSeq, mIf, mRet, mRetN, mDrop, mSet, mAsg, mPar, mAug, mSetIx, mMe, mFor, mIs, mEn, mZa, mN, mK, mA0, mA1, mB, mT, mAnd, mOr, mNot, mAndV, mOrV, mNotV, mIfE, mCh, mTup, mLst, mFz1, mFzA, fzL, fz1, mCall, mCallI, mAp, mAd, mNeg, mYes, mLc, mNx, mBad, mRaise, mBk, mCt, stB, gN, gs0, gs1, gT, rsA, rs, allV, BV.fz, Nw.bv, R.bind, nox, gt, two, fAdd_int, fSub, fCmp, fLen, fList, fTuple, fInt, fAbs, fMax, fMin, fIx, fSlH, fSlL, fSl, fRev, fIs, fNeg, isNon, Option.bind_some, Option.map_some, List.set_cons_zero, List.set_cons_succ, List.map_cons, List.map_nil, List.cons_append, List.nil_append, List.replicate, List.length_cons, List.length_nil, Nat.zero_add, Nat.reduceAdd, if_true, ite_true, reduceIte, wipeE, Bool.true_or, Bool.false_or, Bool.true_and, Bool.false_and, Bool.not_true, Bool.not_false, Bool.false_eq_true, if_false, e, ha]
end Mn
namespace Mn
open PySem Rg Rm
theorem e__law_primes : M__law_primes [] = .ok (.o (k_PRIMES.map D.int)) := by
  simp only [M__law_primes, B__law_primes, Nw.lf, lf, lfA_ints, SZ, Nat.reduceLeDiff, z1, z2, z3, z4, z5, z6, z7, z8, z9, z10, z11, z12, z13, z14, z15, z16, z17, z18, z19, z20, z21, z22, z23, z24, Nat.zero_le, fin, finI, mSeq, mIf, mRet, mRetN, mDrop, mSet, mAsg, mPar, mAug, mSetIx, mMe, mFor, mIs, mEn, mZa, mN, mK, mA0, mA1, mB, mT, mAnd, mOr, mNot, mAndV, mOrV, mNotV, mIfE, mCh, mTup, mLst, mFz1, mFzA, fzL, fz1, mCall, mCallI, mAp, mAd, mNeg, mYes, mLc, mNx, mBad, mRaise, mBk, mCt, stB, gN, gs0, gs1, gT, rsA, rs, allV, BV.fz, Nw.bv, R.bind, nox, gt, two, fAdd_int, fSub, fCmp, fLen, fList, fTuple, fInt, fAbs, fMax, fMin, fIx, fSlH, fSlL, fSl, fRev, fIs, fNeg, isNon, Option.bind_some, Option.map_some, List.set_cons_zero, List.set_cons_succ, List.map_cons, List.map_nil, List.cons_append, List.nil_append, List.replicate, List.length_cons, List.length_nil, Nat.zero_add, Nat.reduceAdd, if_true, ite_true, reduceIte, wipeE, Bool.true_or, Bool.false_or, Bool.true_and, Bool.false_and, Bool.not_true, Bool.not_false, Bool.false_eq_true, if_false]
  rfl
theorem e__law_any_prime (xs : List D) (h : Dr xs) : ∃ p xs', M__law_any_prime xs [] = .ok (.v (.int p), xs') ∧ p ∈ k_PRIMES ∧ Dr xs' := by
  obtain ⟨d, x1, e1, h1, d1⟩ := e__law_of xs h (.lst [.lst [.int 2], .lst [.int 3, .int 5, .int 7], .lst [.int 2, .int 97], .lst (k_PRIMES.map D.int)]) _ (.inl rfl) (by simp) (by simp)
  have hd : ∃ ns : List Int, d = .lst (ns.map D.int) ∧ 0 < ns.length ∧ ns.length ≤ 100 ∧ ∀ n ∈ ns, n ∈ k_PRIMES := by
    simp only [List.mem_cons, List.not_mem_nil, or_false] at h1
    rcases h1 with rfl | rfl | rfl | rfl
    · exact ⟨[2], rfl, by decide, by decide, by decide⟩
    · exact ⟨[3, 5, 7], rfl, by decide, by decide, by decide⟩
    · exact ⟨[2, 97], rfl, by decide, by decide, by decide⟩
    · exact ⟨k_PRIMES, rfl, by decide, by decide, by decide⟩
  obtain ⟨ns, rfl, hn0, hn1, hn2⟩ := hd
  obtain ⟨d2, x2, e2, h2, d2'⟩ := e__law_of x1 d1 (.lst (ns.map D.int)) _ (.inl rfl) (by simpa using hn0) (by simp; omega)
  obtain ⟨p, hp, rfl⟩ := List.mem_map.mp h2
  refine ⟨p, x2, ?_, hn2 p hp, d2'⟩
  simp only [M__law_any_prime, B__law_any_prime, Nw.lf, lf, lfA_ints, SZ, Nat.reduceLeDiff, z1, z2, z3, z4, z5, z6, z7, z8, z9, z10, z11, z12, z13, z14, z15, z16, z17, z18, z19, z20, z21, z22, z23, z24, Nat.zero_le, fin, finI, mSeq, mIf, mRet, mRetN, mDrop, mSet, mAsg, mPar, mAug, mSetIx, mMe, mFor, mIs, mEn, mZa, mN, mK, mA0, mA1, mB, mT, mAnd, mOr, mNot, mAndV, mOrV, mNotV, mIfE, mCh, mTup, mLst, mFz1, mFzA, fzL, fz1, mCall, mCallI, mAp, mAd, mNeg, mYes, mLc, mNx, mBad, mRaise, mBk, mCt, stB, gN, gs0, gs1, gT, rsA, rs, allV, BV.fz, Nw.bv, R.bind, nox, gt, two, fAdd_int, fSub, fCmp, fLen, fList, fTuple, fInt, fAbs, fMax, fMin, fIx, fSlH, fSlL, fSl, fRev, fIs, fNeg, isNon, Option.bind_some, Option.map_some, List.set_cons_zero, List.set_cons_succ, List.map_cons, List.map_nil, List.cons_append, List.nil_append, List.replicate, List.length_cons, List.length_nil, Nat.zero_add, Nat.reduceAdd, if_true, ite_true, reduceIte, wipeE, Bool.true_or, Bool.false_or, Bool.true_and, Bool.false_and, Bool.not_true, Bool.not_false, Bool.false_eq_true, if_false, e__law_primes, e1, e2]
theorem s_trim (t : Bool) (ns : List Int) (m : Nat) (hm : m ≤ ns.length) (h : m = 0 ∨ cf ns (m - 1) ≠ 0) : ∀ (ds : List D) (s : Sl), ∃ s', mForL (gN 2) Fb__law_trim_1 ds [.v (sq t ns), .v (.int m), s] = .ok (.nx [.v (sq t ns), .v (.int m), s'])
  | [], s => ⟨s, rfl⟩
  | d :: ds, s => by
    obtain ⟨s', ih⟩ := s_trim t ns m hm h ds (.v d)
    refine ⟨s', ?_⟩
    have hb : Fb__law_trim_1 [.v (sq t ns), .v (.int m), .v d] = .ok (.nx [.v (sq t ns), .v (.int m), .v d]) := by
      by_cases h0 : m = 0
      · subst h0
        have hd : decide ((0 : Int) < ((0 : Nat) : Int)) = false := by decide
        simp only [Fb__law_trim_1, Nw.lf, lf, lfA_ints, SZ, Nat.reduceLeDiff, z1, z2, z3, z4, z5, z6, z7, z8, z9, z10, z11, z12, z13, z14, z15, z16, z17, z18, z19, z20, z21, z22, z23, z24, Nat.zero_le, fin, finI, mSeq, mIf, mRet, mRetN, mDrop, mSet, mAsg, mPar, mAug, mSetIx, mMe, mFor, mIs, mEn, mZa, mN, mK, mA0, mA1, mB, mT, mAnd, mOr, mNot, mAndV, mOrV, mNotV, mIfE, mCh, mTup, mLst, mFz1, mFzA, fzL, fz1, mCall, mCallI, mAp, mAd, mNeg, mYes, mLc, mNx, mBad, mRaise, mBk, mCt, stB, gN, gs0, gs1, gT, rsA, rs, allV, BV.fz, Nw.bv, R.bind, nox, gt, two, fAdd_int, fSub, fCmp, fLen, fList, fTuple, fInt, fAbs, fMax, fMin, fIx, fSlH, fSlL, fSl, fRev, fIs, fNeg, isNon, Option.bind_some, Option.map_some, List.set_cons_zero, List.set_cons_succ, List.map_cons, List.map_nil, List.cons_append, List.nil_append, List.replicate, List.length_cons, List.length_nil, Nat.zero_add, Nat.reduceAdd, if_true, ite_true, reduceIte, wipeE, Bool.true_or, Bool.false_or, Bool.true_and, Bool.false_and, Bool.not_true, Bool.not_false, Bool.false_eq_true, if_false, hd]
      · have hi : ((m : Int) - 1) = ((m - 1 : Nat) : Int) := by omega
        have hc : ¬ cf ns (m - 1) = 0 := h.resolve_left h0
        have hd : decide ((0 : Int) < (m : Int)) = true := by simp; omega
        have ha := atI_ints ns (m - 1) (by omega)
        cases t with
        | true => rw [sq_t]; simp only [Fb__law_trim_1, Nw.lf, lf, lfA_ints, SZ, Nat.reduceLeDiff, z1, z2, z3, z4, z5, z6, z7, z8, z9, z10, z11, z12, z13, z14, z15, z16, z17, z18, z19, z20, z21, z22, z23, z24, Nat.zero_le, fin, finI, mSeq, mIf, mRet, mRetN, mDrop, mSet, mAsg, mPar, mAug, mSetIx, mMe, mFor, mIs, mEn, mZa, mN, mK, mA0, mA1, mB, mT, mAnd, mOr, mNot, mAndV, mOrV, mNotV, mIfE, mCh, mTup, mLst, mFz1, mFzA, fzL, fz1, mCall, mCallI, mAp, mAd, mNeg, mYes, mLc, mNx, mBad, mRaise, mBk, mCt, stB, gN, gs0, gs1, gT, rsA, rs, allV, BV.fz, Nw.bv, R.bind, nox, gt, two, fAdd_int, fSub, fCmp, fLen, fList, fTuple, fInt, fAbs, fMax, fMin, fIx, fSlH, fSlL, fSl, fRev, fIs, fNeg, isNon, Option.bind_some, Option.map_some, List.set_cons_zero, List.set_cons_succ, List.map_cons, List.map_nil, List.cons_append, List.nil_append, List.replicate, List.length_cons, List.length_nil, Nat.zero_add, Nat.reduceAdd, if_true, ite_true, reduceIte, wipeE, Bool.true_or, Bool.false_or, Bool.true_and, Bool.false_and, Bool.not_true, Bool.not_false, Bool.false_eq_true, if_false, hd, hi, ha, fEq_int, hc, decide_false]
        | false => rw [sq_f]; simp only [Fb__law_trim_1, Nw.lf, lf, lfA_ints, SZ, Nat.reduceLeDiff, z1, z2, z3, z4, z5, z6, z7, z8, z9, z10, z11, z12, z13, z14, z15, z16, z17, z18, z19, z20, z21, z22, z23, z24, Nat.zero_le, fin, finI, mSeq, mIf, mRet, mRetN, mDrop, mSet, mAsg, mPar, mAug, mSetIx, mMe, mFor, mIs, mEn, mZa, mN, mK, mA0, mA1, mB, mT, mAnd, mOr, mNot, mAndV, mOrV, mNotV, mIfE, mCh, mTup, mLst, mFz1, mFzA, fzL, fz1, mCall, mCallI, mAp, mAd, mNeg, mYes, mLc, mNx, mBad, mRaise, mBk, mCt, stB, gN, gs0, gs1, gT, rsA, rs, allV, BV.fz, Nw.bv, R.bind, nox, gt, two, fAdd_int, fSub, fCmp, fLen, fList, fTuple, fInt, fAbs, fMax, fMin, fIx, fSlH, fSlL, fSl, fRev, fIs, fNeg, isNon, Option.bind_some, Option.map_some, List.set_cons_zero, List.set_cons_succ, List.map_cons, List.map_nil, List.cons_append, List.nil_append, List.replicate, List.length_cons, List.length_nil, Nat.zero_add, Nat.reduceAdd, if_true, ite_true, reduceIte, wipeE, Bool.true_or, Bool.false_or, Bool.true_and, Bool.false_and, Bool.not_true, Bool.not_false, Bool.false_eq_true, if_false, hd, hi, ha, fEq_int, hc, decide_false]
    rw [mForL_cons rfl hb]; exact ih
theorem w_trim (t : Bool) (ns : List Int) : ∀ (ds : List D) (m : Nat) (s : Sl), m ≤ ns.length → m ≤ ds.length → ∃ s', mForL (gN 2) Fb__law_trim_1 ds [.v (sq t ns), .v (.int m), s] = .ok (.nx [.v (sq t ns), .v (.int (cl ns m)), s'])
  | ds, 0, s, hm, hd => by simpa [cl] using s_trim t ns 0 hm (.inl rfl) ds s
  | [], m + 1, s, hm, hd => by simp at hd
  | d :: ds, m + 1, s, hm, hd => by
    have hi : (((m + 1 : Nat) : Int) - 1) = (m : Int) := by omega
    have ha := atI_ints ns m (by omega)
    have hd' : decide ((0 : Int) < ((m + 1 : Nat) : Int)) = true := by simp
    by_cases h0 : cf ns m = 0
    · obtain ⟨s', ih⟩ := w_trim t ns ds m (.v d) (by omega) (by simpa using hd)
      refine ⟨s', ?_⟩
      have hb : Fb__law_trim_1 [.v (sq t ns), .v (.int (m + 1 : Nat)), .v d] = .ok (.nx [.v (sq t ns), .v (.int m), .v d]) := by
        cases t with
        | true => rw [sq_t]; simp only [Fb__law_trim_1, Nw.lf, lf, lfA_ints, SZ, Nat.reduceLeDiff, z1, z2, z3, z4, z5, z6, z7, z8, z9, z10, z11, z12, z13, z14, z15, z16, z17, z18, z19, z20, z21, z22, z23, z24, Nat.zero_le, fin, finI, mSeq, mIf, mRet, mRetN, mDrop, mSet, mAsg, mPar, mAug, mSetIx, mMe, mFor, mIs, mEn, mZa, mN, mK, mA0, mA1, mB, mT, mAnd, mOr, mNot, mAndV, mOrV, mNotV, mIfE, mCh, mTup, mLst, mFz1, mFzA, fzL, fz1, mCall, mCallI, mAp, mAd, mNeg, mYes, mLc, mNx, mBad, mRaise, mBk, mCt, stB, gN, gs0, gs1, gT, rsA, rs, allV, BV.fz, Nw.bv, R.bind, nox, gt, two, fAdd_int, fSub, fCmp, fLen, fList, fTuple, fInt, fAbs, fMax, fMin, fIx, fSlH, fSlL, fSl, fRev, fIs, fNeg, isNon, Option.bind_some, Option.map_some, List.set_cons_zero, List.set_cons_succ, List.map_cons, List.map_nil, List.cons_append, List.nil_append, List.replicate, List.length_cons, List.length_nil, Nat.zero_add, Nat.reduceAdd, if_true, ite_true, reduceIte, wipeE, Bool.true_or, Bool.false_or, Bool.true_and, Bool.false_and, Bool.not_true, Bool.not_false, Bool.false_eq_true, if_false, hd', hi, ha, fEq_int, h0, decide_true]
        | false => rw [sq_f]; simp only [Fb__law_trim_1, Nw.lf, lf, lfA_ints, SZ, Nat.reduceLeDiff, z1, z2, z3, z4, z5, z6, z7, z8, z9, z10, z11, z12, z13, z14, z15, z16, z17, z18, z19, z20, z21, z22, z23, z24, Nat.zero_le, fin, finI, mSeq, mIf, mRet, mRetN, mDrop, mSet, mAsg, mPar, mAug, mSetIx, mMe, mFor, mIs, mEn, mZa, mN, mK, mA0, mA1, mB, mT, mAnd, mOr, mNot, mAndV, mOrV, mNotV, mIfE, mCh, mTup, mLst, mFz1, mFzA, fzL, fz1, mCall, mCallI, mAp, mAd, mNeg, mYes, mLc, mNx, mBad, mRaise, mBk, mCt, stB, gN, gs0, gs1, gT, rsA, rs, allV, BV.fz, Nw.bv, R.bind, nox, gt, two, fAdd_int, fSub, fCmp, fLen, fList, fTuple, fInt, fAbs, fMax, fMin, fIx, fSlH, fSlL, fSl, fRev, fIs, fNeg, isNon, Option.bind_some, Option.map_some, List.set_cons_zero, List.set_cons_succ, List.map_cons, List.map_nil, List.cons_append, List.nil_append, List.replicate, List.length_cons, List.length_nil, Nat.zero_add, Nat.reduceAdd, if_true, ite_true, reduceIte, wipeE, Bool.true_or, Bool.false_or, Bool.true_and, Bool.false_and, Bool.not_true, Bool.not_false, Bool.false_eq_true, if_false, hd', hi, ha, fEq_int, h0, decide_true]
      rw [mForL_cons rfl hb, cl, if_pos h0]; exact ih
    · rw [cl, if_neg h0]
      exact s_trim t ns (m + 1) hm (.inr h0) _ s
theorem e__law_trim (t : Bool) (ns : List Int) (h : ns.length ≤ 1000) : M__law_trim [sq t ns] = .ok (.v (.tup ((trim ns).map D.int))) := by
  obtain ⟨s', hw⟩ := w_trim t ns (rngD 0 1 ns.length) ns.length .no (Nat.le_refl _) (by rw [rngD_len]; omega)
  have ht : (ns.map D.int).take (cl ns ns.length) = (trim ns).map D.int := by rw [← List.map_take, take_cl]
  have h2 : -(2 ^ 62) ≤ (ns.length : Int) ∧ (ns.length : Int) < 2 ^ 62 := by omega
  cases t with
  | true =>
    rw [sq_t] at hw ⊢
    have hr := mR1_n (ma := mA1 (mB fLen (mA1 (mN 0) mA0)) mA0) (Γ := [.v (.tup (ns.map D.int)), .v (.int ns.length), .no]) (Γ1 := [.v (.tup (ns.map D.int)), .v (.int ns.length), .no]) (n := ns.length) (by simp only [Nw.lf, lf, lfA_ints, SZ, Nat.reduceLeDiff, z1, z2, z3, z4, z5, z6, z7, z8, z9, z10, z11, z12, z13, z14, z15, z16, z17, z18, z19, z20, z21, z22, z23, z24, Nat.zero_le, fin, finI, mSeq, mIf, mRet, mRetN, mDrop, mSet, mAsg, mPar, mAug, mSetIx, mMe, mFor, mIs, mEn, mZa, mN, mK, mA0, mA1, mB, mT, mAnd, mOr, mNot, mAndV, mOrV, mNotV, mIfE, mCh, mTup, mLst, mFz1, mFzA, fzL, fz1, mCall, mCallI, mAp, mAd, mNeg, mYes, mLc, mNx, mBad, mRaise, mBk, mCt, stB, gN, gs0, gs1, gT, rsA, rs, allV, BV.fz, Nw.bv, R.bind, nox, gt, two, fAdd_int, fSub, fCmp, fLen, fList, fTuple, fInt, fAbs, fMax, fMin, fIx, fSlH, fSlL, fSl, fRev, fIs, fNeg, isNon, Option.bind_some, Option.map_some, List.set_cons_zero, List.set_cons_succ, List.map_cons, List.map_nil, List.cons_append, List.nil_append, List.replicate, List.length_cons, List.length_nil, Nat.zero_add, Nat.reduceAdd, if_true, ite_true, reduceIte, wipeE, Bool.true_or, Bool.false_or, Bool.true_and, Bool.false_and, Bool.not_true, Bool.not_false, Bool.false_eq_true, if_false, List.length_map]) (by omega)
    simp only [M__law_trim, B__law_trim, Nw.lf, lf, lfA_ints, SZ, Nat.reduceLeDiff, z1, z2, z3, z4, z5, z6, z7, z8, z9, z10, z11, z12, z13, z14, z15, z16, z17, z18, z19, z20, z21, z22, z23, z24, Nat.zero_le, fin, finI, mSeq, mIf, mRet, mRetN, mDrop, mSet, mAsg, mPar, mAug, mSetIx, mMe, mFor, mIs, mEn, mZa, mN, mK, mA0, mA1, mB, mT, mAnd, mOr, mNot, mAndV, mOrV, mNotV, mIfE, mCh, mTup, mLst, mFz1, mFzA, fzL, fz1, mCall, mCallI, mAp, mAd, mNeg, mYes, mLc, mNx, mBad, mRaise, mBk, mCt, stB, gN, gs0, gs1, gT, rsA, rs, allV, BV.fz, Nw.bv, R.bind, nox, gt, two, fAdd_int, fSub, fCmp, fLen, fList, fTuple, fInt, fAbs, fMax, fMin, fIx, fSlH, fSlL, fSl, fRev, fIs, fNeg, isNon, Option.bind_some, Option.map_some, List.set_cons_zero, List.set_cons_succ, List.map_cons, List.map_nil, List.cons_append, List.nil_append, List.replicate, List.length_cons, List.length_nil, Nat.zero_add, Nat.reduceAdd, if_true, ite_true, reduceIte, wipeE, Bool.true_or, Bool.false_or, Bool.true_and, Bool.false_and, Bool.not_true, Bool.not_false, Bool.false_eq_true, if_false, List.length_map, hr, hw, cutD_take, ht]
  | false =>
    rw [sq_f] at hw ⊢
    have hr := mR1_n (ma := mA1 (mB fLen (mA1 (mN 0) mA0)) mA0) (Γ := [.v (.lst (ns.map D.int)), .v (.int ns.length), .no]) (Γ1 := [.v (.lst (ns.map D.int)), .v (.int ns.length), .no]) (n := ns.length) (by simp only [Nw.lf, lf, lfA_ints, SZ, Nat.reduceLeDiff, z1, z2, z3, z4, z5, z6, z7, z8, z9, z10, z11, z12, z13, z14, z15, z16, z17, z18, z19, z20, z21, z22, z23, z24, Nat.zero_le, fin, finI, mSeq, mIf, mRet, mRetN, mDrop, mSet, mAsg, mPar, mAug, mSetIx, mMe, mFor, mIs, mEn, mZa, mN, mK, mA0, mA1, mB, mT, mAnd, mOr, mNot, mAndV, mOrV, mNotV, mIfE, mCh, mTup, mLst, mFz1, mFzA, fzL, fz1, mCall, mCallI, mAp, mAd, mNeg, mYes, mLc, mNx, mBad, mRaise, mBk, mCt, stB, gN, gs0, gs1, gT, rsA, rs, allV, BV.fz, Nw.bv, R.bind, nox, gt, two, fAdd_int, fSub, fCmp, fLen, fList, fTuple, fInt, fAbs, fMax, fMin, fIx, fSlH, fSlL, fSl, fRev, fIs, fNeg, isNon, Option.bind_some, Option.map_some, List.set_cons_zero, List.set_cons_succ, List.map_cons, List.map_nil, List.cons_append, List.nil_append, List.replicate, List.length_cons, List.length_nil, Nat.zero_add, Nat.reduceAdd, if_true, ite_true, reduceIte, wipeE, Bool.true_or, Bool.false_or, Bool.true_and, Bool.false_and, Bool.not_true, Bool.not_false, Bool.false_eq_true, if_false, List.length_map]) (by omega)
    simp only [M__law_trim, B__law_trim, Nw.lf, lf, lfA_ints, SZ, Nat.reduceLeDiff, z1, z2, z3, z4, z5, z6, z7, z8, z9, z10, z11, z12, z13, z14, z15, z16, z17, z18, z19, z20, z21, z22, z23, z24, Nat.zero_le, fin, finI, mSeq, mIf, mRet, mRetN, mDrop, mSet, mAsg, mPar, mAug, mSetIx, mMe, mFor, mIs, mEn, mZa, mN, mK, mA0, mA1, mB, mT, mAnd, mOr, mNot, mAndV, mOrV, mNotV, mIfE, mCh, mTup, mLst, mFz1, mFzA, fzL, fz1, mCall, mCallI, mAp, mAd, mNeg, mYes, mLc, mNx, mBad, mRaise, mBk, mCt, stB, gN, gs0, gs1, gT, rsA, rs, allV, BV.fz, Nw.bv, R.bind, nox, gt, two, fAdd_int, fSub, fCmp, fLen, fList, fTuple, fInt, fAbs, fMax, fMin, fIx, fSlH, fSlL, fSl, fRev, fIs, fNeg, isNon, Option.bind_some, Option.map_some, List.set_cons_zero, List.set_cons_succ, List.map_cons, List.map_nil, List.cons_append, List.nil_append, List.replicate, List.length_cons, List.length_nil, Nat.zero_add, Nat.reduceAdd, if_true, ite_true, reduceIte, wipeE, Bool.true_or, Bool.false_or, Bool.true_and, Bool.false_and, Bool.not_true, Bool.not_false, Bool.false_eq_true, if_false, List.length_map, hr, hw, cutD_take, ht]
theorem e__law_trimL (ns : List Int) (h : ns.length ≤ 1000) : M__law_trim [.lst (ns.map D.int)] = .ok (.v (.tup ((trim ns).map D.int))) := e__law_trim false ns h
theorem e__law_trimT (ns : List Int) (h : ns.length ≤ 1000) : M__law_trim [.tup (ns.map D.int)] = .ok (.v (.tup ((trim ns).map D.int))) := e__law_trim true ns h
theorem e__law_rests (xs : List D) (h : Dr xs) (m : Nat) (hm : m ≤ 1000) (p : Int) (hp : 0 < p) (hp2 : p ≤ 1000000) : ∃ (ns : List Int) (xs' : List D), M__law_rests xs [.int m, .int p] = .ok (.o (ns.map D.int), xs') ∧ ns.length = m ∧ (∀ n ∈ ns, 0 ≤ n ∧ n < p) ∧ Dr xs' := by
  obtain ⟨ys, Γ', q1, q2, q3, x', d', rfl⟩ := mLcL_inv (f := gN 3) (e := Le__law_rests_1) (vs := [3]) (fun Γ => ∃ xs, Dr xs ∧ Γ = [.o xs, .v (.int m), .v (.int p), .no]) (fun d => ∃ n : Int, d = .int n ∧ 0 ≤ n ∧ n < p) (rngD 0 1 m) [.o xs, .v (.int m), .v (.int p), .no] [] ⟨xs, h, rfl⟩
    (by
      rintro d hd Γ ⟨xs, h, rfl⟩
      obtain ⟨r, xs', e, h1, h2, hd⟩ := e__law_take xs h p hp (by omega)
      exact ⟨_, .int r, [.o xs', .v (.int m), .v (.int p), .v d], rfl, by simp only [Le__law_rests_1, Nw.lf, lf, lfA_ints, SZ, Nat.reduceLeDiff, z1, z2, z3, z4, z5, z6, z7, z8, z9, z10, z11, z12, z13, z14, z15, z16, z17, z18, z19, z20, z21, z22, z23, z24, Nat.zero_le, fin, finI, mSeq, mIf, mRet, mRetN, mDrop, mSet, mAsg, mPar, mAug, mSetIx, mMe, mFor, mIs, mEn, mZa, mN, mK, mA0, mA1, mB, mT, mAnd, mOr, mNot, mAndV, mOrV, mNotV, mIfE, mCh, mTup, mLst, mFz1, mFzA, fzL, fz1, mCall, mCallI, mAp, mAd, mNeg, mYes, mLc, mNx, mBad, mRaise, mBk, mCt, stB, gN, gs0, gs1, gT, rsA, rs, allV, BV.fz, Nw.bv, R.bind, nox, gt, two, fAdd_int, fSub, fCmp, fLen, fList, fTuple, fInt, fAbs, fMax, fMin, fIx, fSlH, fSlL, fSl, fRev, fIs, fNeg, isNon, Option.bind_some, Option.map_some, List.set_cons_zero, List.set_cons_succ, List.map_cons, List.map_nil, List.cons_append, List.nil_append, List.replicate, List.length_cons, List.length_nil, Nat.zero_add, Nat.reduceAdd, if_true, ite_true, reduceIte, wipeE, Bool.true_or, Bool.false_or, Bool.true_and, Bool.false_and, Bool.not_true, Bool.not_false, Bool.false_eq_true, if_false, e], ⟨r, rfl, h1, h2⟩, xs', hd, rfl⟩)
    (by rw [rngD_len]; unfold SZ; simp; omega)
  obtain ⟨ns, rfl, hns⟩ := ints_of q3
  rw [rngD_len, List.length_map] at q2
  have hr := mR1_n (ma := mA1 (mN 1) mA0) (Γ := [.o xs, .v (.int m), .v (.int p), .no]) (Γ1 := [.o xs, .v (.int m), .v (.int p), .no]) (n := m) (by simp only [Nw.lf, lf, lfA_ints, SZ, Nat.reduceLeDiff, z1, z2, z3, z4, z5, z6, z7, z8, z9, z10, z11, z12, z13, z14, z15, z16, z17, z18, z19, z20, z21, z22, z23, z24, Nat.zero_le, fin, finI, mSeq, mIf, mRet, mRetN, mDrop, mSet, mAsg, mPar, mAug, mSetIx, mMe, mFor, mIs, mEn, mZa, mN, mK, mA0, mA1, mB, mT, mAnd, mOr, mNot, mAndV, mOrV, mNotV, mIfE, mCh, mTup, mLst, mFz1, mFzA, fzL, fz1, mCall, mCallI, mAp, mAd, mNeg, mYes, mLc, mNx, mBad, mRaise, mBk, mCt, stB, gN, gs0, gs1, gT, rsA, rs, allV, BV.fz, Nw.bv, R.bind, nox, gt, two, fAdd_int, fSub, fCmp, fLen, fList, fTuple, fInt, fAbs, fMax, fMin, fIx, fSlH, fSlL, fSl, fRev, fIs, fNeg, isNon, Option.bind_some, Option.map_some, List.set_cons_zero, List.set_cons_succ, List.map_cons, List.map_nil, List.cons_append, List.nil_append, List.replicate, List.length_cons, List.length_nil, Nat.zero_add, Nat.reduceAdd, if_true, ite_true, reduceIte, wipeE, Bool.true_or, Bool.false_or, Bool.true_and, Bool.false_and, Bool.not_true, Bool.not_false, Bool.false_eq_true, if_false]) (by omega)
  refine ⟨ns, x', ?_, q2, hns, d'⟩
  simp only [M__law_rests, B__law_rests, Nw.lf, lf, lfA_ints, SZ, Nat.reduceLeDiff, z1, z2, z3, z4, z5, z6, z7, z8, z9, z10, z11, z12, z13, z14, z15, z16, z17, z18, z19, z20, z21, z22, z23, z24, Nat.zero_le, fin, finI, mSeq, mIf, mRet, mRetN, mDrop, mSet, mAsg, mPar, mAug, mSetIx, mMe, mFor, mIs, mEn, mZa, mN, mK, mA0, mA1, mB, mT, mAnd, mOr, mNot, mAndV, mOrV, mNotV, mIfE, mCh, mTup, mLst, mFz1, mFzA, fzL, fz1, mCall, mCallI, mAp, mAd, mNeg, mYes, mLc, mNx, mBad, mRaise, mBk, mCt, stB, gN, gs0, gs1, gT, rsA, rs, allV, BV.fz, Nw.bv, R.bind, nox, gt, two, fAdd_int, fSub, fCmp, fLen, fList, fTuple, fInt, fAbs, fMax, fMin, fIx, fSlH, fSlL, fSl, fRev, fIs, fNeg, isNon, Option.bind_some, Option.map_some, List.set_cons_zero, List.set_cons_succ, List.map_cons, List.map_nil, List.cons_append, List.nil_append, List.replicate, List.length_cons, List.length_nil, Nat.zero_add, Nat.reduceAdd, if_true, ite_true, reduceIte, wipeE, Bool.true_or, Bool.false_or, Bool.true_and, Bool.false_and, Bool.not_true, Bool.not_false, Bool.false_eq_true, if_false, hr, q1]
theorem e__law_poly (xs : List D) (h : Dr xs) (m : Nat) (hm : m ≤ 900) (p : Int) (hp : 0 < p) (hp2 : p ≤ 1000000) : ∃ (a : List Int) (xs' : List D), M__law_poly xs [.int m, .int p] = .ok (.v (.tup (a.map D.int)), xs') ∧ a.length ≤ m ∧ Po p a ∧ Dr xs' := by
  obtain ⟨r, x1, e1, r1, r2, d1⟩ := e__law_take xs h (m + 1) (by omega) (by omega)
  obtain ⟨rn, rfl⟩ := Int.eq_ofNat_of_zero_le r1
  obtain ⟨ns, x2, e2, l2, n2, d2⟩ := e__law_rests x1 d1 rn (by omega) p hp hp2
  obtain ⟨q, x3, e3, q1, q2, d3⟩ := e__law_take x2 d2 4 (by omega) (by omega)
  by_cases hq : q = 0
  · obtain ⟨ys, Γ', g1, g2, g3, x4, d4, rfl⟩ := mLcL_inv (f := gN 4) (e := Le__law_poly_1) (vs := [4]) (fun Γ => ∃ xs, Dr xs ∧ Γ = [.o xs, .v (.int m), .v (.int p), .v (.lst (ns.map D.int)), .no]) (fun d => ∃ n : Int, d = .int n ∧ 0 ≤ n ∧ n < p) (ns.map D.int) [.o x3, .v (.int m), .v (.int p), .v (.lst (ns.map D.int)), .no] [] ⟨x3, d3, rfl⟩
      (by
        rintro d hd Γ ⟨xs, h, rfl⟩
        obtain ⟨n, hn, rfl⟩ := List.mem_map.mp hd
        have hb := n2 n hn
        obtain ⟨r, xs', e, h1, h2, hd⟩ := e__law_take xs h 3 (by omega) (by omega)
        by_cases hr : r = 0
        · refine ⟨_, .int (n * 1), [.o xs', .v (.int m), .v (.int p), .v (.lst (ns.map D.int)), .v (.int n)], rfl, ?_, ⟨n * 1, rfl, by omega, by omega⟩, xs', hd, rfl⟩
          simp only [Le__law_poly_1, Nw.lf, lf, lfA_ints, SZ, Nat.reduceLeDiff, z1, z2, z3, z4, z5, z6, z7, z8, z9, z10, z11, z12, z13, z14, z15, z16, z17, z18, z19, z20, z21, z22, z23, z24, Nat.zero_le, fin, finI, mSeq, mIf, mRet, mRetN, mDrop, mSet, mAsg, mPar, mAug, mSetIx, mMe, mFor, mIs, mEn, mZa, mN, mK, mA0, mA1, mB, mT, mAnd, mOr, mNot, mAndV, mOrV, mNotV, mIfE, mCh, mTup, mLst, mFz1, mFzA, fzL, fz1, mCall, mCallI, mAp, mAd, mNeg, mYes, mLc, mNx, mBad, mRaise, mBk, mCt, stB, gN, gs0, gs1, gT, rsA, rs, allV, BV.fz, Nw.bv, R.bind, nox, gt, two, fAdd_int, fSub, fCmp, fLen, fList, fTuple, fInt, fAbs, fMax, fMin, fIx, fSlH, fSlL, fSl, fRev, fIs, fNeg, isNon, Option.bind_some, Option.map_some, List.set_cons_zero, List.set_cons_succ, List.map_cons, List.map_nil, List.cons_append, List.nil_append, List.replicate, List.length_cons, List.length_nil, Nat.zero_add, Nat.reduceAdd, if_true, ite_true, reduceIte, wipeE, Bool.true_or, Bool.false_or, Bool.true_and, Bool.false_and, Bool.not_true, Bool.not_false, Bool.false_eq_true, if_false, e, fEq_int, hr, decide_true, fMul_sm (i := n) (j := 1) (by omega) (by omega)]
        · refine ⟨_, .int (n * 0), [.o xs', .v (.int m), .v (.int p), .v (.lst (ns.map D.int)), .v (.int n)], rfl, ?_, ⟨n * 0, rfl, by omega, by omega⟩, xs', hd, rfl⟩
          simp only [Le__law_poly_1, Nw.lf, lf, lfA_ints, SZ, Nat.reduceLeDiff, z1, z2, z3, z4, z5, z6, z7, z8, z9, z10, z11, z12, z13, z14, z15, z16, z17, z18, z19, z20, z21, z22, z23, z24, Nat.zero_le, fin, finI, mSeq, mIf, mRet, mRetN, mDrop, mSet, mAsg, mPar, mAug, mSetIx, mMe, mFor, mIs, mEn, mZa, mN, mK, mA0, mA1, mB, mT, mAnd, mOr, mNot, mAndV, mOrV, mNotV, mIfE, mCh, mTup, mLst, mFz1, mFzA, fzL, fz1, mCall, mCallI, mAp, mAd, mNeg, mYes, mLc, mNx, mBad, mRaise, mBk, mCt, stB, gN, gs0, gs1, gT, rsA, rs, allV, BV.fz, Nw.bv, R.bind, nox, gt, two, fAdd_int, fSub, fCmp, fLen, fList, fTuple, fInt, fAbs, fMax, fMin, fIx, fSlH, fSlL, fSl, fRev, fIs, fNeg, isNon, Option.bind_some, Option.map_some, List.set_cons_zero, List.set_cons_succ, List.map_cons, List.map_nil, List.cons_append, List.nil_append, List.replicate, List.length_cons, List.length_nil, Nat.zero_add, Nat.reduceAdd, if_true, ite_true, reduceIte, wipeE, Bool.true_or, Bool.false_or, Bool.true_and, Bool.false_and, Bool.not_true, Bool.not_false, Bool.false_eq_true, if_false, e, fEq_int, hr, decide_false, fMul_sm (i := n) (j := 0) (by omega) (by omega)])
      (by unfold SZ; simp; omega)
    obtain ⟨ms, rfl, hms⟩ := ints_of g3
    rw [List.length_map, List.length_map] at g2
    have ht := e__law_trimL ms (by omega)
    refine ⟨trim ms, x4, ?_, by have := trim_length_le ms; omega, Po.trim hms, d4⟩
    simp only [M__law_poly, B__law_poly, Nw.lf, lf, lfA_ints, SZ, Nat.reduceLeDiff, z1, z2, z3, z4, z5, z6, z7, z8, z9, z10, z11, z12, z13, z14, z15, z16, z17, z18, z19, z20, z21, z22, z23, z24, Nat.zero_le, fin, finI, mSeq, mIf, mRet, mRetN, mDrop, mSet, mAsg, mPar, mAug, mSetIx, mMe, mFor, mIs, mEn, mZa, mN, mK, mA0, mA1, mB, mT, mAnd, mOr, mNot, mAndV, mOrV, mNotV, mIfE, mCh, mTup, mLst, mFz1, mFzA, fzL, fz1, mCall, mCallI, mAp, mAd, mNeg, mYes, mLc, mNx, mBad, mRaise, mBk, mCt, stB, gN, gs0, gs1, gT, rsA, rs, allV, BV.fz, Nw.bv, R.bind, nox, gt, two, fAdd_int, fSub, fCmp, fLen, fList, fTuple, fInt, fAbs, fMax, fMin, fIx, fSlH, fSlL, fSl, fRev, fIs, fNeg, isNon, Option.bind_some, Option.map_some, List.set_cons_zero, List.set_cons_succ, List.map_cons, List.map_nil, List.cons_append, List.nil_append, List.replicate, List.length_cons, List.length_nil, Nat.zero_add, Nat.reduceAdd, if_true, ite_true, reduceIte, wipeE, Bool.true_or, Bool.false_or, Bool.true_and, Bool.false_and, Bool.not_true, Bool.not_false, Bool.false_eq_true, if_false, e1, e2, e3, fEq_int, hq, decide_true, g1, ht]
  · have ht := e__law_trimL ns (by omega)
    refine ⟨trim ns, x3, ?_, by have := trim_length_le ns; omega, Po.trim n2, d3⟩
    simp only [M__law_poly, B__law_poly, Nw.lf, lf, lfA_ints, SZ, Nat.reduceLeDiff, z1, z2, z3, z4, z5, z6, z7, z8, z9, z10, z11, z12, z13, z14, z15, z16, z17, z18, z19, z20, z21, z22, z23, z24, Nat.zero_le, fin, finI, mSeq, mIf, mRet, mRetN, mDrop, mSet, mAsg, mPar, mAug, mSetIx, mMe, mFor, mIs, mEn, mZa, mN, mK, mA0, mA1, mB, mT, mAnd, mOr, mNot, mAndV, mOrV, mNotV, mIfE, mCh, mTup, mLst, mFz1, mFzA, fzL, fz1, mCall, mCallI, mAp, mAd, mNeg, mYes, mLc, mNx, mBad, mRaise, mBk, mCt, stB, gN, gs0, gs1, gT, rsA, rs, allV, BV.fz, Nw.bv, R.bind, nox, gt, two, fAdd_int, fSub, fCmp, fLen, fList, fTuple, fInt, fAbs, fMax, fMin, fIx, fSlH, fSlL, fSl, fRev, fIs, fNeg, isNon, Option.bind_some, Option.map_some, List.set_cons_zero, List.set_cons_succ, List.map_cons, List.map_nil, List.cons_append, List.nil_append, List.replicate, List.length_cons, List.length_nil, Nat.zero_add, Nat.reduceAdd, if_true, ite_true, reduceIte, wipeE, Bool.true_or, Bool.false_or, Bool.true_and, Bool.false_and, Bool.not_true, Bool.not_false, Bool.false_eq_true, if_false, e1, e2, e3, fEq_int, hq, decide_false, ht]
theorem e__law_blend (a b : List Int) (w p : Int) (hp : 0 < p) (hw1 : -1000000 ≤ w) (hw2 : w ≤ 1000000) (ha : a.length ≤ 500) (hb : b.length ≤ 500) : M__law_blend [.tup (a.map D.int), .tup (b.map D.int), .int w, .int p] = .ok (.v (.tup ((bl p w a b).map D.int))) := by
  have hm := cast_max a.length b.length
  have h3 := e__law_trimL (zw (fun x y => (x + w * y) % p) (pad a (max a.length b.length)) (pad b (max a.length b.length))) (by rw [zw_length, pad_length (by omega), pad_length (by omega)]; omega)
  have hpad : ∀ c : List Int, c.length ≤ max a.length b.length → ∀ Γ4 : Env, mFz1 Le__law_blend_1 [.v (.tup (a.map D.int)), .v (.tup (b.map D.int)), .v (.int w), .v (.int p), .v (.int (max a.length b.length : Nat)), .no, .v (.tup (c.map D.int)), .no, .no] = .ok (.lst ((pad c (max a.length b.length)).map D.int), [.v (.tup (a.map D.int)), .v (.tup (b.map D.int)), .v (.int w), .v (.int p), .v (.int (max a.length b.length : Nat)), .no, .v (.tup (c.map D.int)), .no, .no]) := by
    intro c hc _
    generalize max a.length b.length = n at *
    have hn : n ≤ 500 := by omega
    have e : ((n : Int) - (c.length : Int)).toNat = n - c.length := by omega
    have h1 := fMul_l1 (.int 0) ((n : Int) - (c.length : Int)) (by omega) (by omega)
    have h2 : fAdd [.lst (c.map D.int), .lst (List.replicate ((n : Int) - (c.length : Int)).toNat (.int 0))] = some (.o ((pad c n).map D.int)) := by
      rw [fAdd_l (by rw [List.length_map, List.length_replicate]; unfold SZ; omega)]
      simp only [pad, List.map_append, List.map_replicate, e]
    simp only [Le__law_blend_1, Nw.lf, lf, lfA_ints, SZ, Nat.reduceLeDiff, z1, z2, z3, z4, z5, z6, z7, z8, z9, z10, z11, z12, z13, z14, z15, z16, z17, z18, z19, z20, z21, z22, z23, z24, Nat.zero_le, fin, finI, mSeq, mIf, mRet, mRetN, mDrop, mSet, mAsg, mPar, mAug, mSetIx, mMe, mFor, mIs, mEn, mZa, mN, mK, mA0, mA1, mB, mT, mAnd, mOr, mNot, mAndV, mOrV, mNotV, mIfE, mCh, mTup, mLst, mFz1, mFzA, fzL, fz1, mCall, mCallI, mAp, mAd, mNeg, mYes, mLc, mNx, mBad, mRaise, mBk, mCt, stB, gN, gs0, gs1, gT, rsA, rs, allV, BV.fz, Nw.bv, R.bind, nox, gt, two, fAdd_int, fSub, fCmp, fLen, fList, fTuple, fInt, fAbs, fMax, fMin, fIx, fSlH, fSlL, fSl, fRev, fIs, fNeg, isNon, Option.bind_some, Option.map_some, List.set_cons_zero, List.set_cons_succ, List.map_cons, List.map_nil, List.cons_append, List.nil_append, List.replicate, List.length_cons, List.length_nil, Nat.zero_add, Nat.reduceAdd, if_true, ite_true, reduceIte, wipeE, Bool.true_or, Bool.false_or, Bool.true_and, Bool.false_and, Bool.not_true, Bool.not_false, Bool.false_eq_true, if_false, List.length_map, h1, h2]
  have hl0 := mLc_map (fun c : List Int => .tup (c.map D.int)) (fun c => .lst ((pad c (max a.length b.length)).map D.int)) [a, b] (mi := mIs (mTup (mA1 (mN 0) (mA1 (mN 1) mA0)))) (f := gN 6) (e := Le__law_blend_1) (vs := [6])
    (Γ := [.v (.tup (a.map D.int)), .v (.tup (b.map D.int)), .v (.int w), .v (.int p), .v (.int (max a.length b.length : Nat)), .no, .no, .no, .no]) (Γ1 := [.v (.tup (a.map D.int)), .v (.tup (b.map D.int)), .v (.int w), .v (.int p), .v (.int (max a.length b.length : Nat)), .no, .no, .no, .no])
    (by simp only [Nw.lf, lf, lfA_ints, SZ, Nat.reduceLeDiff, z1, z2, z3, z4, z5, z6, z7, z8, z9, z10, z11, z12, z13, z14, z15, z16, z17, z18, z19, z20, z21, z22, z23, z24, Nat.zero_le, fin, finI, mSeq, mIf, mRet, mRetN, mDrop, mSet, mAsg, mPar, mAug, mSetIx, mMe, mFor, mIs, mEn, mZa, mN, mK, mA0, mA1, mB, mT, mAnd, mOr, mNot, mAndV, mOrV, mNotV, mIfE, mCh, mTup, mLst, mFz1, mFzA, fzL, fz1, mCall, mCallI, mAp, mAd, mNeg, mYes, mLc, mNx, mBad, mRaise, mBk, mCt, stB, gN, gs0, gs1, gT, rsA, rs, allV, BV.fz, Nw.bv, R.bind, nox, gt, two, fAdd_int, fSub, fCmp, fLen, fList, fTuple, fInt, fAbs, fMax, fMin, fIx, fSlH, fSlL, fSl, fRev, fIs, fNeg, isNon, Option.bind_some, Option.map_some, List.set_cons_zero, List.set_cons_succ, List.map_cons, List.map_nil, List.cons_append, List.nil_append, List.replicate, List.length_cons, List.length_nil, Nat.zero_add, Nat.reduceAdd, if_true, ite_true, reduceIte, wipeE, Bool.true_or, Bool.false_or, Bool.true_and, Bool.false_and, Bool.not_true, Bool.not_false, Bool.false_eq_true, if_false]) (by simp) (fun c hc => by
      have hc' : c.length ≤ max a.length b.length := by
        simp only [List.mem_cons, List.not_mem_nil, or_false] at hc
        rcases hc with rfl | rfl <;> omega
      exact ⟨_, _, rfl, hpad c hc' [], rfl⟩)
  have hl := mLc_map (fun x : Int × Int => .tup [.int x.1, .int x.2]) (fun x => .int ((x.1 + w * x.2) % p)) ((pad a (max a.length b.length)).zip (pad b (max a.length b.length)))
    (mi := mZa (mA1 (mB (two fIx) (mA1 (mN 5) (mA1 (mK (.int 0)) mA0))) (mA1 (mB (two fIx) (mA1 (mN 5) (mA1 (mK (.int 1)) mA0))) mA0))) (f := gT 2 (gs1 (gN 7) (gs1 (gN 8) gs0))) (e := Le__law_blend_2) (vs := [7, 8])
    (Γ := [.v (.tup (a.map D.int)), .v (.tup (b.map D.int)), .v (.int w), .v (.int p), .v (.int (max a.length b.length : Nat)), .o [.lst ((pad a (max a.length b.length)).map D.int), .lst ((pad b (max a.length b.length)).map D.int)], .no, .no, .no]) (Γ1 := [.v (.tup (a.map D.int)), .v (.tup (b.map D.int)), .v (.int w), .v (.int p), .v (.int (max a.length b.length : Nat)), .o [.lst ((pad a (max a.length b.length)).map D.int), .lst ((pad b (max a.length b.length)).map D.int)], .no, .no, .no])
    (by simp only [Nw.lf, lf, lfA_ints, SZ, Nat.reduceLeDiff, z1, z2, z3, z4, z5, z6, z7, z8, z9, z10, z11, z12, z13, z14, z15, z16, z17, z18, z19, z20, z21, z22, z23, z24, Nat.zero_le, fin, finI, mSeq, mIf, mRet, mRetN, mDrop, mSet, mAsg, mPar, mAug, mSetIx, mMe, mFor, mIs, mEn, mZa, mN, mK, mA0, mA1, mB, mT, mAnd, mOr, mNot, mAndV, mOrV, mNotV, mIfE, mCh, mTup, mLst, mFz1, mFzA, fzL, fz1, mCall, mCallI, mAp, mAd, mNeg, mYes, mLc, mNx, mBad, mRaise, mBk, mCt, stB, gN, gs0, gs1, gT, rsA, rs, allV, BV.fz, Nw.bv, R.bind, nox, gt, two, fAdd_int, fSub, fCmp, fLen, fList, fTuple, fInt, fAbs, fMax, fMin, fIx, fSlH, fSlL, fSl, fRev, fIs, fNeg, isNon, Option.bind_some, Option.map_some, List.set_cons_zero, List.set_cons_succ, List.map_cons, List.map_nil, List.cons_append, List.nil_append, List.replicate, List.length_cons, List.length_nil, Nat.zero_add, Nat.reduceAdd, if_true, ite_true, reduceIte, wipeE, Bool.true_or, Bool.false_or, Bool.true_and, Bool.false_and, Bool.not_true, Bool.not_false, Bool.false_eq_true, if_false, at2_0, at2_1, zipD_ints]) (by rw [List.length_zip, pad_length (by omega), pad_length (by omega)]; omega)
    (fun x hx => by
      have := fMul_sml (i := w) (j := x.2) hw1 hw2
      exact ⟨_, _, rfl, by simp only [Le__law_blend_2, Nw.lf, lf, lfA_ints, SZ, Nat.reduceLeDiff, z1, z2, z3, z4, z5, z6, z7, z8, z9, z10, z11, z12, z13, z14, z15, z16, z17, z18, z19, z20, z21, z22, z23, z24, Nat.zero_le, fin, finI, mSeq, mIf, mRet, mRetN, mDrop, mSet, mAsg, mPar, mAug, mSetIx, mMe, mFor, mIs, mEn, mZa, mN, mK, mA0, mA1, mB, mT, mAnd, mOr, mNot, mAndV, mOrV, mNotV, mIfE, mCh, mTup, mLst, mFz1, mFzA, fzL, fz1, mCall, mCallI, mAp, mAd, mNeg, mYes, mLc, mNx, mBad, mRaise, mBk, mCt, stB, gN, gs0, gs1, gT, rsA, rs, allV, BV.fz, Nw.bv, R.bind, nox, gt, two, fAdd_int, fSub, fCmp, fLen, fList, fTuple, fInt, fAbs, fMax, fMin, fIx, fSlH, fSlL, fSl, fRev, fIs, fNeg, isNon, Option.bind_some, Option.map_some, List.set_cons_zero, List.set_cons_succ, List.map_cons, List.map_nil, List.cons_append, List.nil_append, List.replicate, List.length_cons, List.length_nil, Nat.zero_add, Nat.reduceAdd, if_true, ite_true, reduceIte, wipeE, Bool.true_or, Bool.false_or, Bool.true_and, Bool.false_and, Bool.not_true, Bool.not_false, Bool.false_eq_true, if_false, this, fMod_pos hp]; rfl, by rfl⟩)
  have hz : ((pad a (max a.length b.length)).zip (pad b (max a.length b.length))).map (fun x => D.int ((x.1 + w * x.2) % p)) = (zw (fun x y => (x + w * y) % p) (pad a (max a.length b.length)) (pad b (max a.length b.length))).map D.int := by
    rw [← zip_zw, List.map_map]; rfl
  rw [hz] at hl
  simp only [mLc, Nw.lf, lf, lfA_ints, SZ, Nat.reduceLeDiff, z1, z2, z3, z4, z5, z6, z7, z8, z9, z10, z11, z12, z13, z14, z15, z16, z17, z18, z19, z20, z21, z22, z23, z24, Nat.zero_le, fin, finI, mSeq, mIf, mRet, mRetN, mDrop, mSet, mAsg, mPar, mAug, mSetIx, mMe, mFor, mIs, mEn, mZa, mN, mK, mA0, mA1, mB, mT, mAnd, mOr, mNot, mAndV, mOrV, mNotV, mIfE, mCh, mTup, mLst, mFz1, mFzA, fzL, fz1, mCall, mCallI, mAp, mAd, mNeg, mYes, mLc, mNx, mBad, mRaise, mBk, mCt, stB, gN, gs0, gs1, gT, rsA, rs, allV, BV.fz, Nw.bv, R.bind, nox, gt, two, fAdd_int, fSub, fCmp, fLen, fList, fTuple, fInt, fAbs, fMax, fMin, fIx, fSlH, fSlL, fSl, fRev, fIs, fNeg, isNon, Option.bind_some, Option.map_some, List.set_cons_zero, List.set_cons_succ, List.map_cons, List.map_nil, List.cons_append, List.nil_append, List.replicate, List.length_cons, List.length_nil, Nat.zero_add, Nat.reduceAdd, if_true, ite_true, reduceIte, wipeE, Bool.true_or, Bool.false_or, Bool.true_and, Bool.false_and, Bool.not_true, Bool.not_false, Bool.false_eq_true, if_false, List.length_map, hm, at2_0, at2_1] at hl hl0
  simp only [M__law_blend, B__law_blend, Nw.lf, lf, lfA_ints, SZ, Nat.reduceLeDiff, z1, z2, z3, z4, z5, z6, z7, z8, z9, z10, z11, z12, z13, z14, z15, z16, z17, z18, z19, z20, z21, z22, z23, z24, Nat.zero_le, fin, finI, mSeq, mIf, mRet, mRetN, mDrop, mSet, mAsg, mPar, mAug, mSetIx, mMe, mFor, mIs, mEn, mZa, mN, mK, mA0, mA1, mB, mT, mAnd, mOr, mNot, mAndV, mOrV, mNotV, mIfE, mCh, mTup, mLst, mFz1, mFzA, fzL, fz1, mCall, mCallI, mAp, mAd, mNeg, mYes, mLc, mNx, mBad, mRaise, mBk, mCt, stB, gN, gs0, gs1, gT, rsA, rs, allV, BV.fz, Nw.bv, R.bind, nox, gt, two, fAdd_int, fSub, fCmp, fLen, fList, fTuple, fInt, fAbs, fMax, fMin, fIx, fSlH, fSlL, fSl, fRev, fIs, fNeg, isNon, Option.bind_some, Option.map_some, List.set_cons_zero, List.set_cons_succ, List.map_cons, List.map_nil, List.cons_append, List.nil_append, List.replicate, List.length_cons, List.length_nil, Nat.zero_add, Nat.reduceAdd, if_true, ite_true, reduceIte, wipeE, Bool.true_or, Bool.false_or, Bool.true_and, Bool.false_and, Bool.not_true, Bool.not_false, Bool.false_eq_true, if_false, List.length_map, hm, hl0, hl, h3, bl, at2_0, at2_1]
theorem b_conv (x y p : Int) (hp : 0 < p) (hx : -1000 ≤ x ∧ x ≤ 1000) (at_ k : Nat) (S0 S1 : Sl) (f : List Int) (h : at_ + k < f.length) (hf : f.length ≤ 1000) : Fb__law_conv_2 [S0, S1, .v (.int p), .o (f.map D.int), .v (.int at_), .v (.int x), .v (.int k), .v (.int y)] = .ok (.nx [S0, S1, .v (.int p), .o ((f.set (at_ + k) ((cf f (at_ + k) + x * y) % p)).map D.int), .v (.int at_), .v (.int x), .v (.int k), .v (.int y)]) := by
  have e3 : L2.atI (f.map D.int) ((at_ : Int) + (k : Int)) = some (.int (cf f (at_ + k))) := atI_ints' f _ (at_ + k) (by omega) h
  have e4 : L2.ixN f.length ((at_ : Int) + (k : Int)) = some (at_ + k) := ixN_nat (by omega) (by omega)
  have e5 := fMul_sml (i := x) (j := y) (by omega) (by omega)
  simp only [Fb__law_conv_2, Nw.lf, lf, lfA_ints, SZ, Nat.reduceLeDiff, z1, z2, z3, z4, z5, z6, z7, z8, z9, z10, z11, z12, z13, z14, z15, z16, z17, z18, z19, z20, z21, z22, z23, z24, Nat.zero_le, fin, finI, mSeq, mIf, mRet, mRetN, mDrop, mSet, mAsg, mPar, mAug, mSetIx, mMe, mFor, mIs, mEn, mZa, mN, mK, mA0, mA1, mB, mT, mAnd, mOr, mNot, mAndV, mOrV, mNotV, mIfE, mCh, mTup, mLst, mFz1, mFzA, fzL, fz1, mCall, mCallI, mAp, mAd, mNeg, mYes, mLc, mNx, mBad, mRaise, mBk, mCt, stB, gN, gs0, gs1, gT, rsA, rs, allV, BV.fz, Nw.bv, R.bind, nox, gt, two, fAdd_int, fSub, fCmp, fLen, fList, fTuple, fInt, fAbs, fMax, fMin, fIx, fSlH, fSlL, fSl, fRev, fIs, fNeg, isNon, Option.bind_some, Option.map_some, List.set_cons_zero, List.set_cons_succ, List.map_cons, List.map_nil, List.cons_append, List.nil_append, List.replicate, List.length_cons, List.length_nil, Nat.zero_add, Nat.reduceAdd, if_true, ite_true, reduceIte, wipeE, Bool.true_or, Bool.false_or, Bool.true_and, Bool.false_and, Bool.not_true, Bool.not_false, Bool.false_eq_true, if_false, e3, List.length_map, e4, e5, fMod_pos hp, List.map_set]
theorem w_conv2 (x p : Int) (hp : 0 < p) (hx : -1000 ≤ x ∧ x ≤ 1000) (at_ : Nat) (S0 S1 : Sl) : ∀ (b f : List Int) (k : Nat) (s6 s7 : Sl), at_ + k + b.length ≤ f.length → f.length ≤ 1000 → ∃ s6' s7', mForL (gT 2 (gs1 (gN 6) (gs1 (gN 7) gs0))) Fb__law_conv_2 (enumD k (b.map D.int)) [S0, S1, .v (.int p), .o (f.map D.int), .v (.int at_), .v (.int x), s6, s7] = .ok (.nx [S0, S1, .v (.int p), .o ((addAtM p x f (at_ + k) b).map D.int), .v (.int at_), .v (.int x), s6', s7'])
  | [], f, k, s6, s7, _, _ => ⟨s6, s7, rfl⟩
  | y :: b, f, k, s6, s7, h, hf => by
    simp only [List.length_cons] at h
    obtain ⟨s6', s7', ih⟩ := w_conv2 x p hp hx at_ S0 S1 b (f.set (at_ + k) ((cf f (at_ + k) + x * y) % p)) (k + 1) (.v (.int k)) (.v (.int y)) (by simp; omega) (by simp; omega)
    refine ⟨s6', s7', ?_⟩
    have hb := b_conv x y p hp hx at_ k S0 S1 f (by omega) hf
    rw [List.map_cons, enumD, mForL_cons (Γ1 := [S0, S1, .v (.int p), .o (f.map D.int), .v (.int at_), .v (.int x), .v (.int k), .v (.int y)]) rfl hb]
    rw [addAtM, ← Nat.add_assoc] at *
    exact ih
theorem w_conv1 (b : List Int) (p : Int) (hp : 0 < p) (t : D) : ∀ (a f : List Int) (k : Nat) (s4 s5 s6 s7 : Sl), (∀ x ∈ a, -1000 ≤ x ∧ x ≤ 1000) → k + a.length + b.length ≤ f.length → f.length ≤ 1000 →
    ∃ s4' s5' s6' s7', mForL (gT 2 (gs1 (gN 4) (gs1 (gN 5) gs0))) Fb__law_conv_1 (enumD k (a.map D.int)) [.v t, .v (.tup (b.map D.int)), .v (.int p), .o (f.map D.int), s4, s5, s6, s7] = .ok (.nx [.v t, .v (.tup (b.map D.int)), .v (.int p), .o ((mulM p b a f k).map D.int), s4', s5', s6', s7'])
  | [], f, k, s4, s5, s6, s7, _, _, _ => ⟨s4, s5, s6, s7, rfl⟩
  | x :: a, f, k, s4, s5, s6, s7, hx, h, hf => by
    simp only [List.length_cons] at h
    have hx0 := hx x (List.mem_cons_self ..)
    obtain ⟨s6', s7', hi⟩ := w_conv2 x p hp hx0 k (.v t) (.v (.tup (b.map D.int))) b f 0 s6 s7 (by omega) hf
    obtain ⟨r4, r5, r6, r7, ih⟩ := w_conv1 b p hp t a (addAtM p x f k b) (k + 1) (.v (.int k)) (.v (.int x)) s6' s7' (fun y hy => hx y (List.mem_cons_of_mem _ hy)) (by rw [addAtM_length]; omega) (by rw [addAtM_length]; omega)
    refine ⟨r4, r5, r6, r7, ?_⟩
    have hb : Fb__law_conv_1 [.v t, .v (.tup (b.map D.int)), .v (.int p), .o (f.map D.int), .v (.int k), .v (.int x), s6, s7] = .ok (.nx [.v t, .v (.tup (b.map D.int)), .v (.int p), .o ((addAtM p x f k b).map D.int), .v (.int k), .v (.int x), s6', s7']) := by
      simp only [Fb__law_conv_1, Nw.lf, lf, lfA_ints, SZ, Nat.reduceLeDiff, z1, z2, z3, z4, z5, z6, z7, z8, z9, z10, z11, z12, z13, z14, z15, z16, z17, z18, z19, z20, z21, z22, z23, z24, Nat.zero_le, fin, finI, mSeq, mIf, mRet, mRetN, mDrop, mSet, mAsg, mPar, mAug, mSetIx, mMe, mFor, mIs, mEn, mZa, mN, mK, mA0, mA1, mB, mT, mAnd, mOr, mNot, mAndV, mOrV, mNotV, mIfE, mCh, mTup, mLst, mFz1, mFzA, fzL, fz1, mCall, mCallI, mAp, mAd, mNeg, mYes, mLc, mNx, mBad, mRaise, mBk, mCt, stB, gN, gs0, gs1, gT, rsA, rs, allV, BV.fz, Nw.bv, R.bind, nox, gt, two, fAdd_int, fSub, fCmp, fLen, fList, fTuple, fInt, fAbs, fMax, fMin, fIx, fSlH, fSlL, fSl, fRev, fIs, fNeg, isNon, Option.bind_some, Option.map_some, List.set_cons_zero, List.set_cons_succ, List.map_cons, List.map_nil, List.cons_append, List.nil_append, List.replicate, List.length_cons, List.length_nil, Nat.zero_add, Nat.reduceAdd, if_true, ite_true, reduceIte, wipeE, Bool.true_or, Bool.false_or, Bool.true_and, Bool.false_and, Bool.not_true, Bool.not_false, Bool.false_eq_true, if_false]
      exact hi
    rw [List.map_cons, enumD, mForL_cons (Γ1 := [.v t, .v (.tup (b.map D.int)), .v (.int p), .o (f.map D.int), .v (.int k), .v (.int x), s6, s7]) rfl hb, mulM]
    exact ih
theorem e__law_conv (a b : List Int) (p : Int) (hp : 0 < p) (hx : ∀ x ∈ a, -1000 ≤ x ∧ x ≤ 1000) (ha : a.length ≤ 200) (hb : b.length ≤ 200) : M__law_conv [.tup (a.map D.int), .tup (b.map D.int), .int p] = .ok (.o ((mulM p b a (List.replicate (a.length + b.length) 0) 0).map D.int)) := by
  have e1 : ((a.length : Int) + (b.length : Int)).toNat = a.length + b.length := by omega
  have hm := fMul_l1 (.int 0) ((a.length : Int) + (b.length : Int)) (by omega) (by omega)
  rw [e1, ← List.map_replicate] at hm
  obtain ⟨r4, r5, r6, r7, hw⟩ := w_conv1 b p hp (.tup (a.map D.int)) a (List.replicate (a.length + b.length) 0) 0 .no .no .no .no hx (by simp) (by simp; omega)
  simp only [M__law_conv, B__law_conv, Nw.lf, lf, lfA_ints, SZ, Nat.reduceLeDiff, z1, z2, z3, z4, z5, z6, z7, z8, z9, z10, z11, z12, z13, z14, z15, z16, z17, z18, z19, z20, z21, z22, z23, z24, Nat.zero_le, fin, finI, mSeq, mIf, mRet, mRetN, mDrop, mSet, mAsg, mPar, mAug, mSetIx, mMe, mFor, mIs, mEn, mZa, mN, mK, mA0, mA1, mB, mT, mAnd, mOr, mNot, mAndV, mOrV, mNotV, mIfE, mCh, mTup, mLst, mFz1, mFzA, fzL, fz1, mCall, mCallI, mAp, mAd, mNeg, mYes, mLc, mNx, mBad, mRaise, mBk, mCt, stB, gN, gs0, gs1, gT, rsA, rs, allV, BV.fz, Nw.bv, R.bind, nox, gt, two, fAdd_int, fSub, fCmp, fLen, fList, fTuple, fInt, fAbs, fMax, fMin, fIx, fSlH, fSlL, fSl, fRev, fIs, fNeg, isNon, Option.bind_some, Option.map_some, List.set_cons_zero, List.set_cons_succ, List.map_cons, List.map_nil, List.cons_append, List.nil_append, List.replicate, List.length_cons, List.length_nil, Nat.zero_add, Nat.reduceAdd, if_true, ite_true, reduceIte, wipeE, Bool.true_or, Bool.false_or, Bool.true_and, Bool.false_and, Bool.not_true, Bool.not_false, Bool.false_eq_true, if_false, List.length_map, hm, hw]
theorem e__law_mul (a b : List Int) (p : Int) (hp : 0 < p) (hx : ∀ x ∈ a, -1000 ≤ x ∧ x ≤ 1000) (ha : a.length ≤ 200) (hb : b.length ≤ 200) : M__law_mul [.tup (a.map D.int), .tup (b.map D.int), .int p] = .ok (.v (.tup ((mulP p a b).map D.int))) := by
  have h1 := e__law_conv a b p hp hx ha hb
  have h2 := e__law_trimL (mulM p b a (List.replicate (a.length + b.length) 0) 0) (by rw [mulM_length]; simp; omega)
  rw [mulM_trim] at h2
  simp only [M__law_mul, B__law_mul, Nw.lf, lf, lfA_ints, SZ, Nat.reduceLeDiff, z1, z2, z3, z4, z5, z6, z7, z8, z9, z10, z11, z12, z13, z14, z15, z16, z17, z18, z19, z20, z21, z22, z23, z24, Nat.zero_le, fin, finI, mSeq, mIf, mRet, mRetN, mDrop, mSet, mAsg, mPar, mAug, mSetIx, mMe, mFor, mIs, mEn, mZa, mN, mK, mA0, mA1, mB, mT, mAnd, mOr, mNot, mAndV, mOrV, mNotV, mIfE, mCh, mTup, mLst, mFz1, mFzA, fzL, fz1, mCall, mCallI, mAp, mAd, mNeg, mYes, mLc, mNx, mBad, mRaise, mBk, mCt, stB, gN, gs0, gs1, gT, rsA, rs, allV, BV.fz, Nw.bv, R.bind, nox, gt, two, fAdd_int, fSub, fCmp, fLen, fList, fTuple, fInt, fAbs, fMax, fMin, fIx, fSlH, fSlL, fSl, fRev, fIs, fNeg, isNon, Option.bind_some, Option.map_some, List.set_cons_zero, List.set_cons_succ, List.map_cons, List.map_nil, List.cons_append, List.nil_append, List.replicate, List.length_cons, List.length_nil, Nat.zero_add, Nat.reduceAdd, if_true, ite_true, reduceIte, wipeE, Bool.true_or, Bool.false_or, Bool.true_and, Bool.false_and, Bool.not_true, Bool.not_false, Bool.false_eq_true, if_false, h1, h2]
theorem e__law_same_ : ∀ (k : Nat) (d : D), Pl k d → M__law_same_ k [d, d] = .ok (.v (.bl true)) := by
  intro k
  induction k with
  | zero => intro d h; cases h
  | succ k ih =>
    intro d h
    cases h with
    | int n => simp only [M__law_same_, B__law_same, Nw.lf, lf, lfA_ints, SZ, Nat.reduceLeDiff, z1, z2, z3, z4, z5, z6, z7, z8, z9, z10, z11, z12, z13, z14, z15, z16, z17, z18, z19, z20, z21, z22, z23, z24, Nat.zero_le, fin, finI, mSeq, mIf, mRet, mRetN, mDrop, mSet, mAsg, mPar, mAug, mSetIx, mMe, mFor, mIs, mEn, mZa, mN, mK, mA0, mA1, mB, mT, mAnd, mOr, mNot, mAndV, mOrV, mNotV, mIfE, mCh, mTup, mLst, mFz1, mFzA, fzL, fz1, mCall, mCallI, mAp, mAd, mNeg, mYes, mLc, mNx, mBad, mRaise, mBk, mCt, stB, gN, gs0, gs1, gT, rsA, rs, allV, BV.fz, Nw.bv, R.bind, nox, gt, two, fAdd_int, fSub, fCmp, fLen, fList, fTuple, fInt, fAbs, fMax, fMin, fIx, fSlH, fSlL, fSl, fRev, fIs, fNeg, isNon, Option.bind_some, Option.map_some, List.set_cons_zero, List.set_cons_succ, List.map_cons, List.map_nil, List.cons_append, List.nil_append, List.replicate, List.length_cons, List.length_nil, Nat.zero_add, Nat.reduceAdd, if_true, ite_true, reduceIte, wipeE, Bool.true_or, Bool.false_or, Bool.true_and, Bool.false_and, Bool.not_true, Bool.not_false, Bool.false_eq_true, if_false, is2_int, is_bi, is_ii, is_si, fNe_bl, fEq_bl, fEq_int, decide_true]
    | bl n => simp only [M__law_same_, B__law_same, Nw.lf, lf, lfA_ints, SZ, Nat.reduceLeDiff, z1, z2, z3, z4, z5, z6, z7, z8, z9, z10, z11, z12, z13, z14, z15, z16, z17, z18, z19, z20, z21, z22, z23, z24, Nat.zero_le, fin, finI, mSeq, mIf, mRet, mRetN, mDrop, mSet, mAsg, mPar, mAug, mSetIx, mMe, mFor, mIs, mEn, mZa, mN, mK, mA0, mA1, mB, mT, mAnd, mOr, mNot, mAndV, mOrV, mNotV, mIfE, mCh, mTup, mLst, mFz1, mFzA, fzL, fz1, mCall, mCallI, mAp, mAd, mNeg, mYes, mLc, mNx, mBad, mRaise, mBk, mCt, stB, gN, gs0, gs1, gT, rsA, rs, allV, BV.fz, Nw.bv, R.bind, nox, gt, two, fAdd_int, fSub, fCmp, fLen, fList, fTuple, fInt, fAbs, fMax, fMin, fIx, fSlH, fSlL, fSl, fRev, fIs, fNeg, isNon, Option.bind_some, Option.map_some, List.set_cons_zero, List.set_cons_succ, List.map_cons, List.map_nil, List.cons_append, List.nil_append, List.replicate, List.length_cons, List.length_nil, Nat.zero_add, Nat.reduceAdd, if_true, ite_true, reduceIte, wipeE, Bool.true_or, Bool.false_or, Bool.true_and, Bool.false_and, Bool.not_true, Bool.not_false, Bool.false_eq_true, if_false, is2_bl, is_bb, is_ib, is_sb, fNe_bl, fEq_bl, decide_true]
    | non => simp only [M__law_same_, B__law_same, Nw.lf, lf, lfA_ints, SZ, Nat.reduceLeDiff, z1, z2, z3, z4, z5, z6, z7, z8, z9, z10, z11, z12, z13, z14, z15, z16, z17, z18, z19, z20, z21, z22, z23, z24, Nat.zero_le, fin, finI, mSeq, mIf, mRet, mRetN, mDrop, mSet, mAsg, mPar, mAug, mSetIx, mMe, mFor, mIs, mEn, mZa, mN, mK, mA0, mA1, mB, mT, mAnd, mOr, mNot, mAndV, mOrV, mNotV, mIfE, mCh, mTup, mLst, mFz1, mFzA, fzL, fz1, mCall, mCallI, mAp, mAd, mNeg, mYes, mLc, mNx, mBad, mRaise, mBk, mCt, stB, gN, gs0, gs1, gT, rsA, rs, allV, BV.fz, Nw.bv, R.bind, nox, gt, two, fAdd_int, fSub, fCmp, fLen, fList, fTuple, fInt, fAbs, fMax, fMin, fIx, fSlH, fSlL, fSl, fRev, fIs, fNeg, isNon, Option.bind_some, Option.map_some, List.set_cons_zero, List.set_cons_succ, List.map_cons, List.map_nil, List.cons_append, List.nil_append, List.replicate, List.length_cons, List.length_nil, Nat.zero_add, Nat.reduceAdd, if_true, ite_true, reduceIte, wipeE, Bool.true_or, Bool.false_or, Bool.true_and, Bool.false_and, Bool.not_true, Bool.not_false, Bool.false_eq_true, if_false, is2_non]
    | str hs => simp only [M__law_same_, B__law_same, Nw.lf, lf, lfA_ints, SZ, Nat.reduceLeDiff, z1, z2, z3, z4, z5, z6, z7, z8, z9, z10, z11, z12, z13, z14, z15, z16, z17, z18, z19, z20, z21, z22, z23, z24, Nat.zero_le, fin, finI, mSeq, mIf, mRet, mRetN, mDrop, mSet, mAsg, mPar, mAug, mSetIx, mMe, mFor, mIs, mEn, mZa, mN, mK, mA0, mA1, mB, mT, mAnd, mOr, mNot, mAndV, mOrV, mNotV, mIfE, mCh, mTup, mLst, mFz1, mFzA, fzL, fz1, mCall, mCallI, mAp, mAd, mNeg, mYes, mLc, mNx, mBad, mRaise, mBk, mCt, stB, gN, gs0, gs1, gT, rsA, rs, allV, BV.fz, Nw.bv, R.bind, nox, gt, two, fAdd_int, fSub, fCmp, fLen, fList, fTuple, fInt, fAbs, fMax, fMin, fIx, fSlH, fSlL, fSl, fRev, fIs, fNeg, isNon, Option.bind_some, Option.map_some, List.set_cons_zero, List.set_cons_succ, List.map_cons, List.map_nil, List.cons_append, List.nil_append, List.replicate, List.length_cons, List.length_nil, Nat.zero_add, Nat.reduceAdd, if_true, ite_true, reduceIte, wipeE, Bool.true_or, Bool.false_or, Bool.true_and, Bool.false_and, Bool.not_true, Bool.not_false, Bool.false_eq_true, if_false, is2_str, is_bs, is_is, is_ss, fNe_bl, fEq_bl, fEq_str hs, decide_true]
    | @tup _ ds hl h =>
      have hq := mLc_map (fun d : D => .tup [d, d]) (fun _ => .bl true) ds (mi := mZa (mA1 (mN 0) (mA1 (mN 1) mA0))) (f := gT 2 (gs1 (gN 2) (gs1 (gN 3) gs0))) (e := Le__law_same_1 (M__law_same_ k)) (vs := [2, 3]) (Γ := [.v (.tup ds), .v (.tup ds), .no, .no]) (Γ1 := [.v (.tup ds), .v (.tup ds), .no, .no])
        (by simp only [Nw.lf, lf, lfA_ints, SZ, Nat.reduceLeDiff, z1, z2, z3, z4, z5, z6, z7, z8, z9, z10, z11, z12, z13, z14, z15, z16, z17, z18, z19, z20, z21, z22, z23, z24, Nat.zero_le, fin, finI, mSeq, mIf, mRet, mRetN, mDrop, mSet, mAsg, mPar, mAug, mSetIx, mMe, mFor, mIs, mEn, mZa, mN, mK, mA0, mA1, mB, mT, mAnd, mOr, mNot, mAndV, mOrV, mNotV, mIfE, mCh, mTup, mLst, mFz1, mFzA, fzL, fz1, mCall, mCallI, mAp, mAd, mNeg, mYes, mLc, mNx, mBad, mRaise, mBk, mCt, stB, gN, gs0, gs1, gT, rsA, rs, allV, BV.fz, Nw.bv, R.bind, nox, gt, two, fAdd_int, fSub, fCmp, fLen, fList, fTuple, fInt, fAbs, fMax, fMin, fIx, fSlH, fSlL, fSl, fRev, fIs, fNeg, isNon, Option.bind_some, Option.map_some, List.set_cons_zero, List.set_cons_succ, List.map_cons, List.map_nil, List.cons_append, List.nil_append, List.replicate, List.length_cons, List.length_nil, Nat.zero_add, Nat.reduceAdd, if_true, ite_true, reduceIte, wipeE, Bool.true_or, Bool.false_or, Bool.true_and, Bool.false_and, Bool.not_true, Bool.not_false, Bool.false_eq_true, if_false, zipD_self]) hl (fun x hx => by exact ⟨_, _, rfl, by simp only [Le__law_same_1, Nw.lf, lf, lfA_ints, SZ, Nat.reduceLeDiff, z1, z2, z3, z4, z5, z6, z7, z8, z9, z10, z11, z12, z13, z14, z15, z16, z17, z18, z19, z20, z21, z22, z23, z24, Nat.zero_le, fin, finI, mSeq, mIf, mRet, mRetN, mDrop, mSet, mAsg, mPar, mAug, mSetIx, mMe, mFor, mIs, mEn, mZa, mN, mK, mA0, mA1, mB, mT, mAnd, mOr, mNot, mAndV, mOrV, mNotV, mIfE, mCh, mTup, mLst, mFz1, mFzA, fzL, fz1, mCall, mCallI, mAp, mAd, mNeg, mYes, mLc, mNx, mBad, mRaise, mBk, mCt, stB, gN, gs0, gs1, gT, rsA, rs, allV, BV.fz, Nw.bv, R.bind, nox, gt, two, fAdd_int, fSub, fCmp, fLen, fList, fTuple, fInt, fAbs, fMax, fMin, fIx, fSlH, fSlL, fSl, fRev, fIs, fNeg, isNon, Option.bind_some, Option.map_some, List.set_cons_zero, List.set_cons_succ, List.map_cons, List.map_nil, List.cons_append, List.nil_append, List.replicate, List.length_cons, List.length_nil, Nat.zero_add, Nat.reduceAdd, if_true, ite_true, reduceIte, wipeE, Bool.true_or, Bool.false_or, Bool.true_and, Bool.false_and, Bool.not_true, Bool.not_false, Bool.false_eq_true, if_false, ih x (h x hx)]; rfl, by rfl⟩)
      have hf := fAll_true ds
      simp only [mLc, Nw.lf, lf, lfA_ints, SZ, Nat.reduceLeDiff, z1, z2, z3, z4, z5, z6, z7, z8, z9, z10, z11, z12, z13, z14, z15, z16, z17, z18, z19, z20, z21, z22, z23, z24, Nat.zero_le, fin, finI, mSeq, mIf, mRet, mRetN, mDrop, mSet, mAsg, mPar, mAug, mSetIx, mMe, mFor, mIs, mEn, mZa, mN, mK, mA0, mA1, mB, mT, mAnd, mOr, mNot, mAndV, mOrV, mNotV, mIfE, mCh, mTup, mLst, mFz1, mFzA, fzL, fz1, mCall, mCallI, mAp, mAd, mNeg, mYes, mLc, mNx, mBad, mRaise, mBk, mCt, stB, gN, gs0, gs1, gT, rsA, rs, allV, BV.fz, Nw.bv, R.bind, nox, gt, two, fAdd_int, fSub, fCmp, fLen, fList, fTuple, fInt, fAbs, fMax, fMin, fIx, fSlH, fSlL, fSl, fRev, fIs, fNeg, isNon, Option.bind_some, Option.map_some, List.set_cons_zero, List.set_cons_succ, List.map_cons, List.map_nil, List.cons_append, List.nil_append, List.replicate, List.length_cons, List.length_nil, Nat.zero_add, Nat.reduceAdd, if_true, ite_true, reduceIte, wipeE, Bool.true_or, Bool.false_or, Bool.true_and, Bool.false_and, Bool.not_true, Bool.not_false, Bool.false_eq_true, if_false] at hq
      simp only [M__law_same_, B__law_same, Nw.lf, lf, lfA_ints, SZ, Nat.reduceLeDiff, z1, z2, z3, z4, z5, z6, z7, z8, z9, z10, z11, z12, z13, z14, z15, z16, z17, z18, z19, z20, z21, z22, z23, z24, Nat.zero_le, fin, finI, mSeq, mIf, mRet, mRetN, mDrop, mSet, mAsg, mPar, mAug, mSetIx, mMe, mFor, mIs, mEn, mZa, mN, mK, mA0, mA1, mB, mT, mAnd, mOr, mNot, mAndV, mOrV, mNotV, mIfE, mCh, mTup, mLst, mFz1, mFzA, fzL, fz1, mCall, mCallI, mAp, mAd, mNeg, mYes, mLc, mNx, mBad, mRaise, mBk, mCt, stB, gN, gs0, gs1, gT, rsA, rs, allV, BV.fz, Nw.bv, R.bind, nox, gt, two, fAdd_int, fSub, fCmp, fLen, fList, fTuple, fInt, fAbs, fMax, fMin, fIx, fSlH, fSlL, fSl, fRev, fIs, fNeg, isNon, Option.bind_some, Option.map_some, List.set_cons_zero, List.set_cons_succ, List.map_cons, List.map_nil, List.cons_append, List.nil_append, List.replicate, List.length_cons, List.length_nil, Nat.zero_add, Nat.reduceAdd, if_true, ite_true, reduceIte, wipeE, Bool.true_or, Bool.false_or, Bool.true_and, Bool.false_and, Bool.not_true, Bool.not_false, Bool.false_eq_true, if_false, is2_tup, is_lt, fNe_bl, fEq_int, decide_true, hq, hf]
    | @lst _ ds hl h =>
      have hq := mLc_map (fun d : D => .tup [d, d]) (fun _ => .bl true) ds (mi := mZa (mA1 (mN 0) (mA1 (mN 1) mA0))) (f := gT 2 (gs1 (gN 2) (gs1 (gN 3) gs0))) (e := Le__law_same_1 (M__law_same_ k)) (vs := [2, 3]) (Γ := [.v (.lst ds), .v (.lst ds), .no, .no]) (Γ1 := [.v (.lst ds), .v (.lst ds), .no, .no])
        (by simp only [Nw.lf, lf, lfA_ints, SZ, Nat.reduceLeDiff, z1, z2, z3, z4, z5, z6, z7, z8, z9, z10, z11, z12, z13, z14, z15, z16, z17, z18, z19, z20, z21, z22, z23, z24, Nat.zero_le, fin, finI, mSeq, mIf, mRet, mRetN, mDrop, mSet, mAsg, mPar, mAug, mSetIx, mMe, mFor, mIs, mEn, mZa, mN, mK, mA0, mA1, mB, mT, mAnd, mOr, mNot, mAndV, mOrV, mNotV, mIfE, mCh, mTup, mLst, mFz1, mFzA, fzL, fz1, mCall, mCallI, mAp, mAd, mNeg, mYes, mLc, mNx, mBad, mRaise, mBk, mCt, stB, gN, gs0, gs1, gT, rsA, rs, allV, BV.fz, Nw.bv, R.bind, nox, gt, two, fAdd_int, fSub, fCmp, fLen, fList, fTuple, fInt, fAbs, fMax, fMin, fIx, fSlH, fSlL, fSl, fRev, fIs, fNeg, isNon, Option.bind_some, Option.map_some, List.set_cons_zero, List.set_cons_succ, List.map_cons, List.map_nil, List.cons_append, List.nil_append, List.replicate, List.length_cons, List.length_nil, Nat.zero_add, Nat.reduceAdd, if_true, ite_true, reduceIte, wipeE, Bool.true_or, Bool.false_or, Bool.true_and, Bool.false_and, Bool.not_true, Bool.not_false, Bool.false_eq_true, if_false, zipD_self]) hl (fun x hx => by exact ⟨_, _, rfl, by simp only [Le__law_same_1, Nw.lf, lf, lfA_ints, SZ, Nat.reduceLeDiff, z1, z2, z3, z4, z5, z6, z7, z8, z9, z10, z11, z12, z13, z14, z15, z16, z17, z18, z19, z20, z21, z22, z23, z24, Nat.zero_le, fin, finI, mSeq, mIf, mRet, mRetN, mDrop, mSet, mAsg, mPar, mAug, mSetIx, mMe, mFor, mIs, mEn, mZa, mN, mK, mA0, mA1, mB, mT, mAnd, mOr, mNot, mAndV, mOrV, mNotV, mIfE, mCh, mTup, mLst, mFz1, mFzA, fzL, fz1, mCall, mCallI, mAp, mAd, mNeg, mYes, mLc, mNx, mBad, mRaise, mBk, mCt, stB, gN, gs0, gs1, gT, rsA, rs, allV, BV.fz, Nw.bv, R.bind, nox, gt, two, fAdd_int, fSub, fCmp, fLen, fList, fTuple, fInt, fAbs, fMax, fMin, fIx, fSlH, fSlL, fSl, fRev, fIs, fNeg, isNon, Option.bind_some, Option.map_some, List.set_cons_zero, List.set_cons_succ, List.map_cons, List.map_nil, List.cons_append, List.nil_append, List.replicate, List.length_cons, List.length_nil, Nat.zero_add, Nat.reduceAdd, if_true, ite_true, reduceIte, wipeE, Bool.true_or, Bool.false_or, Bool.true_and, Bool.false_and, Bool.not_true, Bool.not_false, Bool.false_eq_true, if_false, ih x (h x hx)]; rfl, by rfl⟩)
      have hf := fAll_true ds
      simp only [mLc, Nw.lf, lf, lfA_ints, SZ, Nat.reduceLeDiff, z1, z2, z3, z4, z5, z6, z7, z8, z9, z10, z11, z12, z13, z14, z15, z16, z17, z18, z19, z20, z21, z22, z23, z24, Nat.zero_le, fin, finI, mSeq, mIf, mRet, mRetN, mDrop, mSet, mAsg, mPar, mAug, mSetIx, mMe, mFor, mIs, mEn, mZa, mN, mK, mA0, mA1, mB, mT, mAnd, mOr, mNot, mAndV, mOrV, mNotV, mIfE, mCh, mTup, mLst, mFz1, mFzA, fzL, fz1, mCall, mCallI, mAp, mAd, mNeg, mYes, mLc, mNx, mBad, mRaise, mBk, mCt, stB, gN, gs0, gs1, gT, rsA, rs, allV, BV.fz, Nw.bv, R.bind, nox, gt, two, fAdd_int, fSub, fCmp, fLen, fList, fTuple, fInt, fAbs, fMax, fMin, fIx, fSlH, fSlL, fSl, fRev, fIs, fNeg, isNon, Option.bind_some, Option.map_some, List.set_cons_zero, List.set_cons_succ, List.map_cons, List.map_nil, List.cons_append, List.nil_append, List.replicate, List.length_cons, List.length_nil, Nat.zero_add, Nat.reduceAdd, if_true, ite_true, reduceIte, wipeE, Bool.true_or, Bool.false_or, Bool.true_and, Bool.false_and, Bool.not_true, Bool.not_false, Bool.false_eq_true, if_false] at hq
      simp only [M__law_same_, B__law_same, Nw.lf, lf, lfA_ints, SZ, Nat.reduceLeDiff, z1, z2, z3, z4, z5, z6, z7, z8, z9, z10, z11, z12, z13, z14, z15, z16, z17, z18, z19, z20, z21, z22, z23, z24, Nat.zero_le, fin, finI, mSeq, mIf, mRet, mRetN, mDrop, mSet, mAsg, mPar, mAug, mSetIx, mMe, mFor, mIs, mEn, mZa, mN, mK, mA0, mA1, mB, mT, mAnd, mOr, mNot, mAndV, mOrV, mNotV, mIfE, mCh, mTup, mLst, mFz1, mFzA, fzL, fz1, mCall, mCallI, mAp, mAd, mNeg, mYes, mLc, mNx, mBad, mRaise, mBk, mCt, stB, gN, gs0, gs1, gT, rsA, rs, allV, BV.fz, Nw.bv, R.bind, nox, gt, two, fAdd_int, fSub, fCmp, fLen, fList, fTuple, fInt, fAbs, fMax, fMin, fIx, fSlH, fSlL, fSl, fRev, fIs, fNeg, isNon, Option.bind_some, Option.map_some, List.set_cons_zero, List.set_cons_succ, List.map_cons, List.map_nil, List.cons_append, List.nil_append, List.replicate, List.length_cons, List.length_nil, Nat.zero_add, Nat.reduceAdd, if_true, ite_true, reduceIte, wipeE, Bool.true_or, Bool.false_or, Bool.true_and, Bool.false_and, Bool.not_true, Bool.not_false, Bool.false_eq_true, if_false, is2_lst, is_ll, fNe_bl, fEq_int, decide_true, hq, hf]
theorem e__law_same (d : D) (h : Pl 8 d) : M__law_same [d, d] = .ok (.v (.bl true)) := e__law_same_ 8 d h
end Mn
namespace Mn
open PySem Rg Rm
theorem pow_em (a p : Int) : ∀ n : Nat, (a % p) ^ n % p = a ^ n % p
  | 0 => by rw [Int.pow_zero, Int.pow_zero]
  | n + 1 => by rw [Int.pow_succ, Int.pow_succ, Int.mul_emod, pow_em a p n, Int.emod_emod_of_dvd _ (Int.dvd_refl p), ← Int.mul_emod]
theorem sq_pow (b : Int) : ∀ k : Nat, (b * b) ^ k = b ^ (2 * k)
  | 0 => by rw [Int.pow_zero, Nat.mul_zero, Int.pow_zero]
  | k + 1 => by
    have e : 2 * (k + 1) = 2 * k + 1 + 1 := by omega
    rw [Int.pow_succ, sq_pow b k, e, Int.pow_succ, Int.pow_succ, Int.mul_assoc]
theorem mod_bd {p : Int} (hp : 0 < p) (z : Int) : 0 ≤ z % p ∧ z % p < p := ⟨Int.emod_nonneg _ (by omega), Int.emod_lt_of_pos _ hp⟩
theorem w_raised (X : Sl) (p : Int) (hp : 0 < p) (hp2 : p ≤ 1000) : ∀ (n e : Nat) (f b : Int) (fuel : Nat), e < 2 ^ n → n < fuel → 0 ≤ f ∧ f < p → 0 ≤ b ∧ b < p →
    ∃ b', mWh Wc_raised_1 Wb_raised_1 fuel [X, .v (.int e), .v (.int p), .v (.int f), .v (.int b)] = .ok (.nx [X, .v (.int (0 : Nat)), .v (.int p), .v (.int (f * b ^ e % p)), .v (.int b')]) := by
  intro n
  induction n with
  | zero =>
    intro e f b fuel he hf h1 h2
    have : e = 0 := by omega
    subst this
    have hc : Wc_raised_1 [X, .v (.int (0 : Nat)), .v (.int p), .v (.int f), .v (.int b)] = .ok (false, [X, .v (.int (0 : Nat)), .v (.int p), .v (.int f), .v (.int b)]) := by
      simp only [Wc_raised_1, Nw.lf, lf, lfA_ints, SZ, Nat.reduceLeDiff, z1, z2, z3, z4, z5, z6, z7, z8, z9, z10, z11, z12, z13, z14, z15, z16, z17, z18, z19, z20, z21, z22, z23, z24, Nat.zero_le, fin, finI, mSeq, mIf, mRet, mRetN, mDrop, mSet, mAsg, mPar, mAug, mSetIx, mMe, mFor, mIs, mEn, mZa, mN, mK, mA0, mA1, mB, mT, mAnd, mOr, mNot, mAndV, mOrV, mNotV, mIfE, mCh, mTup, mLst, mFz1, mFzA, fzL, fz1, mCall, mCallI, mAp, mAd, mNeg, mYes, mLc, mNx, mBad, mRaise, mBk, mCt, stB, gN, gs0, gs1, gT, rsA, rs, allV, BV.fz, Nw.bv, R.bind, nox, gt, two, fAdd_int, fSub, fCmp, fLen, fList, fTuple, fInt, fAbs, fMax, fMin, fIx, fSlH, fSlL, fSl, fRev, fIs, fNeg, isNon, Option.bind_some, Option.map_some, List.set_cons_zero, List.set_cons_succ, List.map_cons, List.map_nil, List.cons_append, List.nil_append, List.replicate, List.length_cons, List.length_nil, Nat.zero_add, Nat.reduceAdd, if_true, ite_true, reduceIte, wipeE, Bool.true_or, Bool.false_or, Bool.true_and, Bool.false_and, Bool.not_true, Bool.not_false, Bool.false_eq_true, if_false]; simp
    rw [mWh_pos (by omega), hc]
    refine ⟨b, ?_⟩
    simp [R.bind, Int.emod_eq_of_lt h1.1 h1.2]
  | succ n ih =>
    intro e f b fuel he hf h1 h2
    by_cases h0 : e = 0
    · subst h0
      have hc : Wc_raised_1 [X, .v (.int (0 : Nat)), .v (.int p), .v (.int f), .v (.int b)] = .ok (false, [X, .v (.int (0 : Nat)), .v (.int p), .v (.int f), .v (.int b)]) := by
        simp only [Wc_raised_1, Nw.lf, lf, lfA_ints, SZ, Nat.reduceLeDiff, z1, z2, z3, z4, z5, z6, z7, z8, z9, z10, z11, z12, z13, z14, z15, z16, z17, z18, z19, z20, z21, z22, z23, z24, Nat.zero_le, fin, finI, mSeq, mIf, mRet, mRetN, mDrop, mSet, mAsg, mPar, mAug, mSetIx, mMe, mFor, mIs, mEn, mZa, mN, mK, mA0, mA1, mB, mT, mAnd, mOr, mNot, mAndV, mOrV, mNotV, mIfE, mCh, mTup, mLst, mFz1, mFzA, fzL, fz1, mCall, mCallI, mAp, mAd, mNeg, mYes, mLc, mNx, mBad, mRaise, mBk, mCt, stB, gN, gs0, gs1, gT, rsA, rs, allV, BV.fz, Nw.bv, R.bind, nox, gt, two, fAdd_int, fSub, fCmp, fLen, fList, fTuple, fInt, fAbs, fMax, fMin, fIx, fSlH, fSlL, fSl, fRev, fIs, fNeg, isNon, Option.bind_some, Option.map_some, List.set_cons_zero, List.set_cons_succ, List.map_cons, List.map_nil, List.cons_append, List.nil_append, List.replicate, List.length_cons, List.length_nil, Nat.zero_add, Nat.reduceAdd, if_true, ite_true, reduceIte, wipeE, Bool.true_or, Bool.false_or, Bool.true_and, Bool.false_and, Bool.not_true, Bool.not_false, Bool.false_eq_true, if_false]; simp
      rw [mWh_pos (by omega), hc]
      refine ⟨b, ?_⟩
      simp [R.bind, Int.emod_eq_of_lt h1.1 h1.2]
    · have hd : decide ((0 : Int) < (e : Int)) = true := by simp; omega
      have hc : Wc_raised_1 [X, .v (.int e), .v (.int p), .v (.int f), .v (.int b)] = .ok (true, [X, .v (.int e), .v (.int p), .v (.int f), .v (.int b)]) := by
        simp only [Wc_raised_1, Nw.lf, lf, lfA_ints, SZ, Nat.reduceLeDiff, z1, z2, z3, z4, z5, z6, z7, z8, z9, z10, z11, z12, z13, z14, z15, z16, z17, z18, z19, z20, z21, z22, z23, z24, Nat.zero_le, fin, finI, mSeq, mIf, mRet, mRetN, mDrop, mSet, mAsg, mPar, mAug, mSetIx, mMe, mFor, mIs, mEn, mZa, mN, mK, mA0, mA1, mB, mT, mAnd, mOr, mNot, mAndV, mOrV, mNotV, mIfE, mCh, mTup, mLst, mFz1, mFzA, fzL, fz1, mCall, mCallI, mAp, mAd, mNeg, mYes, mLc, mNx, mBad, mRaise, mBk, mCt, stB, gN, gs0, gs1, gT, rsA, rs, allV, BV.fz, Nw.bv, R.bind, nox, gt, two, fAdd_int, fSub, fCmp, fLen, fList, fTuple, fInt, fAbs, fMax, fMin, fIx, fSlH, fSlL, fSl, fRev, fIs, fNeg, isNon, Option.bind_some, Option.map_some, List.set_cons_zero, List.set_cons_succ, List.map_cons, List.map_nil, List.cons_append, List.nil_append, List.replicate, List.length_cons, List.length_nil, Nat.zero_add, Nat.reduceAdd, if_true, ite_true, reduceIte, wipeE, Bool.true_or, Bool.false_or, Bool.true_and, Bool.false_and, Bool.not_true, Bool.not_false, Bool.false_eq_true, if_false, hd]
      have hm : ∀ z : Int, fMod [.int z, .int p] = some (.v (.int (z % p))) := fun z => fMod_pos hp
      have hm2 : ∀ z : Int, fMod [.int z, .int 2] = some (.v (.int (z % 2))) := fun z => fMod_pos (by omega)
      have hq : fDiv [.int e, .int 2] = some (.v (.int (e / 2 : Nat))) := by rw [fDiv_pos (by omega) (by omega)]; rfl
      have hb1 := fMul_sm (i := f) (j := b) (by omega) (by omega)
      have hb2 := fMul_sm (i := b) (j := b) (by omega) (by omega)
      have half : e = 2 * (e / 2) + e % 2 := by omega
      have lt : e / 2 < 2 ^ n := by rw [Nat.pow_succ] at he; omega
      have sq : ∀ g : Int, g * (b * b % p) ^ (e / 2) % p = g * b ^ (2 * (e / 2)) % p := fun g => by
        rw [Int.mul_emod, pow_em, ← Int.mul_emod, sq_pow]
      rw [mWh_pos (by omega), hc]
      by_cases h3 : e % 2 = 1
      · have e1 : ((e : Int) % 2) = 1 := by omega
        have hb : Wb_raised_1 [X, .v (.int e), .v (.int p), .v (.int f), .v (.int b)] = .ok (.nx [X, .v (.int (e / 2 : Nat)), .v (.int p), .v (.int (f * b % p)), .v (.int (b * b % p))]) := by
          simp only [Wb_raised_1, Nw.lf, lf, lfA_ints, SZ, Nat.reduceLeDiff, z1, z2, z3, z4, z5, z6, z7, z8, z9, z10, z11, z12, z13, z14, z15, z16, z17, z18, z19, z20, z21, z22, z23, z24, Nat.zero_le, fin, finI, mSeq, mIf, mRet, mRetN, mDrop, mSet, mAsg, mPar, mAug, mSetIx, mMe, mFor, mIs, mEn, mZa, mN, mK, mA0, mA1, mB, mT, mAnd, mOr, mNot, mAndV, mOrV, mNotV, mIfE, mCh, mTup, mLst, mFz1, mFzA, fzL, fz1, mCall, mCallI, mAp, mAd, mNeg, mYes, mLc, mNx, mBad, mRaise, mBk, mCt, stB, gN, gs0, gs1, gT, rsA, rs, allV, BV.fz, Nw.bv, R.bind, nox, gt, two, fAdd_int, fSub, fCmp, fLen, fList, fTuple, fInt, fAbs, fMax, fMin, fIx, fSlH, fSlL, fSl, fRev, fIs, fNeg, isNon, Option.bind_some, Option.map_some, List.set_cons_zero, List.set_cons_succ, List.map_cons, List.map_nil, List.cons_append, List.nil_append, List.replicate, List.length_cons, List.length_nil, Nat.zero_add, Nat.reduceAdd, if_true, ite_true, reduceIte, wipeE, Bool.true_or, Bool.false_or, Bool.true_and, Bool.false_and, Bool.not_true, Bool.not_false, Bool.false_eq_true, if_false, hm2, e1, fEq_int, decide_true, hb1, hb2, hm, hq]
        obtain ⟨b', hi⟩ := ih (e / 2) (f * b % p) (b * b % p) (fuel - 1) lt (by omega) (mod_bd hp _) (mod_bd hp _)
        refine ⟨b', ?_⟩
        simp only [R.bind, if_true, hb]
        rw [hi, sq]
        have : f * b % p * b ^ (2 * (e / 2)) % p = f * b ^ e % p := by
          rw [Int.mul_emod, Int.emod_emod_of_dvd _ (Int.dvd_refl p), ← Int.mul_emod]
          have ep : b ^ e = b * b ^ (2 * (e / 2)) := by
            conv => lhs; rw [half, h3, Int.pow_succ]
            rw [Int.mul_comm]
          rw [ep, Int.mul_assoc]
        rw [this]
      · have e1 : ¬ ((e : Int) % 2) = 1 := by omega
        have hb : Wb_raised_1 [X, .v (.int e), .v (.int p), .v (.int f), .v (.int b)] = .ok (.nx [X, .v (.int (e / 2 : Nat)), .v (.int p), .v (.int f), .v (.int (b * b % p))]) := by
          simp only [Wb_raised_1, Nw.lf, lf, lfA_ints, SZ, Nat.reduceLeDiff, z1, z2, z3, z4, z5, z6, z7, z8, z9, z10, z11, z12, z13, z14, z15, z16, z17, z18, z19, z20, z21, z22, z23, z24, Nat.zero_le, fin, finI, mSeq, mIf, mRet, mRetN, mDrop, mSet, mAsg, mPar, mAug, mSetIx, mMe, mFor, mIs, mEn, mZa, mN, mK, mA0, mA1, mB, mT, mAnd, mOr, mNot, mAndV, mOrV, mNotV, mIfE, mCh, mTup, mLst, mFz1, mFzA, fzL, fz1, mCall, mCallI, mAp, mAd, mNeg, mYes, mLc, mNx, mBad, mRaise, mBk, mCt, stB, gN, gs0, gs1, gT, rsA, rs, allV, BV.fz, Nw.bv, R.bind, nox, gt, two, fAdd_int, fSub, fCmp, fLen, fList, fTuple, fInt, fAbs, fMax, fMin, fIx, fSlH, fSlL, fSl, fRev, fIs, fNeg, isNon, Option.bind_some, Option.map_some, List.set_cons_zero, List.set_cons_succ, List.map_cons, List.map_nil, List.cons_append, List.nil_append, List.replicate, List.length_cons, List.length_nil, Nat.zero_add, Nat.reduceAdd, if_true, ite_true, reduceIte, wipeE, Bool.true_or, Bool.false_or, Bool.true_and, Bool.false_and, Bool.not_true, Bool.not_false, Bool.false_eq_true, if_false, hm2, e1, fEq_int, decide_false, hb2, hm, hq]
        obtain ⟨b', hi⟩ := ih (e / 2) f (b * b % p) (fuel - 1) lt (by omega) h1 (mod_bd hp _)
        refine ⟨b', ?_⟩
        simp only [R.bind, if_true, hb]
        rw [hi, sq]
        have : 2 * (e / 2) = e := by omega
        rw [this]
theorem e_raised (x p : Int) (e : Nat) (hp : 2 ≤ p) (hp2 : p ≤ 1000) (hx : 0 ≤ x ∧ x < p) (he : e < 2 ^ 200) : M_raised [.int x, .int e, .int p] = .ok (.v (.int (x ^ e % p))) := by
  obtain ⟨b', hw⟩ := w_raised (.v (.int x)) p (by omega) hp2 200 e 1 x FUEL he (by unfold FUEL; omega) (by omega) hx
  rw [Int.one_mul] at hw
  simp only [M_raised, B_raised, Nw.lf, lf, lfA_ints, SZ, Nat.reduceLeDiff, z1, z2, z3, z4, z5, z6, z7, z8, z9, z10, z11, z12, z13, z14, z15, z16, z17, z18, z19, z20, z21, z22, z23, z24, Nat.zero_le, fin, finI, mSeq, mIf, mRet, mRetN, mDrop, mSet, mAsg, mPar, mAug, mSetIx, mMe, mFor, mIs, mEn, mZa, mN, mK, mA0, mA1, mB, mT, mAnd, mOr, mNot, mAndV, mOrV, mNotV, mIfE, mCh, mTup, mLst, mFz1, mFzA, fzL, fz1, mCall, mCallI, mAp, mAd, mNeg, mYes, mLc, mNx, mBad, mRaise, mBk, mCt, stB, gN, gs0, gs1, gT, rsA, rs, allV, BV.fz, Nw.bv, R.bind, nox, gt, two, fAdd_int, fSub, fCmp, fLen, fList, fTuple, fInt, fAbs, fMax, fMin, fIx, fSlH, fSlL, fSl, fRev, fIs, fNeg, isNon, Option.bind_some, Option.map_some, List.set_cons_zero, List.set_cons_succ, List.map_cons, List.map_nil, List.cons_append, List.nil_append, List.replicate, List.length_cons, List.length_nil, Nat.zero_add, Nat.reduceAdd, if_true, ite_true, reduceIte, wipeE, Bool.true_or, Bool.false_or, Bool.true_and, Bool.false_and, Bool.not_true, Bool.not_false, Bool.false_eq_true, if_false, hw]
def iv (p x : Int) : Int := x ^ (p - 2).toNat % p
theorem e_turned_over (x p : Int) (hp : 2 ≤ p) (hp2 : p ≤ 1000) (hx : 0 ≤ x ∧ x < p) : M_turned_over [.int x, .int p] = .ok (.v (.int (iv p x))) := by
  have e : p - 2 = ((p - 2).toNat : Int) := by omega
  have h := e_raised x p (p - 2).toNat hp hp2 hx (Nat.lt_of_lt_of_le (show (p - 2).toNat < 1000 by omega) (by decide))
  rw [← e] at h
  simp only [M_turned_over, B_turned_over, Nw.lf, lf, lfA_ints, SZ, Nat.reduceLeDiff, z1, z2, z3, z4, z5, z6, z7, z8, z9, z10, z11, z12, z13, z14, z15, z16, z17, z18, z19, z20, z21, z22, z23, z24, Nat.zero_le, fin, finI, mSeq, mIf, mRet, mRetN, mDrop, mSet, mAsg, mPar, mAug, mSetIx, mMe, mFor, mIs, mEn, mZa, mN, mK, mA0, mA1, mB, mT, mAnd, mOr, mNot, mAndV, mOrV, mNotV, mIfE, mCh, mTup, mLst, mFz1, mFzA, fzL, fz1, mCall, mCallI, mAp, mAd, mNeg, mYes, mLc, mNx, mBad, mRaise, mBk, mCt, stB, gN, gs0, gs1, gT, rsA, rs, allV, BV.fz, Nw.bv, R.bind, nox, gt, two, fAdd_int, fSub, fCmp, fLen, fList, fTuple, fInt, fAbs, fMax, fMin, fIx, fSlH, fSlL, fSl, fRev, fIs, fNeg, isNon, Option.bind_some, Option.map_some, List.set_cons_zero, List.set_cons_succ, List.map_cons, List.map_nil, List.cons_append, List.nil_append, List.replicate, List.length_cons, List.length_nil, Nat.zero_add, Nat.reduceAdd, if_true, ite_true, reduceIte, wipeE, Bool.true_or, Bool.false_or, Bool.true_and, Bool.false_and, Bool.not_true, Bool.not_false, Bool.false_eq_true, if_false, h, iv]
theorem iv_tab : ∀ p ∈ k_PRIMES, ∀ x ∈ (List.range p.toNat), x = 0 ∨ (x : Int) * iv p x % p = 1 := by decide +kernel
theorem iv_ok {p x : Int} (hp : p ∈ k_PRIMES) (h0 : 0 < x) (h1 : x < p) : x * iv p x % p = 1 ∧ 0 ≤ iv p x ∧ iv p x < p := by
  have h2 := pr_le p hp
  refine ⟨?_, mod_bd (by omega) _⟩
  obtain ⟨n, rfl⟩ := Int.eq_ofNat_of_zero_le (Int.le_of_lt h0)
  rcases iv_tab p hp n (List.mem_range.mpr (by omega)) with h | h
  · omega
  · exact h
theorem e_need_rest (x p : Int) (hp : p ∈ k_PRIMES) (hx : 0 ≤ x ∧ x < p) : M_need_rest [.int x, .int p] = .ok (.v .non) := by
  simp only [M_need_rest, B_need_rest, Nw.lf, lf, lfA_ints, SZ, Nat.reduceLeDiff, z1, z2, z3, z4, z5, z6, z7, z8, z9, z10, z11, z12, z13, z14, z15, z16, z17, z18, z19, z20, z21, z22, z23, z24, Nat.zero_le, fin, finI, mSeq, mIf, mRet, mRetN, mDrop, mSet, mAsg, mPar, mAug, mSetIx, mMe, mFor, mIs, mEn, mZa, mN, mK, mA0, mA1, mB, mT, mAnd, mOr, mNot, mAndV, mOrV, mNotV, mIfE, mCh, mTup, mLst, mFz1, mFzA, fzL, fz1, mCall, mCallI, mAp, mAd, mNeg, mYes, mLc, mNx, mBad, mRaise, mBk, mCt, stB, gN, gs0, gs1, gT, rsA, rs, allV, BV.fz, Nw.bv, R.bind, nox, gt, two, fAdd_int, fSub, fCmp, fLen, fList, fTuple, fInt, fAbs, fMax, fMin, fIx, fSlH, fSlL, fSl, fRev, fIs, fNeg, isNon, Option.bind_some, Option.map_some, List.set_cons_zero, List.set_cons_succ, List.map_cons, List.map_nil, List.cons_append, List.nil_append, List.replicate, List.length_cons, List.length_nil, Nat.zero_add, Nat.reduceAdd, if_true, ite_true, reduceIte, wipeE, Bool.true_or, Bool.false_or, Bool.true_and, Bool.false_and, Bool.not_true, Bool.not_false, Bool.false_eq_true, if_false, e_need_prime p hp, e_is_rest, hx.1, hx.2, decide_true]
theorem x_need_prime (p : Int) (h : p ∉ k_PRIMES) : M_need_prime [.int p] = .exc "BadPrime" [("word", .str "BadPrime")] := by
  have h' : k_PRIMES.contains p = false := by simpa using h
  simp only [M_need_prime, B_need_prime, Nw.lf, lf, lfA_ints, SZ, Nat.reduceLeDiff, z1, z2, z3, z4, z5, z6, z7, z8, z9, z10, z11, z12, z13, z14, z15, z16, z17, z18, z19, z20, z21, z22, z23, z24, Nat.zero_le, fin, finI, mSeq, mIf, mRet, mRetN, mDrop, mSet, mAsg, mPar, mAug, mSetIx, mMe, mFor, mIs, mEn, mZa, mN, mK, mA0, mA1, mB, mT, mAnd, mOr, mNot, mAndV, mOrV, mNotV, mIfE, mCh, mTup, mLst, mFz1, mFzA, fzL, fz1, mCall, mCallI, mAp, mAd, mNeg, mYes, mLc, mNx, mBad, mRaise, mBk, mCt, stB, gN, gs0, gs1, gT, rsA, rs, allV, BV.fz, Nw.bv, R.bind, nox, gt, two, fAdd_int, fSub, fCmp, fLen, fList, fTuple, fInt, fAbs, fMax, fMin, fIx, fSlH, fSlL, fSl, fRev, fIs, fNeg, isNon, Option.bind_some, Option.map_some, List.set_cons_zero, List.set_cons_succ, List.map_cons, List.map_nil, List.cons_append, List.nil_append, List.replicate, List.length_cons, List.length_nil, Nat.zero_add, Nat.reduceAdd, if_true, ite_true, reduceIte, wipeE, Bool.true_or, Bool.false_or, Bool.true_and, Bool.false_and, Bool.not_true, Bool.not_false, Bool.false_eq_true, if_false, e_is_prime, h', List.zip_nil_left, List.reverse_nil]
theorem x_need_rest (x p : Int) (h : p ∉ k_PRIMES) : M_need_rest [.int x, .int p] = .exc "BadPrime" [("word", .str "BadPrime")] := by
  simp only [M_need_rest, B_need_rest, Nw.lf, lf, lfA_ints, SZ, Nat.reduceLeDiff, z1, z2, z3, z4, z5, z6, z7, z8, z9, z10, z11, z12, z13, z14, z15, z16, z17, z18, z19, z20, z21, z22, z23, z24, Nat.zero_le, fin, finI, mSeq, mIf, mRet, mRetN, mDrop, mSet, mAsg, mPar, mAug, mSetIx, mMe, mFor, mIs, mEn, mZa, mN, mK, mA0, mA1, mB, mT, mAnd, mOr, mNot, mAndV, mOrV, mNotV, mIfE, mCh, mTup, mLst, mFz1, mFzA, fzL, fz1, mCall, mCallI, mAp, mAd, mNeg, mYes, mLc, mNx, mBad, mRaise, mBk, mCt, stB, gN, gs0, gs1, gT, rsA, rs, allV, BV.fz, Nw.bv, R.bind, nox, gt, two, fAdd_int, fSub, fCmp, fLen, fList, fTuple, fInt, fAbs, fMax, fMin, fIx, fSlH, fSlL, fSl, fRev, fIs, fNeg, isNon, Option.bind_some, Option.map_some, List.set_cons_zero, List.set_cons_succ, List.map_cons, List.map_nil, List.cons_append, List.nil_append, List.replicate, List.length_cons, List.length_nil, Nat.zero_add, Nat.reduceAdd, if_true, ite_true, reduceIte, wipeE, Bool.true_or, Bool.false_or, Bool.true_and, Bool.false_and, Bool.not_true, Bool.not_false, Bool.false_eq_true, if_false, x_need_prime p h]
theorem y_need_rest (x p : Int) (hp : p ∈ k_PRIMES) (h : ¬ (0 ≤ x ∧ x < p)) : M_need_rest [.int x, .int p] = .exc "BadRest" [("word", .str "BadRest")] := by
  have : (decide (0 ≤ x) && decide (x < p)) = false := by
    by_cases h1 : 0 ≤ x <;> by_cases h2 : x < p <;> simp [h1, h2]
    exact h ⟨h1, h2⟩
  simp only [M_need_rest, B_need_rest, Nw.lf, lf, lfA_ints, SZ, Nat.reduceLeDiff, z1, z2, z3, z4, z5, z6, z7, z8, z9, z10, z11, z12, z13, z14, z15, z16, z17, z18, z19, z20, z21, z22, z23, z24, Nat.zero_le, fin, finI, mSeq, mIf, mRet, mRetN, mDrop, mSet, mAsg, mPar, mAug, mSetIx, mMe, mFor, mIs, mEn, mZa, mN, mK, mA0, mA1, mB, mT, mAnd, mOr, mNot, mAndV, mOrV, mNotV, mIfE, mCh, mTup, mLst, mFz1, mFzA, fzL, fz1, mCall, mCallI, mAp, mAd, mNeg, mYes, mLc, mNx, mBad, mRaise, mBk, mCt, stB, gN, gs0, gs1, gT, rsA, rs, allV, BV.fz, Nw.bv, R.bind, nox, gt, two, fAdd_int, fSub, fCmp, fLen, fList, fTuple, fInt, fAbs, fMax, fMin, fIx, fSlH, fSlL, fSl, fRev, fIs, fNeg, isNon, Option.bind_some, Option.map_some, List.set_cons_zero, List.set_cons_succ, List.map_cons, List.map_nil, List.cons_append, List.nil_append, List.replicate, List.length_cons, List.length_nil, Nat.zero_add, Nat.reduceAdd, if_true, ite_true, reduceIte, wipeE, Bool.true_or, Bool.false_or, Bool.true_and, Bool.false_and, Bool.not_true, Bool.not_false, Bool.false_eq_true, if_false, e_need_prime p hp, e_is_rest, this, List.zip_nil_left, List.reverse_nil]
theorem e_undone (x p : Int) (hp : p ∈ k_PRIMES) (hx : 0 < x ∧ x < p) : M_undone [.int x, .int p] = .ok (.v (.int (iv p x))) := by
  have h2 := pr_le p hp
  have h0 : ¬ x = 0 := by omega
  have h := e_turned_over x p (by omega) (by omega) (by omega)
  simp only [M_undone, B_undone, Nw.lf, lf, lfA_ints, SZ, Nat.reduceLeDiff, z1, z2, z3, z4, z5, z6, z7, z8, z9, z10, z11, z12, z13, z14, z15, z16, z17, z18, z19, z20, z21, z22, z23, z24, Nat.zero_le, fin, finI, mSeq, mIf, mRet, mRetN, mDrop, mSet, mAsg, mPar, mAug, mSetIx, mMe, mFor, mIs, mEn, mZa, mN, mK, mA0, mA1, mB, mT, mAnd, mOr, mNot, mAndV, mOrV, mNotV, mIfE, mCh, mTup, mLst, mFz1, mFzA, fzL, fz1, mCall, mCallI, mAp, mAd, mNeg, mYes, mLc, mNx, mBad, mRaise, mBk, mCt, stB, gN, gs0, gs1, gT, rsA, rs, allV, BV.fz, Nw.bv, R.bind, nox, gt, two, fAdd_int, fSub, fCmp, fLen, fList, fTuple, fInt, fAbs, fMax, fMin, fIx, fSlH, fSlL, fSl, fRev, fIs, fNeg, isNon, Option.bind_some, Option.map_some, List.set_cons_zero, List.set_cons_succ, List.map_cons, List.map_nil, List.cons_append, List.nil_append, List.replicate, List.length_cons, List.length_nil, Nat.zero_add, Nat.reduceAdd, if_true, ite_true, reduceIte, wipeE, Bool.true_or, Bool.false_or, Bool.true_and, Bool.false_and, Bool.not_true, Bool.not_false, Bool.false_eq_true, if_false, e_need_rest x p hp (by omega), fEq_int, h0, decide_false, h]
theorem x_undone (x p : Int) (h : p ∉ k_PRIMES) : M_undone [.int x, .int p] = .exc "BadPrime" [("word", .str "BadPrime")] := by
  simp only [M_undone, B_undone, Nw.lf, lf, lfA_ints, SZ, Nat.reduceLeDiff, z1, z2, z3, z4, z5, z6, z7, z8, z9, z10, z11, z12, z13, z14, z15, z16, z17, z18, z19, z20, z21, z22, z23, z24, Nat.zero_le, fin, finI, mSeq, mIf, mRet, mRetN, mDrop, mSet, mAsg, mPar, mAug, mSetIx, mMe, mFor, mIs, mEn, mZa, mN, mK, mA0, mA1, mB, mT, mAnd, mOr, mNot, mAndV, mOrV, mNotV, mIfE, mCh, mTup, mLst, mFz1, mFzA, fzL, fz1, mCall, mCallI, mAp, mAd, mNeg, mYes, mLc, mNx, mBad, mRaise, mBk, mCt, stB, gN, gs0, gs1, gT, rsA, rs, allV, BV.fz, Nw.bv, R.bind, nox, gt, two, fAdd_int, fSub, fCmp, fLen, fList, fTuple, fInt, fAbs, fMax, fMin, fIx, fSlH, fSlL, fSl, fRev, fIs, fNeg, isNon, Option.bind_some, Option.map_some, List.set_cons_zero, List.set_cons_succ, List.map_cons, List.map_nil, List.cons_append, List.nil_append, List.replicate, List.length_cons, List.length_nil, Nat.zero_add, Nat.reduceAdd, if_true, ite_true, reduceIte, wipeE, Bool.true_or, Bool.false_or, Bool.true_and, Bool.false_and, Bool.not_true, Bool.not_false, Bool.false_eq_true, if_false, x_need_rest x p h]
theorem y_undone (x p : Int) (hp : p ∈ k_PRIMES) (h : ¬ (0 ≤ x ∧ x < p)) : M_undone [.int x, .int p] = .exc "BadRest" [("word", .str "BadRest")] := by
  simp only [M_undone, B_undone, Nw.lf, lf, lfA_ints, SZ, Nat.reduceLeDiff, z1, z2, z3, z4, z5, z6, z7, z8, z9, z10, z11, z12, z13, z14, z15, z16, z17, z18, z19, z20, z21, z22, z23, z24, Nat.zero_le, fin, finI, mSeq, mIf, mRet, mRetN, mDrop, mSet, mAsg, mPar, mAug, mSetIx, mMe, mFor, mIs, mEn, mZa, mN, mK, mA0, mA1, mB, mT, mAnd, mOr, mNot, mAndV, mOrV, mNotV, mIfE, mCh, mTup, mLst, mFz1, mFzA, fzL, fz1, mCall, mCallI, mAp, mAd, mNeg, mYes, mLc, mNx, mBad, mRaise, mBk, mCt, stB, gN, gs0, gs1, gT, rsA, rs, allV, BV.fz, Nw.bv, R.bind, nox, gt, two, fAdd_int, fSub, fCmp, fLen, fList, fTuple, fInt, fAbs, fMax, fMin, fIx, fSlH, fSlL, fSl, fRev, fIs, fNeg, isNon, Option.bind_some, Option.map_some, List.set_cons_zero, List.set_cons_succ, List.map_cons, List.map_nil, List.cons_append, List.nil_append, List.replicate, List.length_cons, List.length_nil, Nat.zero_add, Nat.reduceAdd, if_true, ite_true, reduceIte, wipeE, Bool.true_or, Bool.false_or, Bool.true_and, Bool.false_and, Bool.not_true, Bool.not_false, Bool.false_eq_true, if_false, y_need_rest x p hp h]
theorem z_undone (p : Int) (hp : p ∈ k_PRIMES) : M_undone [.int 0, .int p] = .exc "NoInverse" [("word", .str "NoInverse")] := by
  have h2 := pr_le p hp
  simp only [M_undone, B_undone, Nw.lf, lf, lfA_ints, SZ, Nat.reduceLeDiff, z1, z2, z3, z4, z5, z6, z7, z8, z9, z10, z11, z12, z13, z14, z15, z16, z17, z18, z19, z20, z21, z22, z23, z24, Nat.zero_le, fin, finI, mSeq, mIf, mRet, mRetN, mDrop, mSet, mAsg, mPar, mAug, mSetIx, mMe, mFor, mIs, mEn, mZa, mN, mK, mA0, mA1, mB, mT, mAnd, mOr, mNot, mAndV, mOrV, mNotV, mIfE, mCh, mTup, mLst, mFz1, mFzA, fzL, fz1, mCall, mCallI, mAp, mAd, mNeg, mYes, mLc, mNx, mBad, mRaise, mBk, mCt, stB, gN, gs0, gs1, gT, rsA, rs, allV, BV.fz, Nw.bv, R.bind, nox, gt, two, fAdd_int, fSub, fCmp, fLen, fList, fTuple, fInt, fAbs, fMax, fMin, fIx, fSlH, fSlL, fSl, fRev, fIs, fNeg, isNon, Option.bind_some, Option.map_some, List.set_cons_zero, List.set_cons_succ, List.map_cons, List.map_nil, List.cons_append, List.nil_append, List.replicate, List.length_cons, List.length_nil, Nat.zero_add, Nat.reduceAdd, if_true, ite_true, reduceIte, wipeE, Bool.true_or, Bool.false_or, Bool.true_and, Bool.false_and, Bool.not_true, Bool.not_false, Bool.false_eq_true, if_false, e_need_rest 0 p hp (by omega), fEq_int, decide_true, List.zip_nil_left, List.reverse_nil]
theorem e_powered (x p : Int) (e : Nat) (hp : p ∈ k_PRIMES) (hx : 0 ≤ x ∧ x < p) (he : e < 2 ^ 200) : M_powered [.int x, .int e, .int p] = .ok (.v (.int (x ^ e % p))) := by
  have h2 := pr_le p hp
  have hd : decide ((0 : Int) ≤ (e : Int)) = true := by simp
  have h := e_raised x p e (by omega) (by omega) hx he
  simp only [M_powered, B_powered, Nw.lf, lf, lfA_ints, SZ, Nat.reduceLeDiff, z1, z2, z3, z4, z5, z6, z7, z8, z9, z10, z11, z12, z13, z14, z15, z16, z17, z18, z19, z20, z21, z22, z23, z24, Nat.zero_le, fin, finI, mSeq, mIf, mRet, mRetN, mDrop, mSet, mAsg, mPar, mAug, mSetIx, mMe, mFor, mIs, mEn, mZa, mN, mK, mA0, mA1, mB, mT, mAnd, mOr, mNot, mAndV, mOrV, mNotV, mIfE, mCh, mTup, mLst, mFz1, mFzA, fzL, fz1, mCall, mCallI, mAp, mAd, mNeg, mYes, mLc, mNx, mBad, mRaise, mBk, mCt, stB, gN, gs0, gs1, gT, rsA, rs, allV, BV.fz, Nw.bv, R.bind, nox, gt, two, fAdd_int, fSub, fCmp, fLen, fList, fTuple, fInt, fAbs, fMax, fMin, fIx, fSlH, fSlL, fSl, fRev, fIs, fNeg, isNon, Option.bind_some, Option.map_some, List.set_cons_zero, List.set_cons_succ, List.map_cons, List.map_nil, List.cons_append, List.nil_append, List.replicate, List.length_cons, List.length_nil, Nat.zero_add, Nat.reduceAdd, if_true, ite_true, reduceIte, wipeE, Bool.true_or, Bool.false_or, Bool.true_and, Bool.false_and, Bool.not_true, Bool.not_false, Bool.false_eq_true, if_false, e_need_rest x p hp hx, hd, h]
theorem e_powered' (x p z : Int) (e : Nat) (hz : z = -(e : Int)) (h0 : 0 < e) (hp : p ∈ k_PRIMES) (hx : 0 < x ∧ x < p) (he : e < 2 ^ 200) : M_powered [.int x, .int z, .int p] = .ok (.v (.int (iv p x ^ e % p))) := by
  have h2 := pr_le p hp
  have hd : ¬ (0 : Int) ≤ z := by omega
  have h0 : ¬ x = 0 := by omega
  have hi := iv_ok hp hx.1 hx.2
  have ht := e_turned_over x p (by omega) (by omega) (by omega)
  have h := e_raised (iv p x) p e (by omega) (by omega) hi.2 he
  have ez : (0 : Int) - z = e := by omega
  simp only [M_powered, B_powered, Nw.lf, lf, lfA_ints, SZ, Nat.reduceLeDiff, z1, z2, z3, z4, z5, z6, z7, z8, z9, z10, z11, z12, z13, z14, z15, z16, z17, z18, z19, z20, z21, z22, z23, z24, Nat.zero_le, fin, finI, mSeq, mIf, mRet, mRetN, mDrop, mSet, mAsg, mPar, mAug, mSetIx, mMe, mFor, mIs, mEn, mZa, mN, mK, mA0, mA1, mB, mT, mAnd, mOr, mNot, mAndV, mOrV, mNotV, mIfE, mCh, mTup, mLst, mFz1, mFzA, fzL, fz1, mCall, mCallI, mAp, mAd, mNeg, mYes, mLc, mNx, mBad, mRaise, mBk, mCt, stB, gN, gs0, gs1, gT, rsA, rs, allV, BV.fz, Nw.bv, R.bind, nox, gt, two, fAdd_int, fSub, fCmp, fLen, fList, fTuple, fInt, fAbs, fMax, fMin, fIx, fSlH, fSlL, fSl, fRev, fIs, fNeg, isNon, Option.bind_some, Option.map_some, List.set_cons_zero, List.set_cons_succ, List.map_cons, List.map_nil, List.cons_append, List.nil_append, List.replicate, List.length_cons, List.length_nil, Nat.zero_add, Nat.reduceAdd, if_true, ite_true, reduceIte, wipeE, Bool.true_or, Bool.false_or, Bool.true_and, Bool.false_and, Bool.not_true, Bool.not_false, Bool.false_eq_true, if_false, e_need_rest x p hp (by omega), hd, decide_false, fEq_int, h0, ht, ez, h]
theorem x_powered (x z p : Int) (h : p ∉ k_PRIMES) : M_powered [.int x, .int z, .int p] = .exc "BadPrime" [("word", .str "BadPrime")] := by
  simp only [M_powered, B_powered, Nw.lf, lf, lfA_ints, SZ, Nat.reduceLeDiff, z1, z2, z3, z4, z5, z6, z7, z8, z9, z10, z11, z12, z13, z14, z15, z16, z17, z18, z19, z20, z21, z22, z23, z24, Nat.zero_le, fin, finI, mSeq, mIf, mRet, mRetN, mDrop, mSet, mAsg, mPar, mAug, mSetIx, mMe, mFor, mIs, mEn, mZa, mN, mK, mA0, mA1, mB, mT, mAnd, mOr, mNot, mAndV, mOrV, mNotV, mIfE, mCh, mTup, mLst, mFz1, mFzA, fzL, fz1, mCall, mCallI, mAp, mAd, mNeg, mYes, mLc, mNx, mBad, mRaise, mBk, mCt, stB, gN, gs0, gs1, gT, rsA, rs, allV, BV.fz, Nw.bv, R.bind, nox, gt, two, fAdd_int, fSub, fCmp, fLen, fList, fTuple, fInt, fAbs, fMax, fMin, fIx, fSlH, fSlL, fSl, fRev, fIs, fNeg, isNon, Option.bind_some, Option.map_some, List.set_cons_zero, List.set_cons_succ, List.map_cons, List.map_nil, List.cons_append, List.nil_append, List.replicate, List.length_cons, List.length_nil, Nat.zero_add, Nat.reduceAdd, if_true, ite_true, reduceIte, wipeE, Bool.true_or, Bool.false_or, Bool.true_and, Bool.false_and, Bool.not_true, Bool.not_false, Bool.false_eq_true, if_false, x_need_rest x p h]
theorem y_powered (x z p : Int) (hp : p ∈ k_PRIMES) (h : ¬ (0 ≤ x ∧ x < p)) : M_powered [.int x, .int z, .int p] = .exc "BadRest" [("word", .str "BadRest")] := by
  simp only [M_powered, B_powered, Nw.lf, lf, lfA_ints, SZ, Nat.reduceLeDiff, z1, z2, z3, z4, z5, z6, z7, z8, z9, z10, z11, z12, z13, z14, z15, z16, z17, z18, z19, z20, z21, z22, z23, z24, Nat.zero_le, fin, finI, mSeq, mIf, mRet, mRetN, mDrop, mSet, mAsg, mPar, mAug, mSetIx, mMe, mFor, mIs, mEn, mZa, mN, mK, mA0, mA1, mB, mT, mAnd, mOr, mNot, mAndV, mOrV, mNotV, mIfE, mCh, mTup, mLst, mFz1, mFzA, fzL, fz1, mCall, mCallI, mAp, mAd, mNeg, mYes, mLc, mNx, mBad, mRaise, mBk, mCt, stB, gN, gs0, gs1, gT, rsA, rs, allV, BV.fz, Nw.bv, R.bind, nox, gt, two, fAdd_int, fSub, fCmp, fLen, fList, fTuple, fInt, fAbs, fMax, fMin, fIx, fSlH, fSlL, fSl, fRev, fIs, fNeg, isNon, Option.bind_some, Option.map_some, List.set_cons_zero, List.set_cons_succ, List.map_cons, List.map_nil, List.cons_append, List.nil_append, List.replicate, List.length_cons, List.length_nil, Nat.zero_add, Nat.reduceAdd, if_true, ite_true, reduceIte, wipeE, Bool.true_or, Bool.false_or, Bool.true_and, Bool.false_and, Bool.not_true, Bool.not_false, Bool.false_eq_true, if_false, y_need_rest x p hp h]
theorem z_powered (z p : Int) (hp : p ∈ k_PRIMES) (hz : z < 0) : M_powered [.int 0, .int z, .int p] = .exc "NoInverse" [("word", .str "NoInverse")] := by
  have h2 := pr_le p hp
  have hd : ¬ (0 : Int) ≤ z := by omega
  simp only [M_powered, B_powered, Nw.lf, lf, lfA_ints, SZ, Nat.reduceLeDiff, z1, z2, z3, z4, z5, z6, z7, z8, z9, z10, z11, z12, z13, z14, z15, z16, z17, z18, z19, z20, z21, z22, z23, z24, Nat.zero_le, fin, finI, mSeq, mIf, mRet, mRetN, mDrop, mSet, mAsg, mPar, mAug, mSetIx, mMe, mFor, mIs, mEn, mZa, mN, mK, mA0, mA1, mB, mT, mAnd, mOr, mNot, mAndV, mOrV, mNotV, mIfE, mCh, mTup, mLst, mFz1, mFzA, fzL, fz1, mCall, mCallI, mAp, mAd, mNeg, mYes, mLc, mNx, mBad, mRaise, mBk, mCt, stB, gN, gs0, gs1, gT, rsA, rs, allV, BV.fz, Nw.bv, R.bind, nox, gt, two, fAdd_int, fSub, fCmp, fLen, fList, fTuple, fInt, fAbs, fMax, fMin, fIx, fSlH, fSlL, fSl, fRev, fIs, fNeg, isNon, Option.bind_some, Option.map_some, List.set_cons_zero, List.set_cons_succ, List.map_cons, List.map_nil, List.cons_append, List.nil_append, List.replicate, List.length_cons, List.length_nil, Nat.zero_add, Nat.reduceAdd, if_true, ite_true, reduceIte, wipeE, Bool.true_or, Bool.false_or, Bool.true_and, Bool.false_and, Bool.not_true, Bool.not_false, Bool.false_eq_true, if_false, e_need_rest 0 p hp (by omega), hd, decide_false, fEq_int, decide_true, List.zip_nil_left, List.reverse_nil]
end Mn
namespace Rg
open PySem
theorem mLcL_filt {α : Type} (g h : α → D) (q : α → Bool) {f : D → Env → Option Env} {t : Env → R (Bool × Env)} {e : Env → R (BV × Env)} {vs : List Nat} {Γ0 : Env} : ∀ (xs : List α) (acc : List D), (∀ x ∈ xs, ∃ Γ1 Γ2, f (g x) Γ0 = some Γ1 ∧ t Γ1 = .ok (q x, Γ2) ∧ (q x = true → ∃ Γ3, mFz1 e Γ2 = .ok (h x, Γ3) ∧ wipeE Γ3 vs = Γ0) ∧ (q x = false → wipeE Γ2 vs = Γ0)) → acc.length + xs.length ≤ SZ →
    mLcL f t e vs (xs.map g) Γ0 acc = .ok (acc ++ (xs.filter q).map h, Γ0)
  | [], acc, _, _ => by simp [mLcL]
  | x :: xs, acc, hx, hl => by
    obtain ⟨Γ1, Γ2, h1, h2, h3, h4⟩ := hx x (List.mem_cons_self ..)
    simp only [List.length_cons] at hl
    have ih := fun acc hl => mLcL_filt g h q (e := e) (vs := vs) xs acc (fun y hy => hx y (List.mem_cons_of_mem _ hy)) hl
    cases hq : q x with
    | true =>
      obtain ⟨Γ3, h5, h6⟩ := h3 hq
      rw [List.filter_cons_of_pos hq]
      simp only [List.map_cons, mLcL, h1, h2, hq, nox, R.bind, if_true, h5, h6]
      rw [if_pos (by omega), ih (acc ++ [h x]) (by simp; omega)]
      simp
    | false =>
      rw [List.filter_cons_of_neg (by rw [hq]; simp)]
      simp only [List.map_cons, mLcL, h1, h2, hq, nox, R.bind, if_false, Bool.false_eq_true, h4 hq]
      exact ih acc (by omega)
theorem mLc_filt {α : Type} (g h : α → D) (q : α → Bool) (xs : List α) {mi : Env → R (List D × Env)} {f : D → Env → Option Env} {t : Env → R (Bool × Env)} {e : Env → R (BV × Env)} {vs : List Nat} {Γ Γ1 : Env} (hi : mi Γ = .ok (xs.map g, Γ1)) (hl : xs.length ≤ 1000000)
    (hx : ∀ x ∈ xs, ∃ Γ2 Γ3, f (g x) (wipeE Γ1 vs) = some Γ2 ∧ t Γ2 = .ok (q x, Γ3) ∧ (q x = true → ∃ Γ4, mFz1 e Γ3 = .ok (h x, Γ4) ∧ wipeE Γ4 vs = wipeE Γ1 vs) ∧ (q x = false → wipeE Γ3 vs = wipeE Γ1 vs)) : mLc mi f t e vs Γ = .ok (.o ((xs.filter q).map h), wipeE Γ1 vs) := by
  simp only [mLc, hi, R.bind]
  rw [mLcL_filt g h q xs [] hx (by unfold SZ; simp; omega)]
  simp
theorem mR2_n {ma : Env → R (List BV × Env)} {Γ Γ1 : Env} {i j : Int} (h : mFzA ma Γ = .ok ([.int i, .int j], Γ1)) (h1 : -1000000000 ≤ i ∧ i ≤ 1000000000) (h2 : -1000000000 ≤ j ∧ j ≤ 1000000000) : mR2 ma Γ = .ok (rngD i 1 (j - i).toNat, Γ1) := by
  simp only [mR2, h, R.bind]
  rw [if_pos ⟨by omega, by omega, by omega, by omega⟩]
theorem mR3_n {ma : Env → R (List BV × Env)} {Γ Γ1 : Env} {i j : Int} (h : mFzA ma Γ = .ok ([.int i, .int j, .int (-1)], Γ1)) (h1 : -1000000000 ≤ i ∧ i ≤ 1000000000) (h2 : -1000000000 ≤ j ∧ j ≤ 1000000000) : mR3 ma Γ = .ok (rngD i (-1) (i - j).toNat, Γ1) := by
  simp only [mR3, h, R.bind]
  rw [if_pos ⟨by omega, by omega, by omega, by omega, by first | rfl | trivial⟩]
theorem fPow_n (i : Int) (n : Nat) (z : Int) (h1 : n ≤ 1000000) (h2 : i.natAbs < 2 ^ 64) (hz : i ^ n = z) : fPow [.int i, .int (n : Int)] = some (.v (.int z)) := by
  have h : (0 : Int) ≤ (n : Int) ∧ (n : Int) ≤ 1000000 ∧ i.natAbs < 2 ^ 64 := ⟨by omega, by omega, h2⟩
  simp only [fPow, if_pos h]
  rw [Int.toNat_natCast, hz]
theorem pow20 : fPow [.int 10, .int 20] = some (.v (.int 100000000000000000000)) := fPow_n 10 20 _ (by decide) (by decide) (by decide)
theorem pow9 : fPow [.int 10, .int 9] = some (.v (.int 1000000000)) := fPow_n 10 9 _ (by decide) (by decide) (by decide)
theorem pow6 : fPow [.int 10, .int 6] = some (.v (.int 1000000)) := fPow_n 10 6 _ (by decide) (by decide) (by decide)
theorem pow39 : fPow [.int 10, .int 39] = some (.v (.int 1000000000000000000000000000000000000000)) := fPow_n 10 39 _ (by decide) (by decide) (by decide)
theorem mSeq_nx {a b : Env → R Fl} {Γ Γ1 : Env} (h : a Γ = .ok (.nx Γ1)) : mSeq a b Γ = b Γ1 := by simp only [mSeq, h, R.bind]
theorem mSet_v {i : Nat} {m : Env → R (BV × Env)} {Γ Γ1 : Env} {d : D} (h : m Γ = .ok (.v d, Γ1)) : mSet i m Γ = .ok (.nx (Γ1.set i (.v d))) := by simp only [mSet, h, R.bind, stB]
theorem pair_exc {kn : List Str} {m : Env → R (BV × Env)} {Γ : Env} {c : Str} (h : mFz1 m (hide Γ) = .exc c [("word", .str c)]) (hk : kn.contains c = true) (hi : whyIx c = 7) : mPair kn m Γ = .ok (.str c, .non) := by
  simp only [mPair, h, hk, if_true, hi, whyP]
  rfl
theorem pair_ok {kn : List Str} {m : Env → R (BV × Env)} {Γ Γ' : Env} {d : D} (h : mFz1 m (hide Γ) = .ok (d, Γ')) : mPair kn m Γ = .ok (.str "told", d) := by simp only [mPair, h]
theorem mFz1_x {e : Env → R (BV × Env)} {Γ : Env} {c : Str} {fs : List (Str × D)} (h : e Γ = .exc c fs) : mFz1 e Γ = .exc c fs := by simp [mFz1, h, R.bind]
theorem mN_v {i : Nat} {Γ : Env} {d : D} (h : gt Γ i = .v d) : mN i Γ = .ok (.v d, Γ) := by simp [mN, h]
theorem gt_hv {i : Nat} {Γ : Env} {d : D} (h : gt Γ i = .v d) : gt (hide Γ) i = .v d := by rw [gt_hide, h]; rfl
end Rg
namespace Mn
open PySem Rg Rm
theorem bk_tab : ∀ p ∈ k_PRIMES, ∀ x ∈ List.range p.toNat, x = 0 ∨ (((List.range (p - 1).toNat).filter (fun (k : Nat) => decide ((1 + (k : Int) * 1) * (x : Int) % p = 1))).map (fun (k : Nat) => 1 + (k : Int) * 1))[0]? = some (iv p x) := by decide +kernel
theorem e__law_back (x p : Int) (hp : p ∈ k_PRIMES) (h0 : 0 < x) (h1 : x < p) : M__law_back [.int x, .int p] = .ok (.v (.int (iv p x))) := by
  have h2 := pr_le p hp
  obtain ⟨n, rfl⟩ := Int.eq_ofNat_of_zero_le (Int.le_of_lt h0)
  have ht := (bk_tab p hp n (List.mem_range.mpr (by omega))).resolve_left (by omega)
  have hl := mLc_filt (fun k : Nat => .int (1 + (k : Int) * 1)) (fun k : Nat => .int (1 + (k : Int) * 1)) (fun k : Nat => decide ((1 + (k : Int) * 1) * (n : Int) % p = 1)) (List.range (p - 1).toNat) (mi := mR2 (mA1 (mK (.int 1)) (mA1 (mN 1) mA0))) (f := gN 2) (t := Lt__law_back_1) (e := Le__law_back_1) (vs := [2])
    (Γ := [.v (.int n), .v (.int p), .no]) (Γ1 := [.v (.int n), .v (.int p), .no])
    (by rw [mR2_n (i := 1) (j := p) (Γ1 := [.v (.int n), .v (.int p), .no]) (by simp only [Nw.lf, lf, lfA_ints, SZ, Nat.reduceLeDiff, z1, z2, z3, z4, z5, z6, z7, z8, z9, z10, z11, z12, z13, z14, z15, z16, z17, z18, z19, z20, z21, z22, z23, z24, Nat.zero_le, fin, finI, mSeq, mIf, mRet, mRetN, mDrop, mSet, mAsg, mPar, mAug, mSetIx, mMe, mFor, mIs, mEn, mZa, mN, mK, mA0, mA1, mB, mT, mAnd, mOr, mNot, mAndV, mOrV, mNotV, mIfE, mCh, mTup, mLst, mFz1, mFzA, fzL, fz1, mCall, mCallI, mAp, mAd, mNeg, mYes, mLc, mNx, mBad, mRaise, mBk, mCt, stB, gN, gs0, gs1, gT, rsA, rs, allV, BV.fz, Nw.bv, R.bind, nox, gt, two, fAdd_int, fSub, fCmp, fLen, fList, fTuple, fInt, fAbs, fMax, fMin, fIx, fSlH, fSlL, fSl, fRev, fIs, fNeg, isNon, Option.bind_some, Option.map_some, List.set_cons_zero, List.set_cons_succ, List.map_cons, List.map_nil, List.cons_append, List.nil_append, List.replicate, List.length_cons, List.length_nil, Nat.zero_add, Nat.reduceAdd, if_true, ite_true, reduceIte, wipeE, Bool.true_or, Bool.false_or, Bool.true_and, Bool.false_and, Bool.not_true, Bool.not_false, Bool.false_eq_true, if_false]) (by omega) (by omega)]; rfl) (by simp; omega)
    (fun k hk => by
      have hk := List.mem_range.mp hk
      have hm := fMul_sm (i := 1 + (k : Int) * 1) (j := n) (by omega) (by omega)
      refine ⟨[.v (.int n), .v (.int p), .v (.int (1 + (k : Int) * 1))], [.v (.int n), .v (.int p), .v (.int (1 + (k : Int) * 1))], rfl, ?_, fun _ => ⟨_, by simp only [Le__law_back_1, Nw.lf, lf, lfA_ints, SZ, Nat.reduceLeDiff, z1, z2, z3, z4, z5, z6, z7, z8, z9, z10, z11, z12, z13, z14, z15, z16, z17, z18, z19, z20, z21, z22, z23, z24, Nat.zero_le, fin, finI, mSeq, mIf, mRet, mRetN, mDrop, mSet, mAsg, mPar, mAug, mSetIx, mMe, mFor, mIs, mEn, mZa, mN, mK, mA0, mA1, mB, mT, mAnd, mOr, mNot, mAndV, mOrV, mNotV, mIfE, mCh, mTup, mLst, mFz1, mFzA, fzL, fz1, mCall, mCallI, mAp, mAd, mNeg, mYes, mLc, mNx, mBad, mRaise, mBk, mCt, stB, gN, gs0, gs1, gT, rsA, rs, allV, BV.fz, Nw.bv, R.bind, nox, gt, two, fAdd_int, fSub, fCmp, fLen, fList, fTuple, fInt, fAbs, fMax, fMin, fIx, fSlH, fSlL, fSl, fRev, fIs, fNeg, isNon, Option.bind_some, Option.map_some, List.set_cons_zero, List.set_cons_succ, List.map_cons, List.map_nil, List.cons_append, List.nil_append, List.replicate, List.length_cons, List.length_nil, Nat.zero_add, Nat.reduceAdd, if_true, ite_true, reduceIte, wipeE, Bool.true_or, Bool.false_or, Bool.true_and, Bool.false_and, Bool.not_true, Bool.not_false, Bool.false_eq_true, if_false]; rfl, by rfl⟩, fun _ => by rfl⟩
      simp only [Lt__law_back_1, Nw.lf, lf, lfA_ints, SZ, Nat.reduceLeDiff, z1, z2, z3, z4, z5, z6, z7, z8, z9, z10, z11, z12, z13, z14, z15, z16, z17, z18, z19, z20, z21, z22, z23, z24, Nat.zero_le, fin, finI, mSeq, mIf, mRet, mRetN, mDrop, mSet, mAsg, mPar, mAug, mSetIx, mMe, mFor, mIs, mEn, mZa, mN, mK, mA0, mA1, mB, mT, mAnd, mOr, mNot, mAndV, mOrV, mNotV, mIfE, mCh, mTup, mLst, mFz1, mFzA, fzL, fz1, mCall, mCallI, mAp, mAd, mNeg, mYes, mLc, mNx, mBad, mRaise, mBk, mCt, stB, gN, gs0, gs1, gT, rsA, rs, allV, BV.fz, Nw.bv, R.bind, nox, gt, two, fAdd_int, fSub, fCmp, fLen, fList, fTuple, fInt, fAbs, fMax, fMin, fIx, fSlH, fSlL, fSl, fRev, fIs, fNeg, isNon, Option.bind_some, Option.map_some, List.set_cons_zero, List.set_cons_succ, List.map_cons, List.map_nil, List.cons_append, List.nil_append, List.replicate, List.length_cons, List.length_nil, Nat.zero_add, Nat.reduceAdd, if_true, ite_true, reduceIte, wipeE, Bool.true_or, Bool.false_or, Bool.true_and, Bool.false_and, Bool.not_true, Bool.not_false, Bool.false_eq_true, if_false, hm, fMod_pos (show 0 < p by omega), fEq_int])
  have ha : L2.atI (((List.range (p - 1).toNat).filter (fun (k : Nat) => decide ((1 + (k : Int) * 1) * (n : Int) % p = 1))).map (fun (k : Nat) => D.int (1 + (k : Int) * 1))) 0 = some (.int (iv p n)) := by
    refine atI_d (i := 0) rfl ?_
    have := congrArg (Option.map D.int) ht
    rw [← List.getElem?_map, List.map_map] at this
    exact this
  simp only [mLc, Nw.lf, lf, lfA_ints, SZ, Nat.reduceLeDiff, z1, z2, z3, z4, z5, z6, z7, z8, z9, z10, z11, z12, z13, z14, z15, z16, z17, z18, z19, z20, z21, z22, z23, z24, Nat.zero_le, fin, finI, mSeq, mIf, mRet, mRetN, mDrop, mSet, mAsg, mPar, mAug, mSetIx, mMe, mFor, mIs, mEn, mZa, mN, mK, mA0, mA1, mB, mT, mAnd, mOr, mNot, mAndV, mOrV, mNotV, mIfE, mCh, mTup, mLst, mFz1, mFzA, fzL, fz1, mCall, mCallI, mAp, mAd, mNeg, mYes, mLc, mNx, mBad, mRaise, mBk, mCt, stB, gN, gs0, gs1, gT, rsA, rs, allV, BV.fz, Nw.bv, R.bind, nox, gt, two, fAdd_int, fSub, fCmp, fLen, fList, fTuple, fInt, fAbs, fMax, fMin, fIx, fSlH, fSlL, fSl, fRev, fIs, fNeg, isNon, Option.bind_some, Option.map_some, List.set_cons_zero, List.set_cons_succ, List.map_cons, List.map_nil, List.cons_append, List.nil_append, List.replicate, List.length_cons, List.length_nil, Nat.zero_add, Nat.reduceAdd, if_true, ite_true, reduceIte, wipeE, Bool.true_or, Bool.false_or, Bool.true_and, Bool.false_and, Bool.not_true, Bool.not_false, Bool.false_eq_true, if_false] at hl
  simp only [M__law_back, B__law_back, Nw.lf, lf, lfA_ints, SZ, Nat.reduceLeDiff, z1, z2, z3, z4, z5, z6, z7, z8, z9, z10, z11, z12, z13, z14, z15, z16, z17, z18, z19, z20, z21, z22, z23, z24, Nat.zero_le, fin, finI, mSeq, mIf, mRet, mRetN, mDrop, mSet, mAsg, mPar, mAug, mSetIx, mMe, mFor, mIs, mEn, mZa, mN, mK, mA0, mA1, mB, mT, mAnd, mOr, mNot, mAndV, mOrV, mNotV, mIfE, mCh, mTup, mLst, mFz1, mFzA, fzL, fz1, mCall, mCallI, mAp, mAd, mNeg, mYes, mLc, mNx, mBad, mRaise, mBk, mCt, stB, gN, gs0, gs1, gT, rsA, rs, allV, BV.fz, Nw.bv, R.bind, nox, gt, two, fAdd_int, fSub, fCmp, fLen, fList, fTuple, fInt, fAbs, fMax, fMin, fIx, fSlH, fSlL, fSl, fRev, fIs, fNeg, isNon, Option.bind_some, Option.map_some, List.set_cons_zero, List.set_cons_succ, List.map_cons, List.map_nil, List.cons_append, List.nil_append, List.replicate, List.length_cons, List.length_nil, Nat.zero_add, Nat.reduceAdd, if_true, ite_true, reduceIte, wipeE, Bool.true_or, Bool.false_or, Bool.true_and, Bool.false_and, Bool.not_true, Bool.not_false, Bool.false_eq_true, if_false, hl, ha]
theorem w_lraised (x p e : Int) (hp : 0 < p) (hp2 : p ≤ 1000) (hx : 0 ≤ x ∧ x < p) : ∀ (n k : Nat) (f : Int) (s : Sl), ∃ s', mForL (gN 4) Fb__law_raised_1 ((List.range' k n).map fun (i : Nat) => .int (0 + (i : Int) * 1)) [.v (.int x), .v (.int e), .v (.int p), .v (.int (f % p)), s] = .ok (.nx [.v (.int x), .v (.int e), .v (.int p), .v (.int (f * x ^ n % p)), s'])
  | 0, k, f, s => ⟨s, by simp [mForL]⟩
  | n + 1, k, f, s => by
    obtain ⟨s', ih⟩ := w_lraised x p e hp hp2 hx n (k + 1) (f * x) (.v (.int (0 + (k : Int) * 1)))
    refine ⟨s', ?_⟩
    have hb := mod_bd hp f
    have hm := fMul_sm (i := f % p) (j := x) (by omega) (by omega)
    have e1 : f % p * x % p = f * x % p := by rw [Int.mul_emod, Int.emod_emod_of_dvd _ (Int.dvd_refl p), ← Int.mul_emod]
    have hs : Fb__law_raised_1 [.v (.int x), .v (.int e), .v (.int p), .v (.int (f % p)), .v (.int (0 + (k : Int) * 1))] = .ok (.nx [.v (.int x), .v (.int e), .v (.int p), .v (.int (f * x % p)), .v (.int (0 + (k : Int) * 1))]) := by
      simp only [Fb__law_raised_1, Nw.lf, lf, lfA_ints, SZ, Nat.reduceLeDiff, z1, z2, z3, z4, z5, z6, z7, z8, z9, z10, z11, z12, z13, z14, z15, z16, z17, z18, z19, z20, z21, z22, z23, z24, Nat.zero_le, fin, finI, mSeq, mIf, mRet, mRetN, mDrop, mSet, mAsg, mPar, mAug, mSetIx, mMe, mFor, mIs, mEn, mZa, mN, mK, mA0, mA1, mB, mT, mAnd, mOr, mNot, mAndV, mOrV, mNotV, mIfE, mCh, mTup, mLst, mFz1, mFzA, fzL, fz1, mCall, mCallI, mAp, mAd, mNeg, mYes, mLc, mNx, mBad, mRaise, mBk, mCt, stB, gN, gs0, gs1, gT, rsA, rs, allV, BV.fz, Nw.bv, R.bind, nox, gt, two, fAdd_int, fSub, fCmp, fLen, fList, fTuple, fInt, fAbs, fMax, fMin, fIx, fSlH, fSlL, fSl, fRev, fIs, fNeg, isNon, Option.bind_some, Option.map_some, List.set_cons_zero, List.set_cons_succ, List.map_cons, List.map_nil, List.cons_append, List.nil_append, List.replicate, List.length_cons, List.length_nil, Nat.zero_add, Nat.reduceAdd, if_true, ite_true, reduceIte, wipeE, Bool.true_or, Bool.false_or, Bool.true_and, Bool.false_and, Bool.not_true, Bool.not_false, Bool.false_eq_true, if_false, hm, fMod_pos hp, e1]
    rw [List.range'_succ, List.map_cons, mForL_cons (Γ1 := [.v (.int x), .v (.int e), .v (.int p), .v (.int (f % p)), .v (.int (0 + (k : Int) * 1))]) rfl hs, ih]
    have : f * x * x ^ n = f * x ^ (n + 1) := by rw [Int.pow_succ, Int.mul_assoc, Int.mul_comm x]
    rw [this]
theorem fermat : ∀ p ∈ k_PRIMES, ∀ x ∈ List.range p.toNat, x = 0 ∨ (x : Int) ^ (p - 1).toNat % p = 1 := by decide +kernel
theorem pow_mod_f {p x : Int} (hp : p ∈ k_PRIMES) (h0 : 0 < x) (h1 : x < p) (e : Nat) : x ^ (e % (p - 1).toNat) % p = x ^ e % p := by
  have h2 := pr_le p hp
  obtain ⟨n, rfl⟩ := Int.eq_ofNat_of_zero_le (Int.le_of_lt h0)
  have hf := (fermat p hp n (List.mem_range.mpr (by omega))).resolve_left (by omega)
  generalize (p - 1).toNat = m at *
  have one : ∀ k : Nat, ((n : Int) ^ m) ^ k % p = 1 := fun k => by
    rw [← pow_em, hf]
    have : ∀ k : Nat, (1 : Int) ^ k % p = 1 := fun k => by rw [Int.one_pow]; exact Int.emod_eq_of_lt (by omega) (by omega)
    exact this k
  conv => rhs; rw [← Nat.div_add_mod e m, Int.pow_add, Int.pow_mul, Int.mul_emod, one, ← Int.emod_emod_of_dvd _ (Int.dvd_refl p), Int.one_mul]
  have := Int.emod_emod_of_dvd ((n : Int) ^ (e % m)) (Int.dvd_refl p)
  rw [this, this]
theorem e__law_raised (x p : Int) (e : Nat) (hp : p ∈ k_PRIMES) (h0 : 0 ≤ x) (h1 : x < p) : M__law_raised [.int x, .int e, .int p] = .ok (.v (.int (x ^ e % p))) := by
  have h2 := pr_le p hp
  by_cases hz : x = 0
  · subst hz
    by_cases he : e = 0
    · subst he
      have : (0 : Int) ^ 0 % p = 1 := by rw [Int.pow_zero]; exact Int.emod_eq_of_lt (by omega) (by omega)
      rw [this]
      simp only [M__law_raised, B__law_raised, Nw.lf, lf, lfA_ints, SZ, Nat.reduceLeDiff, z1, z2, z3, z4, z5, z6, z7, z8, z9, z10, z11, z12, z13, z14, z15, z16, z17, z18, z19, z20, z21, z22, z23, z24, Nat.zero_le, fin, finI, mSeq, mIf, mRet, mRetN, mDrop, mSet, mAsg, mPar, mAug, mSetIx, mMe, mFor, mIs, mEn, mZa, mN, mK, mA0, mA1, mB, mT, mAnd, mOr, mNot, mAndV, mOrV, mNotV, mIfE, mCh, mTup, mLst, mFz1, mFzA, fzL, fz1, mCall, mCallI, mAp, mAd, mNeg, mYes, mLc, mNx, mBad, mRaise, mBk, mCt, stB, gN, gs0, gs1, gT, rsA, rs, allV, BV.fz, Nw.bv, R.bind, nox, gt, two, fAdd_int, fSub, fCmp, fLen, fList, fTuple, fInt, fAbs, fMax, fMin, fIx, fSlH, fSlL, fSl, fRev, fIs, fNeg, isNon, Option.bind_some, Option.map_some, List.set_cons_zero, List.set_cons_succ, List.map_cons, List.map_nil, List.cons_append, List.nil_append, List.replicate, List.length_cons, List.length_nil, Nat.zero_add, Nat.reduceAdd, if_true, ite_true, reduceIte, wipeE, Bool.true_or, Bool.false_or, Bool.true_and, Bool.false_and, Bool.not_true, Bool.not_false, Bool.false_eq_true, if_false, fEq_int, decide_true]
      rfl
    · have : (0 : Int) ^ e % p = 0 := by rw [Int.zero_pow he]; simp
      have he' : ¬ (e : Int) = 0 := by omega
      rw [this]
      simp only [M__law_raised, B__law_raised, Nw.lf, lf, lfA_ints, SZ, Nat.reduceLeDiff, z1, z2, z3, z4, z5, z6, z7, z8, z9, z10, z11, z12, z13, z14, z15, z16, z17, z18, z19, z20, z21, z22, z23, z24, Nat.zero_le, fin, finI, mSeq, mIf, mRet, mRetN, mDrop, mSet, mAsg, mPar, mAug, mSetIx, mMe, mFor, mIs, mEn, mZa, mN, mK, mA0, mA1, mB, mT, mAnd, mOr, mNot, mAndV, mOrV, mNotV, mIfE, mCh, mTup, mLst, mFz1, mFzA, fzL, fz1, mCall, mCallI, mAp, mAd, mNeg, mYes, mLc, mNx, mBad, mRaise, mBk, mCt, stB, gN, gs0, gs1, gT, rsA, rs, allV, BV.fz, Nw.bv, R.bind, nox, gt, two, fAdd_int, fSub, fCmp, fLen, fList, fTuple, fInt, fAbs, fMax, fMin, fIx, fSlH, fSlL, fSl, fRev, fIs, fNeg, isNon, Option.bind_some, Option.map_some, List.set_cons_zero, List.set_cons_succ, List.map_cons, List.map_nil, List.cons_append, List.nil_append, List.replicate, List.length_cons, List.length_nil, Nat.zero_add, Nat.reduceAdd, if_true, ite_true, reduceIte, wipeE, Bool.true_or, Bool.false_or, Bool.true_and, Bool.false_and, Bool.not_true, Bool.not_false, Bool.false_eq_true, if_false, fEq_int, decide_true, he', decide_false]
  · have hm : fMod [.int e, .int (p - 1)] = some (.v (.int (e % (p - 1).toNat : Nat))) := by
      rw [fMod_pos (by omega)]
      have : p - 1 = ((p - 1).toNat : Int) := by omega
      conv => lhs; rw [this]
      rfl
    have lt : e % (p - 1).toNat < 1000 := by have := Nat.mod_lt e (show 0 < (p - 1).toNat by omega); omega
    obtain ⟨s', hw⟩ := w_lraised x p e (by omega) (by omega) ⟨h0, h1⟩ (e % (p - 1).toNat) 0 1 .no
    have e1 : (1 : Int) % p = 1 := Int.emod_eq_of_lt (by omega) (by omega)
    rw [e1, Int.one_mul, pow_mod_f hp (by omega) h1, ← List.range_eq_range'] at hw
    have hr := mR1_n (ma := mA1 (mB (two fMod) (mA1 (mN 1) (mA1 (mB (two fSub) (mA1 (mN 2) (mA1 (mK (.int 1)) mA0))) mA0))) mA0) (Γ := [.v (.int x), .v (.int e), .v (.int p), .v (.int 1), .no]) (Γ1 := [.v (.int x), .v (.int e), .v (.int p), .v (.int 1), .no]) (n := e % (p - 1).toNat) (by simp only [Nw.lf, lf, lfA_ints, SZ, Nat.reduceLeDiff, z1, z2, z3, z4, z5, z6, z7, z8, z9, z10, z11, z12, z13, z14, z15, z16, z17, z18, z19, z20, z21, z22, z23, z24, Nat.zero_le, fin, finI, mSeq, mIf, mRet, mRetN, mDrop, mSet, mAsg, mPar, mAug, mSetIx, mMe, mFor, mIs, mEn, mZa, mN, mK, mA0, mA1, mB, mT, mAnd, mOr, mNot, mAndV, mOrV, mNotV, mIfE, mCh, mTup, mLst, mFz1, mFzA, fzL, fz1, mCall, mCallI, mAp, mAd, mNeg, mYes, mLc, mNx, mBad, mRaise, mBk, mCt, stB, gN, gs0, gs1, gT, rsA, rs, allV, BV.fz, Nw.bv, R.bind, nox, gt, two, fAdd_int, fSub, fCmp, fLen, fList, fTuple, fInt, fAbs, fMax, fMin, fIx, fSlH, fSlL, fSl, fRev, fIs, fNeg, isNon, Option.bind_some, Option.map_some, List.set_cons_zero, List.set_cons_succ, List.map_cons, List.map_nil, List.cons_append, List.nil_append, List.replicate, List.length_cons, List.length_nil, Nat.zero_add, Nat.reduceAdd, if_true, ite_true, reduceIte, wipeE, Bool.true_or, Bool.false_or, Bool.true_and, Bool.false_and, Bool.not_true, Bool.not_false, Bool.false_eq_true, if_false, hm]) (by omega)
    simp only [M__law_raised, B__law_raised, Nw.lf, lf, lfA_ints, SZ, Nat.reduceLeDiff, z1, z2, z3, z4, z5, z6, z7, z8, z9, z10, z11, z12, z13, z14, z15, z16, z17, z18, z19, z20, z21, z22, z23, z24, Nat.zero_le, fin, finI, mSeq, mIf, mRet, mRetN, mDrop, mSet, mAsg, mPar, mAug, mSetIx, mMe, mFor, mIs, mEn, mZa, mN, mK, mA0, mA1, mB, mT, mAnd, mOr, mNot, mAndV, mOrV, mNotV, mIfE, mCh, mTup, mLst, mFz1, mFzA, fzL, fz1, mCall, mCallI, mAp, mAd, mNeg, mYes, mLc, mNx, mBad, mRaise, mBk, mCt, stB, gN, gs0, gs1, gT, rsA, rs, allV, BV.fz, Nw.bv, R.bind, nox, gt, two, fAdd_int, fSub, fCmp, fLen, fList, fTuple, fInt, fAbs, fMax, fMin, fIx, fSlH, fSlL, fSl, fRev, fIs, fNeg, isNon, Option.bind_some, Option.map_some, List.set_cons_zero, List.set_cons_succ, List.map_cons, List.map_nil, List.cons_append, List.nil_append, List.replicate, List.length_cons, List.length_nil, Nat.zero_add, Nat.reduceAdd, if_true, ite_true, reduceIte, wipeE, Bool.true_or, Bool.false_or, Bool.true_and, Bool.false_and, Bool.not_true, Bool.not_false, Bool.false_eq_true, if_false, fEq_int, hz, decide_false, hr, rngD, hw]
theorem e__law_bad_prime (xs : List D) (h : Dr xs) : ∃ b xs', M__law_bad_prime xs [] = .ok (.v (.int b), xs') ∧ b ∉ k_PRIMES ∧ Dr xs' := by
  obtain ⟨t, x1, e1, t0, t1, d1⟩ := e__law_take xs h 1000000000 (by omega) (by omega)
  obtain ⟨d, x2, e2, hm, d2⟩ := e__law_of x1 d1 (.lst [.int 0, .int 1, .int 4, .int 9, .int 91, .int 101, .int (-2), .int (-97), .int 100000000000000000000, .int (4 + 2 * t)]) _ (.inl rfl) (by simp) (by simp)
  have hm2 := fMul_sml (i := 2) (j := t) (by omega) (by omega)
  obtain ⟨b, rfl, hb⟩ : ∃ b : Int, d = .int b ∧ b ∉ k_PRIMES := by
    simp only [List.mem_cons, List.not_mem_nil, or_false] at hm
    rcases hm with rfl | rfl | rfl | rfl | rfl | rfl | rfl | rfl | rfl | rfl
    all_goals first | exact ⟨_, rfl, by decide⟩ | skip
    refine ⟨_, rfl, fun hc => ?_⟩
    have : ∀ p ∈ k_PRIMES, p = 2 ∨ p % 2 = 1 := by decide
    have := this _ hc
    omega
  refine ⟨b, x2, ?_, hb, d2⟩
  simp only [M__law_bad_prime, B__law_bad_prime, Nw.lf, lf, lfA_ints, SZ, Nat.reduceLeDiff, z1, z2, z3, z4, z5, z6, z7, z8, z9, z10, z11, z12, z13, z14, z15, z16, z17, z18, z19, z20, z21, z22, z23, z24, Nat.zero_le, fin, finI, mSeq, mIf, mRet, mRetN, mDrop, mSet, mAsg, mPar, mAug, mSetIx, mMe, mFor, mIs, mEn, mZa, mN, mK, mA0, mA1, mB, mT, mAnd, mOr, mNot, mAndV, mOrV, mNotV, mIfE, mCh, mTup, mLst, mFz1, mFzA, fzL, fz1, mCall, mCallI, mAp, mAd, mNeg, mYes, mLc, mNx, mBad, mRaise, mBk, mCt, stB, gN, gs0, gs1, gT, rsA, rs, allV, BV.fz, Nw.bv, R.bind, nox, gt, two, fAdd_int, fSub, fCmp, fLen, fList, fTuple, fInt, fAbs, fMax, fMin, fIx, fSlH, fSlL, fSl, fRev, fIs, fNeg, isNon, Option.bind_some, Option.map_some, List.set_cons_zero, List.set_cons_succ, List.map_cons, List.map_nil, List.cons_append, List.nil_append, List.replicate, List.length_cons, List.length_nil, Nat.zero_add, Nat.reduceAdd, if_true, ite_true, reduceIte, wipeE, Bool.true_or, Bool.false_or, Bool.true_and, Bool.false_and, Bool.not_true, Bool.not_false, Bool.false_eq_true, if_false, pow20, pow9, e1, hm2, e2]
theorem e__law_far (xs : List D) (h : Dr xs) (p : Int) (hp : 0 < p) (hp2 : p ≤ 1000) : ∃ b xs', M__law_far xs [.int p] = .ok (.v (.int b), xs') ∧ ¬ (0 ≤ b ∧ b < p) ∧ Dr xs' := by
  obtain ⟨t, x1, e1, t0, t1, d1⟩ := e__law_take xs h 1000000 (by omega) (by omega)
  obtain ⟨d, x2, e2, hm, d2⟩ := e__law_of x1 d1 (.lst [.int p, .int (-1), .int 100000000000000000000, .int (p + t), .int (-p)]) _ (.inl rfl) (by simp) (by simp)
  obtain ⟨b, rfl, hb⟩ : ∃ b : Int, d = .int b ∧ ¬ (0 ≤ b ∧ b < p) := by
    simp only [List.mem_cons, List.not_mem_nil, or_false] at hm
    rcases hm with rfl | rfl | rfl | rfl | rfl
    all_goals exact ⟨_, rfl, by omega⟩
  refine ⟨b, x2, ?_, hb, d2⟩
  simp only [M__law_far, B__law_far, Nw.lf, lf, lfA_ints, SZ, Nat.reduceLeDiff, z1, z2, z3, z4, z5, z6, z7, z8, z9, z10, z11, z12, z13, z14, z15, z16, z17, z18, z19, z20, z21, z22, z23, z24, Nat.zero_le, fin, finI, mSeq, mIf, mRet, mRetN, mDrop, mSet, mAsg, mPar, mAug, mSetIx, mMe, mFor, mIs, mEn, mZa, mN, mK, mA0, mA1, mB, mT, mAnd, mOr, mNot, mAndV, mOrV, mNotV, mIfE, mCh, mTup, mLst, mFz1, mFzA, fzL, fz1, mCall, mCallI, mAp, mAd, mNeg, mYes, mLc, mNx, mBad, mRaise, mBk, mCt, stB, gN, gs0, gs1, gT, rsA, rs, allV, BV.fz, Nw.bv, R.bind, nox, gt, two, fAdd_int, fSub, fCmp, fLen, fList, fTuple, fInt, fAbs, fMax, fMin, fIx, fSlH, fSlL, fSl, fRev, fIs, fNeg, isNon, Option.bind_some, Option.map_some, List.set_cons_zero, List.set_cons_succ, List.map_cons, List.map_nil, List.cons_append, List.nil_append, List.replicate, List.length_cons, List.length_nil, Nat.zero_add, Nat.reduceAdd, if_true, ite_true, reduceIte, wipeE, Bool.true_or, Bool.false_or, Bool.true_and, Bool.false_and, Bool.not_true, Bool.not_false, Bool.false_eq_true, if_false, pow20, pow6, e1, e2]
end Mn
namespace Rq
open Rm
abbrev F := Nat → Int
def tl (f : F) : F := fun k => f (k + 1)
def mu : Nat → F → F → Int
  | 0, f, g => f 0 * g 0
  | n + 1, f, g => f 0 * g (n + 1) + mu n (tl f) g
theorem mu_add_l : ∀ (n : Nat) (f f' g : F), mu n (fun k => f k + f' k) g = mu n f g + mu n f' g
  | 0, f, f', g => by simp only [mu]; grind
  | n + 1, f, f', g => by
    show (f 0 + f' 0) * g (n + 1) + mu n (fun k => tl f k + tl f' k) g = (f 0 * g (n + 1) + mu n (tl f) g) + (f' 0 * g (n + 1) + mu n (tl f') g)
    rw [mu_add_l n]; grind
theorem mu_smul_l (c : Int) : ∀ (n : Nat) (f g : F), mu n (fun k => c * f k) g = c * mu n f g
  | 0, f, g => by simp only [mu]; grind
  | n + 1, f, g => by
    show c * f 0 * g (n + 1) + mu n (fun k => c * tl f k) g = c * (f 0 * g (n + 1) + mu n (tl f) g)
    rw [mu_smul_l c n]; grind
theorem mu_add_r : ∀ (n : Nat) (f g g' : F), mu n f (fun k => g k + g' k) = mu n f g + mu n f g'
  | 0, f, g, g' => by simp only [mu]; grind
  | n + 1, f, g, g' => by simp only [mu, mu_add_r n]; grind
theorem mu_smul_r (c : Int) : ∀ (n : Nat) (f g : F), mu n f (fun k => c * g k) = c * mu n f g
  | 0, f, g => by simp only [mu]; grind
  | n + 1, f, g => by simp only [mu, mu_smul_r c n]; grind
theorem mu_dual : ∀ (n : Nat) (f g : F), mu (n + 1) f g = mu n f (tl g) + f (n + 1) * g 0
  | 0, f, g => by simp only [mu, tl]
  | n + 1, f, g => by
    rw [mu, mu_dual n (tl f) g, mu]
    show f 0 * g (n + 2) + (mu n (tl f) (tl g) + f (n + 2) * g 0) = f 0 * g (n + 2) + mu n (tl f) (tl g) + f (n + 2) * g 0
    omega
theorem mu_comm : ∀ (n : Nat) (f g : F), mu n f g = mu n g f
  | 0, f, g => by simp only [mu]; grind
  | n + 1, f, g => by rw [mu, mu_dual, mu_comm n]; grind
theorem mu_assoc : ∀ (n : Nat) (f g h : F), mu n (fun k => mu k f g) h = mu n f (fun k => mu k g h)
  | 0, f, g, h => by simp only [mu]; grind
  | n + 1, f, g, h => by
    have e : tl (fun k => mu k f g) = fun k => f 0 * tl g k + mu k (tl f) g := by
      funext k; simp only [tl, mu]
    rw [mu, e, mu_add_l, mu_smul_l, mu_assoc n, mu]
    simp only [mu]; grind
def cst (i : Int) : F := fun k => if k = 0 then i else 0
theorem mu_cst (i : Int) : ∀ (n : Nat) (g : F), mu n (cst i) g = i * g n
  | 0, g => by simp [mu, cst]
  | n + 1, g => by
    have e : tl (cst i) = fun k => 0 * cst i k := by funext k; simp [tl, cst]
    rw [mu, e, mu_smul_l]; simp [cst]
def al (p : Int) (f g : F) : Prop := ∃ h : F, ∀ k, f k = g k + p * h k
def st (p : Int) : Setoid F := ⟨al p, ⟨fun f => ⟨fun _ => 0, fun k => by simp⟩, fun ⟨h, e⟩ => ⟨fun k => - h k, fun k => by rw [e k]; grind⟩, fun ⟨h, e⟩ ⟨h', e'⟩ => ⟨fun k => h k + h' k, fun k => by rw [e k, e' k]; grind⟩⟩⟩
def Sr (p : Int) : Type := Quotient (st p)
def mk (p : Int) (f : F) : Sr p := Quotient.mk (st p) f
theorem mk_eq {p : Int} {f g : F} (h : al p f g) : mk p f = mk p g := Quotient.sound h
theorem mk_al {p : Int} {f g : F} (h : mk p f = mk p g) : al p f g := Quotient.exact h
theorem ind {p : Int} {C : Sr p → Prop} (h : ∀ f, C (mk p f)) (a : Sr p) : C a := Quotient.ind (s := st p) h a
variable {p : Int}
def add (a b : Sr p) : Sr p := Quotient.liftOn₂ (s₁ := st p) (s₂ := st p) a b (fun f g => mk p fun k => f k + g k) (fun f g f' g' ⟨h, e⟩ ⟨h', e'⟩ => mk_eq ⟨fun k => h k + h' k, fun k => by show f k + g k = f' k + g' k + p * (h k + h' k); rw [e k, e' k]; grind⟩)
def mul (a b : Sr p) : Sr p := Quotient.liftOn₂ (s₁ := st p) (s₂ := st p) a b (fun f g => mk p fun k => mu k f g) (fun f g f' g' ⟨h, e⟩ ⟨h', e'⟩ => mk_eq ⟨fun k => mu k h g + mu k f' h', fun k => by
  have e1 : f = fun k => f' k + p * h k := funext e
  have e2 : g = fun k => g' k + p * h' k := funext e'
  have : mu k f g = mu k f' g + p * mu k h g := by
    conv => lhs; rw [e1]
    rw [mu_add_l, mu_smul_l]
  show mu k f g = mu k f' g' + p * (mu k h g + mu k f' h')
  rw [this]
  have : mu k f' g = mu k f' g' + p * mu k f' h' := by
    conv => lhs; rw [e2]
    rw [mu_add_r, mu_smul_r]
  rw [this]; grind⟩)
def neg (a : Sr p) : Sr p := Quotient.liftOn (s := st p) a (fun f => mk p fun k => - f k) (fun f g ⟨h, e⟩ => mk_eq ⟨fun k => - h k, fun k => by show - f k = - g k + p * - h k; rw [e k]; grind⟩)
def icst (i : Int) : Sr p := mk p (cst i)
def npow (a : Sr p) : Nat → Sr p
  | 0 => icst 1
  | n + 1 => mul (npow a n) a
theorem mk_add (f g : F) : add (mk p f) (mk p g) = mk p fun k => f k + g k := rfl
theorem mk_mul (f g : F) : mul (mk p f) (mk p g) = mk p fun k => mu k f g := rfl
theorem mk_neg (f : F) : neg (mk p f) = mk p fun k => - f k := rfl
theorem mul_comm (a b : Sr p) : mul a b = mul b a := by
  induction a using ind; induction b using ind
  rename_i f g
  rw [mk_mul, mk_mul]; congr 1; funext k; exact mu_comm k f g
instance : Lean.Grind.CommRing (Sr p) where
  add := add
  mul := mul
  neg := neg
  sub a b := add a (neg b)
  natCast := ⟨fun n => icst n⟩
  ofNat n := ⟨icst n⟩
  intCast := ⟨icst⟩
  nsmul := ⟨fun n a => mul (icst n) a⟩
  zsmul := ⟨fun i a => mul (icst i) a⟩
  npow := ⟨npow⟩
  add_zero a := by
    induction a using ind
    show add (mk p _) (mk p _) = _
    rw [mk_add]; congr 1; funext k; simp [cst]
  add_comm a b := by
    induction a using ind; induction b using ind
    show add (mk p _) (mk p _) = add (mk p _) (mk p _)
    rw [mk_add, mk_add]; congr 1; funext k; omega
  add_assoc a b c := by
    induction a using ind; induction b using ind; induction c using ind
    show add (add (mk p _) (mk p _)) (mk p _) = add (mk p _) (add (mk p _) (mk p _))
    rw [mk_add, mk_add, mk_add, mk_add]; congr 1; funext k; omega
  mul_assoc a b c := by
    induction a using ind; induction b using ind; induction c using ind
    show mul (mul (mk p _) (mk p _)) (mk p _) = mul (mk p _) (mul (mk p _) (mk p _))
    rw [mk_mul, mk_mul, mk_mul, mk_mul]; congr 1; funext k; exact mu_assoc ..
  mul_one a := by
    induction a using ind
    show mul (mk p _) (mk p _) = _
    rw [mul_comm, mk_mul]; congr 1; funext k; simp [mu_cst]
  one_mul a := by
    induction a using ind
    show mul (mk p _) (mk p _) = _
    rw [mk_mul]; congr 1; funext k; simp [mu_cst]
  left_distrib a b c := by
    induction a using ind; induction b using ind; induction c using ind
    show mul (mk p _) (add (mk p _) (mk p _)) = add (mul (mk p _) (mk p _)) (mul (mk p _) (mk p _))
    rw [mk_add, mk_mul, mk_mul, mk_mul, mk_add]; congr 1; funext k; exact mu_add_r ..
  right_distrib a b c := by
    induction a using ind; induction b using ind; induction c using ind
    show mul (add (mk p _) (mk p _)) (mk p _) = add (mul (mk p _) (mk p _)) (mul (mk p _) (mk p _))
    rw [mk_add, mk_mul, mk_mul, mk_mul, mk_add]; congr 1; funext k; exact mu_add_l ..
  zero_mul a := by
    induction a using ind
    show mul (mk p _) (mk p _) = mk p _
    rw [mk_mul]; congr 1; funext k; simp [mu_cst, cst]
  mul_zero a := by
    induction a using ind
    show mul (mk p _) (mk p _) = mk p _
    rw [mul_comm, mk_mul]; congr 1; funext k; simp [mu_cst, cst]
  pow_zero a := rfl
  pow_succ a n := rfl
  ofNat_succ n := by
    show mk p _ = add (mk p _) (mk p _)
    rw [mk_add]; congr 1; funext k; simp only [cst]; split <;> simp
  neg_add_cancel a := by
    induction a using ind
    show add (neg (mk p _)) (mk p _) = mk p _
    rw [mk_neg, mk_add]; congr 1; funext k; simp [cst]; omega
  sub_eq_add_neg a b := rfl
  neg_zsmul i a := by
    induction a using ind
    show mul (mk p _) (mk p _) = neg (mul (mk p _) (mk p _))
    rw [mk_mul, mk_mul, mk_neg]; congr 1; funext k; simp only [mu_cst]; grind
  intCast_neg i := by
    show mk p _ = neg (mk p _)
    rw [mk_neg]; congr 1; funext k; simp only [cst]; split <;> simp
  mul_comm := mul_comm
example (a b : Sr p) : (a + b) * (a - b) = a * a - b * b := by grind
end Rq
namespace Rq
open Rm
variable {p : Int}
def s (p : Int) (a : List Int) : Sr p := mk p (cf a)
theorem ic_add (i j : Int) : (icst (i + j) : Sr p) = icst i + icst j := by
  show mk p _ = add (mk p _) (mk p _)
  rw [mk_add]; congr 1; funext k; simp only [cst]; split <;> simp
theorem ic_mul (i j : Int) : (icst (i * j) : Sr p) = icst i * icst j := by
  show mk p _ = mul (mk p _) (mk p _)
  rw [mk_mul]; congr 1; funext k; rw [mu_cst]; simp only [cst]; split <;> simp
theorem ic_neg (i : Int) : (icst (-i) : Sr p) = - icst i := by
  show mk p _ = neg (mk p _)
  rw [mk_neg]; congr 1; funext k; simp only [cst]; split <;> simp
theorem ic_one : (icst 1 : Sr p) = 1 := rfl
theorem ic_zero : (icst 0 : Sr p) = 0 := rfl
theorem ic_p : (icst p : Sr p) = 0 := mk_eq ⟨cst 1, fun k => by simp only [cst]; split <;> simp⟩
theorem ic_mod (i : Int) : (icst (i % p) : Sr p) = icst i := mk_eq ⟨cst (-(i / p)), fun k => by
  simp only [cst]; split
  · have := Int.emod_add_mul_ediv i p; grind
  · simp⟩
theorem ic_sub (i j : Int) : (icst (i - j) : Sr p) = icst i - icst j := by
  rw [Int.sub_eq_add_neg, ic_add, ic_neg]; grind
theorem mk_mod {f g : F} (h : ∀ k, f k % p = g k % p) : mk p f = mk p g := mk_eq ⟨fun k => f k / p - g k / p, fun k => by
  have h1 := Int.emod_add_mul_ediv (f k) p
  have h2 := Int.emod_add_mul_ediv (g k) p
  have h3 := h k
  grind⟩
theorem s_mod {a : List Int} {f : F} (h : ∀ k, cf a k = f k % p) : s p a = mk p f := mk_mod fun k => by rw [h k]; exact Int.emod_emod_of_dvd _ (Int.dvd_refl _)
theorem s_ext {a b : List Int} (h : ∀ k, cf a k = cf b k) : s p a = s p b := by unfold s; congr 1; funext k; exact h k
theorem s_trim (a : List Int) : s p (trim a) = s p a := s_ext (trim_cf a)
theorem s_nil : s p [] = 0 := by
  show mk p _ = mk p _
  congr 1; funext k; simp [cf_nil, cst]
theorem s_one (x : Int) : s p [x] = icst x := by
  show mk p _ = mk p _
  congr 1; funext k
  cases k with
  | zero => rfl
  | succ k => rw [cf_succ, cf_nil]; simp [cst]
theorem s_bl (w : Int) (a b : List Int) : s p (bl p w a b) = s p a + icst w * s p b := by
  show _ = add (mk p _) (mul (mk p _) (mk p _))
  rw [mk_mul, mk_add]
  exact s_mod fun k => by rw [bl_cf, mu_cst]
theorem tl_cons (x : Int) (a : List Int) : tl (cf (x :: a)) = cf a := by funext k; simp only [tl, cf_succ]
theorem mu_nil : ∀ (n : Nat) (g : F), mu n (cf []) g = 0
  | 0, g => by simp [mu, cf_nil]
  | n + 1, g => by
    have e : tl (cf []) = cf [] := by funext k; simp [tl, cf_nil]
    rw [mu, e, mu_nil n]; simp [cf_nil]
theorem cv_lo (b : List Int) : ∀ (a : List Int) (k j : Nat), j < k → cv b a k j = 0
  | [], _, _, _ => rfl
  | x :: a, k, j, h => by rw [cv, if_neg (by omega), cv_lo b a (k + 1) j (by omega)]; rfl
theorem cv_mu (b : List Int) : ∀ (a : List Int) (k n : Nat), cv b a k (k + n) = mu n (cf a) (cf b)
  | [], k, n => by rw [mu_nil]; rfl
  | x :: a, k, 0 => by
    rw [cv, if_pos (by omega), cv_lo b a (k + 1) (k + 0) (by omega), mu]
    simp [cf_zero]
  | x :: a, k, n + 1 => by
    have e : k + (n + 1) = k + 1 + n := by omega
    rw [cv, if_pos (by omega), mu, tl_cons]
    rw [show cv b a (k + 1) (k + (n + 1)) = mu n (cf a) (cf b) by rw [e]; exact cv_mu b a (k + 1) n]
    simp [cf_zero]
theorem s_mulP (a b : List Int) : s p (mulP p a b) = s p a * s p b := by
  show _ = mul (mk p _) (mk p _)
  rw [mk_mul]
  exact s_mod fun k => by
    rw [mulP_cf]
    have := cv_mu b a 0 k
    rw [Nat.zero_add] at this
    rw [this]
theorem s_inj (hp : 0 < p) {a b : List Int} (ha : Po p a) (hb : Po p b) (h : s p a = s p b) : a = b := by
  obtain ⟨g, e⟩ := mk_al h
  refine trim_eq_of_ext ha.t hb.t fun k => ?_
  have h1 := ha.cf hp k
  have h2 := hb.cf hp k
  have h3 := e k
  have : g k = 0 := by
    rcases Int.lt_trichotomy (g k) 0 with hg | hg | hg
    · have := Int.mul_le_mul_of_nonneg_left (show g k ≤ -1 by omega) (Int.le_of_lt hp)
      omega
    · exact hg
    · have := Int.mul_le_mul_of_nonneg_left (show 1 ≤ g k by omega) (Int.le_of_lt hp)
      omega
  rw [this] at h3
  omega
def X (m : Nat) : Sr p := mk p fun k => if k = m then 1 else 0
theorem mu_X : ∀ (n m : Nat) (g : F), mu n (fun k => if k = m then 1 else 0) g = if m ≤ n then g (n - m) else 0
  | 0, 0, g => by simp [mu]
  | 0, m + 1, g => by simp [mu]
  | n + 1, 0, g => by
    have e : tl (fun k => if k = 0 then (1 : Int) else 0) = cf [] := by funext k; simp [tl, cf_nil]
    rw [mu, e, mu_nil]; simp
  | n + 1, m + 1, g => by
    have e : tl (fun k => if k = m + 1 then (1 : Int) else 0) = fun k => if k = m then 1 else 0 := by funext k; simp [tl]
    rw [mu, e, mu_X n m]; simp
theorem s_addAtM (c : Int) {b f : List Int} {k : Nat} (hr : Red p f) (h : k + b.length ≤ f.length) : s p (addAtM p c f k b) = s p f + icst c * (X k * s p b) := by
  show _ = add (mk p _) (mul (mk p _) (mul (mk p _) (mk p _)))
  rw [mk_mul, mk_mul, mk_add]
  refine s_mod fun j => ?_
  rw [addAtM_cf p c b f k j hr h, mu_cst, mu_X]
  split <;> simp
theorem s_set {q : List Int} {i : Nat} {w : Int} (h : i < q.length) (h0 : cf q i = 0) : s p (q.set i w) = s p q + icst w * X i := by
  show mk p _ = add (mk p _) (mul (mk p _) (mk p _))
  rw [mk_mul, mk_add]
  congr 1; funext k
  rw [cf_set h, mu_cst]
  split
  · rename_i e; subst e; rw [h0]; simp
  · simp
def dvS (p bk : Int) (r : List Int) : Nat → List Int → List Int → List Int × List Int
  | 0, l, q => (l, q)
  | m + 1, l, q => dvS p bk r m (addAtM p (-(cf l (m + (r.length - 1)) * bk % p)) l m r) (q.set m (cf l (m + (r.length - 1)) * bk % p))
theorem dvS_ok {r a : List Int} {bk : Int} (hr : r ≠ []) (hb : cf r (r.length - 1) * bk % p = 1 % p) (hp : 0 < p) : ∀ (m : Nat) (l q : List Int), Red p l → m + (r.length - 1) ≤ l.length → m ≤ q.length → (∀ k, m + (r.length - 1) ≤ k → cf l k = 0) →
    (∀ k, k < m → cf q k = 0) → s p a = s p q * s p r + s p l → Red p (dvS p bk r m l q).1 ∧ (dvS p bk r m l q).1.length = l.length ∧ (dvS p bk r m l q).2.length = q.length ∧ (∀ k, r.length - 1 ≤ k → cf (dvS p bk r m l q).1 k = 0) ∧ s p a = s p (dvS p bk r m l q).2 * s p r + s p (dvS p bk r m l q).1
  | 0, l, q, h1, h2, h3, h4, h5, h6 => ⟨h1, rfl, rfl, fun k hk => h4 k (by omega), h6⟩
  | m + 1, l, q, h1, h2, h3, h4, h5, h6 => by
    have hr0 : 0 < r.length := List.length_pos_iff.mpr hr
    rw [dvS]
    generalize hw : cf l (m + (r.length - 1)) * bk % p = w
    have hl := addAtM_length p (-w) r l m
    have hx := s_addAtM (p := p) (-w) (b := r) (f := l) (k := m) h1 (by omega)
    have hy := s_set (p := p) (q := q) (i := m) (w := w) (by omega) (h5 m (by omega))
    have key := dvS_ok hr hb hp m (addAtM p (-w) l m r) (q.set m w) (addAtM_red p _ h1 (by omega)) (by omega) (by simp; omega) (fun k hk => by
        rw [addAtM_cf p (-w) r l m k h1 (by omega), if_pos (by omega)]
        by_cases e : k = m + (r.length - 1)
        · subst e
          have e2 : m + (r.length - 1) - m = r.length - 1 := by omega
          rw [e2]
          have e3 : w % p = cf l (m + (r.length - 1)) * bk % p := by rw [← hw]; exact Int.emod_emod_of_dvd _ (Int.dvd_refl _)
          have e4 : (w * cf r (r.length - 1)) % p = cf l (m + (r.length - 1)) % p := by
            rw [Int.mul_emod, e3, ← Int.mul_emod, Int.mul_assoc, Int.mul_comm bk, Int.mul_emod, hb, ← Int.mul_emod, Int.mul_one]
          have e5 : (cf l (m + (r.length - 1)) + -w * cf r (r.length - 1)) % p = 0 := by
            have : cf l (m + (r.length - 1)) + -w * cf r (r.length - 1) = cf l (m + (r.length - 1)) - w * cf r (r.length - 1) := by grind
            rw [this, Int.sub_emod, e4]; simp
          exact e5
        · rw [cf_ge (a := r) (by omega), h4 k (by omega)]; simp)
      (fun k hk => by rw [cf_set (by omega), if_neg (by omega)]; exact h5 k (by omega))
      (by rw [h6, hx, hy, ic_neg]; grind)
    rw [hl, List.length_set] at key
    exact key
end Rq
namespace Rq
open Rm
variable {p : Int}
theorem addAtM_zero (p : Int) : ∀ (b f : List Int) (k : Nat), Red p f → addAtM p 0 f k b = f
  | [], _, _, _ => rfl
  | y :: b, f, k, hr => by
    have : f.set k ((cf f k + 0 * y) % p) = f := by
      rw [Int.zero_mul, Int.add_zero, hr k]
      by_cases h : k < f.length
      · rw [cf_lt h]; simp
      · rw [List.set_eq_of_length_le (by omega)]
    rw [addAtM, this, addAtM_zero p b f (k + 1) hr]
theorem Red.bd (hp : 0 < p) {a : List Int} (h : Red p a) (k : Nat) : 0 ≤ cf a k ∧ cf a k < p := by
  rw [← h k]; exact ⟨Int.emod_nonneg _ (by omega), Int.emod_lt_of_pos _ hp⟩
theorem Po.red (hp : 0 < p) {a : List Int} (h : Po p a) : Red p a := fun k => by
  have := h.cf hp k
  exact Int.emod_eq_of_lt this.1 this.2
def qt (p bk : Int) (a r : List Int) : List Int := trim (dvS p bk r (a.length + 1 - r.length) a (List.replicate (a.length + 1 - r.length) 0)).2
def rm (p bk : Int) (a r : List Int) : List Int := trim (dvS p bk r (a.length + 1 - r.length) a (List.replicate (a.length + 1 - r.length) 0)).1
theorem dvS_len (bk : Int) (r : List Int) : ∀ (m : Nat) (l q : List Int), (dvS p bk r m l q).1.length = l.length ∧ (dvS p bk r m l q).2.length = q.length
  | 0, l, q => ⟨rfl, rfl⟩
  | m + 1, l, q => by
    have := dvS_len bk r m (addAtM p (-(cf l (m + (r.length - 1)) * bk % p)) l m r) (q.set m (cf l (m + (r.length - 1)) * bk % p))
    rw [dvS]; rw [this.1, this.2, addAtM_length]; simp
theorem dvS_q (hp : 0 < p) (bk : Int) (r : List Int) : ∀ (m : Nat) (l q : List Int), (∀ x ∈ q, 0 ≤ x ∧ x < p) → ∀ x ∈ (dvS p bk r m l q).2, 0 ≤ x ∧ x < p
  | 0, l, q, h => h
  | m + 1, l, q, h => by
    rw [dvS]
    refine dvS_q hp bk r m _ _ fun x hx => ?_
    rcases List.mem_or_eq_of_mem_set hx with hx | rfl
    · exact h x hx
    · exact ⟨Int.emod_nonneg _ (by omega), Int.emod_lt_of_pos _ hp⟩
theorem Red.trim {a : List Int} (hp : 0 < p) (h : Red p a) : Po p (Rm.trim a) := .of_cf (trim_trim a) fun k => by rw [trim_cf]; exact Red.bd hp h k
theorem trim_short {a : List Int} {n : Nat} (h : ∀ k, n ≤ k → cf a k = 0) : (trim a).length ≤ n := by
  by_cases e : n < (trim a).length
  · exfalso
    have hn : trim a ≠ [] := fun z => by rw [z] at e; simp at e
    have := trim_last (trim_trim a) hn
    rw [trim_cf, h _ (by omega)] at this
    simp at this
  · omega
theorem qr_ok {bk : Int} {a r : List Int} (hp : 0 < p) (ha : Po p a) (hr : r ≠ []) (hb : cf r (r.length - 1) * bk % p = 1 % p) :
    Po p (qt p bk a r) ∧ Po p (rm p bk a r) ∧ (rm p bk a r).length < r.length ∧ (qt p bk a r).length ≤ a.length + 1 - r.length ∧ s p a = s p (qt p bk a r) * s p r + s p (rm p bk a r) := by
  have hr0 : 0 < r.length := List.length_pos_iff.mpr hr
  have hq : Po p (qt p bk a r) := Po.trim (dvS_q hp bk r _ _ _ fun x hx => by
    rw [List.mem_replicate] at hx; rw [hx.2]; exact ⟨Int.le_refl _, hp⟩)
  have hql : (qt p bk a r).length ≤ a.length + 1 - r.length := by
    have h1 := trim_length_le (dvS p bk r (a.length + 1 - r.length) a (List.replicate (a.length + 1 - r.length) 0)).2
    have h2 := (dvS_len (p := p) bk r (a.length + 1 - r.length) a (List.replicate (a.length + 1 - r.length) 0)).2
    rw [h2, List.length_replicate] at h1
    exact h1
  by_cases hl : a.length + 1 < r.length
  · have e : a.length + 1 - r.length = 0 := by omega
    have e1 : rm p bk a r = a := by unfold rm; rw [e, dvS]; exact ha.t
    have e2 : qt p bk a r = [] := by unfold qt; rw [e, dvS]; rfl
    refine ⟨hq, by rw [e1]; exact ha, by rw [e1]; omega, hql, ?_⟩
    rw [e1, e2, s_nil]; grind
  · have key := dvS_ok (p := p) (r := r) (a := a) (bk := bk) hr hb hp (a.length + 1 - r.length) a (List.replicate (a.length + 1 - r.length) 0) (Po.red hp ha) (by omega) (by simp) (fun k hk => cf_ge (by omega)) (fun k hk => cf_replicate ..)
      (by
        have : s p (List.replicate (a.length + 1 - r.length) 0) = 0 := by rw [← s_nil]; exact s_ext fun k => by rw [cf_replicate, cf_nil]
        rw [this]; grind)
    refine ⟨hq, Red.trim hp key.1, ?_, hql, ?_⟩
    · have := trim_short (a := (dvS p bk r (a.length + 1 - r.length) a (List.replicate (a.length + 1 - r.length) 0)).1) (n := r.length - 1) key.2.2.2.1
      unfold rm; omega
    · unfold qt rm; rw [s_trim, s_trim]; exact key.2.2.2.2
theorem rm_take {bk : Int} {a r : List Int} (hp : 0 < p) (ha : Po p a) (hr : r ≠ []) (hb : cf r (r.length - 1) * bk % p = 1 % p) :
    trim ((dvS p bk r (a.length + 1 - r.length) a (List.replicate (a.length + 1 - r.length) 0)).1.take (r.length - 1)) = rm p bk a r := by
  refine trim_ext fun k => ?_
  rw [cf_take]
  split
  · rfl
  · have h := qr_ok hp ha hr hb
    rw [← trim_cf]
    exact (cf_ge (by have := h.2.2.1; unfold rm at this; omega)).symm
theorem s_icst1 : (icst 1 : Sr p) = 1 := rfl
end Rq
namespace Mn
open PySem Rg Rm
def dsc (off : Nat) : Nat → List D
  | 0 => []
  | m + 1 => .int ((m + off : Nat) : Int) :: dsc off m
theorem rng_dsc (off : Nat) : ∀ m : Nat, rngD (((m + off : Nat) : Int) - 1) (-1) m = dsc off m
  | 0 => rfl
  | m + 1 => by
    have ih := rng_dsc off m
    simp only [rngD] at *
    rw [List.range_succ_eq_map, List.map_cons, List.map_map, dsc, ← ih]
    congr 1
    · congr 1; omega
    · refine List.map_congr_left fun k _ => ?_
      show D.int _ = D.int _
      congr 1
      simp only [Nat.succ_eq_add_one]
      omega
theorem b_div2 (w y p : Int) (hp : 0 < p) (hw : -1000 ≤ w ∧ w ≤ 1000) (at_ k : Nat) (S0 S1 S4 S5 S6 : Sl) (f : List Int) (h : at_ + k < f.length) (hf : f.length ≤ 1000) : Fb_divided_2 [S0, S1, .v (.int p), .o (f.map D.int), S4, S5, S6, .v (.int at_), .v (.int w), .v (.int k), .v (.int y)] = .ok (.nx [S0, S1, .v (.int p), .o ((f.set (at_ + k) ((cf f (at_ + k) + -w * y) % p)).map D.int), S4, S5, S6, .v (.int at_), .v (.int w), .v (.int k), .v (.int y)]) := by
  have e3 : L2.atI (f.map D.int) ((at_ : Int) + (k : Int)) = some (.int (cf f (at_ + k))) := atI_ints' f _ (at_ + k) (by omega) h
  have e4 : L2.ixN f.length ((at_ : Int) + (k : Int)) = some (at_ + k) := ixN_nat (by omega) (by omega)
  have e5 := fMul_sml (i := w) (j := y) (by omega) (by omega)
  have e6 : cf f (at_ + k) + -w * y = cf f (at_ + k) - w * y := by grind
  rw [e6]
  simp only [Fb_divided_2, Nw.lf, lf, lfA_ints, SZ, Nat.reduceLeDiff, z1, z2, z3, z4, z5, z6, z7, z8, z9, z10, z11, z12, z13, z14, z15, z16, z17, z18, z19, z20, z21, z22, z23, z24, Nat.zero_le, fin, finI, mSeq, mIf, mRet, mRetN, mDrop, mSet, mAsg, mPar, mAug, mSetIx, mMe, mFor, mIs, mEn, mZa, mN, mK, mA0, mA1, mB, mT, mAnd, mOr, mNot, mAndV, mOrV, mNotV, mIfE, mCh, mTup, mLst, mFz1, mFzA, fzL, fz1, mCall, mCallI, mAp, mAd, mNeg, mYes, mLc, mNx, mBad, mRaise, mBk, mCt, stB, gN, gs0, gs1, gT, rsA, rs, allV, BV.fz, Nw.bv, R.bind, nox, gt, two, fAdd_int, fSub, fCmp, fLen, fList, fTuple, fInt, fAbs, fMax, fMin, fIx, fSlH, fSlL, fSl, fRev, fIs, fNeg, isNon, Option.bind_some, Option.map_some, List.set_cons_zero, List.set_cons_succ, List.map_cons, List.map_nil, List.cons_append, List.nil_append, List.replicate, List.length_cons, List.length_nil, Nat.zero_add, Nat.reduceAdd, if_true, ite_true, reduceIte, wipeE, Bool.true_or, Bool.false_or, Bool.true_and, Bool.false_and, Bool.not_true, Bool.not_false, Bool.false_eq_true, if_false, e3, List.length_map, e4, e5, fMod_pos hp, List.map_set]
theorem w_div2 (w p : Int) (hp : 0 < p) (hw : -1000 ≤ w ∧ w ≤ 1000) (at_ : Nat) (S0 S1 S4 S5 S6 : Sl) : ∀ (b f : List Int) (k : Nat) (s9 s10 : Sl), at_ + k + b.length ≤ f.length → f.length ≤ 1000 → ∃ s9' s10', mForL (gT 2 (gs1 (gN 9) (gs1 (gN 10) gs0))) Fb_divided_2 (enumD k (b.map D.int)) [S0, S1, .v (.int p), .o (f.map D.int), S4, S5, S6, .v (.int at_), .v (.int w), s9, s10] = .ok (.nx [S0, S1, .v (.int p), .o ((addAtM p (-w) f (at_ + k) b).map D.int), S4, S5, S6, .v (.int at_), .v (.int w), s9', s10'])
  | [], f, k, s9, s10, _, _ => ⟨s9, s10, rfl⟩
  | y :: b, f, k, s9, s10, h, hf => by
    simp only [List.length_cons] at h
    obtain ⟨s9', s10', ih⟩ := w_div2 w p hp hw at_ S0 S1 S4 S5 S6 b (f.set (at_ + k) ((cf f (at_ + k) + -w * y) % p)) (k + 1) (.v (.int k)) (.v (.int y)) (by simp; omega) (by simp; omega)
    refine ⟨s9', s10', ?_⟩
    have hb := b_div2 w y p hp hw at_ k S0 S1 S4 S5 S6 f (by omega) hf
    rw [List.map_cons, enumD, mForL_cons (Γ1 := [S0, S1, .v (.int p), .o (f.map D.int), S4, S5, S6, .v (.int at_), .v (.int w), .v (.int k), .v (.int y)]) rfl hb]
    rw [addAtM, ← Nat.add_assoc] at *
    exact ih
theorem w_div1 (r : List Int) (hr : r ≠ []) (p bk : Int) (hp : 0 < p) (hp2 : p ≤ 1000) (hbk : 0 ≤ bk ∧ bk < p) (S0 : Sl) : ∀ (m : Nat) (l q : List Int) (s7 s8 s9 s10 : Sl), Red p l → m + (r.length - 1) ≤ l.length → m ≤ q.length → l.length ≤ 1000 → q.length ≤ 1000 →
    ∃ s7' s8' s9' s10', mForL (gN 7) Fb_divided_1 (dsc 0 m) [S0, .v (.tup (r.map D.int)), .v (.int p), .o (l.map D.int), .v (.int r.length), .v (.int bk), .o (q.map D.int), s7, s8, s9, s10] = .ok (.nx [S0, .v (.tup (r.map D.int)), .v (.int p), .o ((Rq.dvS p bk r m l q).1.map D.int), .v (.int r.length), .v (.int bk), .o ((Rq.dvS p bk r m l q).2.map D.int), s7', s8', s9', s10'])
  | 0, l, q, s7, s8, s9, s10, _, _, _, _, _ => ⟨s7, s8, s9, s10, rfl⟩
  | m + 1, l, q, s7, s8, s9, s10, h1, h2, h3, h4, h5 => by
    have hr0 : 0 < r.length := List.length_pos_iff.mpr hr
    rw [Rq.dvS]
    generalize hw : cf l (m + (r.length - 1)) * bk % p = w
    have hwb : 0 ≤ w ∧ w < p := by rw [← hw]; exact mod_bd hp _
    have hc := Rq.Red.bd hp h1 (m + (r.length - 1))
    obtain ⟨s9', s10', hi⟩ := w_div2 w p hp (by omega) m S0 (.v (.tup (r.map D.int))) (.v (.int r.length)) (.v (.int bk)) (.o ((q.set m w).map D.int)) r l 0 s9 s10 (by omega) h4
    have e3 : L2.atI (l.map D.int) ((m : Int) + (r.length : Int) - 1) = some (.int (cf l (m + (r.length - 1)))) := atI_ints' l _ _ (by omega) (by omega)
    have e4 : L2.ixN q.length (m : Int) = some m := ixN_nat rfl (by omega)
    have e5 := fMul_sml (i := cf l (m + (r.length - 1))) (j := bk) (by omega) (by omega)
    have e6 := fNe_int w 0
    rw [Nat.add_zero] at hi
    obtain ⟨r7, r8, r9, r10, ih⟩ := w_div1 r hr p bk hp hp2 hbk S0 m (addAtM p (-w) l m r) (q.set m w) (.v (.int m)) (.v (.int w)) (if w = 0 then s9 else s9') (if w = 0 then s10 else s10') (addAtM_red p _ h1 (by omega)) (by rw [addAtM_length]; omega) (by simp; omega) (by rw [addAtM_length]; omega) (by simp; omega)
    refine ⟨r7, r8, r9, r10, ?_⟩
    have hb : Fb_divided_1 [S0, .v (.tup (r.map D.int)), .v (.int p), .o (l.map D.int), .v (.int r.length), .v (.int bk), .o (q.map D.int), .v (.int m), s8, s9, s10] = .ok (.nx [S0, .v (.tup (r.map D.int)), .v (.int p), .o ((addAtM p (-w) l m r).map D.int), .v (.int r.length), .v (.int bk), .o ((q.set m w).map D.int), .v (.int m), .v (.int w), if w = 0 then s9 else s9', if w = 0 then s10 else s10']) := by
      by_cases hz : w = 0
      · subst hz
        rw [show -(0 : Int) = 0 from rfl, Rq.addAtM_zero p r l m h1]
        simp only [Fb_divided_1, Nw.lf, lf, lfA_ints, SZ, Nat.reduceLeDiff, z1, z2, z3, z4, z5, z6, z7, z8, z9, z10, z11, z12, z13, z14, z15, z16, z17, z18, z19, z20, z21, z22, z23, z24, Nat.zero_le, fin, finI, mSeq, mIf, mRet, mRetN, mDrop, mSet, mAsg, mPar, mAug, mSetIx, mMe, mFor, mIs, mEn, mZa, mN, mK, mA0, mA1, mB, mT, mAnd, mOr, mNot, mAndV, mOrV, mNotV, mIfE, mCh, mTup, mLst, mFz1, mFzA, fzL, fz1, mCall, mCallI, mAp, mAd, mNeg, mYes, mLc, mNx, mBad, mRaise, mBk, mCt, stB, gN, gs0, gs1, gT, rsA, rs, allV, BV.fz, Nw.bv, R.bind, nox, gt, two, fAdd_int, fSub, fCmp, fLen, fList, fTuple, fInt, fAbs, fMax, fMin, fIx, fSlH, fSlL, fSl, fRev, fIs, fNeg, isNon, Option.bind_some, Option.map_some, List.set_cons_zero, List.set_cons_succ, List.map_cons, List.map_nil, List.cons_append, List.nil_append, List.replicate, List.length_cons, List.length_nil, Nat.zero_add, Nat.reduceAdd, if_true, ite_true, reduceIte, wipeE, Bool.true_or, Bool.false_or, Bool.true_and, Bool.false_and, Bool.not_true, Bool.not_false, Bool.false_eq_true, if_false, e3, e5, fMod_pos hp, hw, List.length_map, e4, e6, List.map_set, decide_true]
      · simp only [Fb_divided_1, Nw.lf, lf, lfA_ints, SZ, Nat.reduceLeDiff, z1, z2, z3, z4, z5, z6, z7, z8, z9, z10, z11, z12, z13, z14, z15, z16, z17, z18, z19, z20, z21, z22, z23, z24, Nat.zero_le, fin, finI, mSeq, mIf, mRet, mRetN, mDrop, mSet, mAsg, mPar, mAug, mSetIx, mMe, mFor, mIs, mEn, mZa, mN, mK, mA0, mA1, mB, mT, mAnd, mOr, mNot, mAndV, mOrV, mNotV, mIfE, mCh, mTup, mLst, mFz1, mFzA, fzL, fz1, mCall, mCallI, mAp, mAd, mNeg, mYes, mLc, mNx, mBad, mRaise, mBk, mCt, stB, gN, gs0, gs1, gT, rsA, rs, allV, BV.fz, Nw.bv, R.bind, nox, gt, two, fAdd_int, fSub, fCmp, fLen, fList, fTuple, fInt, fAbs, fMax, fMin, fIx, fSlH, fSlL, fSl, fRev, fIs, fNeg, isNon, Option.bind_some, Option.map_some, List.set_cons_zero, List.set_cons_succ, List.map_cons, List.map_nil, List.cons_append, List.nil_append, List.replicate, List.length_cons, List.length_nil, Nat.zero_add, Nat.reduceAdd, if_true, ite_true, reduceIte, wipeE, Bool.true_or, Bool.false_or, Bool.true_and, Bool.false_and, Bool.not_true, Bool.not_false, Bool.false_eq_true, if_false, e3, e5, fMod_pos hp, hw, List.length_map, e4, e6, hz, decide_false, ← List.map_set, hi]
    rw [dsc, mForL_cons (Γ1 := [S0, .v (.tup (r.map D.int)), .v (.int p), .o (l.map D.int), .v (.int r.length), .v (.int bk), .o (q.map D.int), .v (.int m), s8, s9, s10]) rfl hb]
    exact ih
def qs (p : Int) (a r : List Int) : List Int := Rq.qt p (iv p (cf r (r.length - 1))) a r
def rs' (p : Int) (a r : List Int) : List Int := Rq.rm p (iv p (cf r (r.length - 1))) a r
theorem last_bd {p : Int} {r : List Int} (hp : p ∈ k_PRIMES) (h : Po p r) (hr : r ≠ []) : 0 < cf r (r.length - 1) ∧ cf r (r.length - 1) < p := by
  have h1 := pr_le p hp
  have h2 := h.cf (by omega) (r.length - 1)
  have h3 := trim_last h.t hr
  omega
theorem last_iv {p : Int} {r : List Int} (hp : p ∈ k_PRIMES) (h : Po p r) (hr : r ≠ []) : cf r (r.length - 1) * iv p (cf r (r.length - 1)) % p = 1 % p := by
  have h1 := pr_le p hp
  have h2 := last_bd hp h hr
  rw [(iv_ok hp h2.1 h2.2).1, Int.emod_eq_of_lt (by omega) (by omega)]
theorem qr_ok {p : Int} {a r : List Int} (hp : p ∈ k_PRIMES) (ha : Po p a) (hrp : Po p r) (hr : r ≠ []) :
    Po p (qs p a r) ∧ Po p (rs' p a r) ∧ (rs' p a r).length < r.length ∧ (qs p a r).length ≤ a.length + 1 - r.length ∧ Rq.s p a = Rq.s p (qs p a r) * Rq.s p r + Rq.s p (rs' p a r) :=
  Rq.qr_ok (by have := pr_le p hp; omega) ha hr (last_iv hp hrp hr)
theorem fMax_n (a b : List Int) : (if (a.length : Int) - (b.length : Int) + 1 > 0 then (a.length : Int) - (b.length : Int) + 1 else 0).toNat = a.length + 1 - b.length := by
  split <;> omega
theorem e_divided (a r : List Int) (p : Int) (hp : p ∈ k_PRIMES) (ha : Po p a) (hrp : Po p r) (hr : r ≠ []) (hla : a.length ≤ 500) (hlr : r.length ≤ 500) : M_divided [.tup (a.map D.int), .tup (r.map D.int), .int p] = .ok (.v (.tup [.tup ((qs p a r).map D.int), .tup ((rs' p a r).map D.int)])) := by
  have h2 := pr_le p hp
  have hr0 : 0 < r.length := List.length_pos_iff.mpr hr
  have hlb := last_bd hp hrp hr
  have hiv := iv_ok hp hlb.1 hlb.2
  have e1 := e_turned_over (cf r (r.length - 1)) p (by omega) (by omega) (by omega)
  have e2 : L2.atI (r.map D.int) (-1) = some (.int (cf r (r.length - 1))) := atI_lastI hr
  have e3 := fMul_l1 (.int 0) (if (a.length : Int) - (r.length : Int) + 1 > 0 then (a.length : Int) - (r.length : Int) + 1 else 0) (by split <;> omega) (by split <;> omega)
  rw [fMax_n, ← List.map_replicate] at e3
  generalize hiv' : iv p (cf r (r.length - 1)) = bk at *
  have hq := hiv'
  obtain ⟨r7, r8, r9, r10, hw⟩ : ∃ s7' s8' s9' s10', mForL (gN 7) Fb_divided_1 (rngD ((a.length : Int) - r.length) (-1) ((a.length : Int) - r.length - (-1)).toNat) [.v (.tup (a.map D.int)), .v (.tup (r.map D.int)), .v (.int p), .o (a.map D.int), .v (.int r.length), .v (.int bk), .o ((List.replicate (a.length + 1 - r.length) 0).map D.int), .no, .no, .no, .no] = .ok (.nx [.v (.tup (a.map D.int)), .v (.tup (r.map D.int)), .v (.int p), .o ((Rq.dvS p bk r (a.length + 1 - r.length) a (List.replicate (a.length + 1 - r.length) 0)).1.map D.int), .v (.int r.length), .v (.int bk), .o ((Rq.dvS p bk r (a.length + 1 - r.length) a (List.replicate (a.length + 1 - r.length) 0)).2.map D.int), s7', s8', s9', s10']) := by
    by_cases hl : a.length + 1 < r.length
    · have z1 : a.length + 1 - r.length = 0 := by omega
      have z2 : ((a.length : Int) - r.length - (-1)).toNat = 0 := by omega
      rw [z1, z2]
      exact ⟨_, _, _, _, rfl⟩
    · have z2 : ((a.length : Int) - r.length - (-1)).toNat = a.length + 1 - r.length := by omega
      have z3 : ((a.length : Int) - r.length) = ((a.length + 1 - r.length + 0 : Nat) : Int) - 1 := by omega
      rw [z2, z3, rng_dsc]
      exact w_div1 r hr p bk (by omega) (by omega) (by omega) _ _ _ _ _ _ _ _ (Rq.Po.red (by omega) ha) (by omega) (by simp) (by omega) (by simp; omega)
  have hd := Rq.dvS_len (p := p) bk r (a.length + 1 - r.length) a (List.replicate (a.length + 1 - r.length) 0)
  have c1 := e_cutL (Rq.dvS p bk r (a.length + 1 - r.length) a (List.replicate (a.length + 1 - r.length) 0)).2 (by rw [hd.2]; simp; omega)
  have c2 := e_cutL ((Rq.dvS p bk r (a.length + 1 - r.length) a (List.replicate (a.length + 1 - r.length) 0)).1.take (r.length - 1)) (by rw [List.length_take, hd.1]; omega)
  rw [Rq.rm_take (by omega) ha hr (by rw [← hiv']; exact last_iv hp hrp hr)] at c2
  have t1 : trim (Rq.dvS p bk r (a.length + 1 - r.length) a (List.replicate (a.length + 1 - r.length) 0)).2 = qs p a r := by unfold qs Rq.qt; rw [hiv']
  have t2 : Rq.rm p bk a r = rs' p a r := by unfold rs'; rw [hiv']
  rw [t1] at c1
  rw [t2] at c2
  generalize hL : (Rq.dvS p bk r (a.length + 1 - r.length) a (List.replicate (a.length + 1 - r.length) 0)) = L at *
  have e7 : ((r.length : Int) - 1) = ((r.length - 1 : Nat) : Int) := by omega
  have hc : cutD (L.1.map D.int) none (some ((r.length : Int) - 1)) = (L.1.take (r.length - 1)).map D.int := by rw [e7, cutD_take, List.map_take]
  have hr3 := mR3_n (ma := mA1 (mB (two fSub) (mA1 (mB fLen (mA1 (mN 0) mA0)) (mA1 (mN 4) mA0))) (mA1 (mNeg (mK (.int 1))) (mA1 (mNeg (mK (.int 1))) mA0))) (Γ := [.v (.tup (a.map D.int)), .v (.tup (r.map D.int)), .v (.int p), .o (a.map D.int), .v (.int r.length), .v (.int bk), .o ((List.replicate (a.length + 1 - r.length) 0).map D.int), .no, .no, .no, .no]) (Γ1 := [.v (.tup (a.map D.int)), .v (.tup (r.map D.int)), .v (.int p), .o (a.map D.int), .v (.int r.length), .v (.int bk), .o ((List.replicate (a.length + 1 - r.length) 0).map D.int), .no, .no, .no, .no]) (i := (a.length : Int) - r.length) (j := -1) (by simp only [Nw.lf, lf, lfA_ints, SZ, Nat.reduceLeDiff, z1, z2, z3, z4, z5, z6, z7, z8, z9, z10, z11, z12, z13, z14, z15, z16, z17, z18, z19, z20, z21, z22, z23, z24, Nat.zero_le, fin, finI, mSeq, mIf, mRet, mRetN, mDrop, mSet, mAsg, mPar, mAug, mSetIx, mMe, mFor, mIs, mEn, mZa, mN, mK, mA0, mA1, mB, mT, mAnd, mOr, mNot, mAndV, mOrV, mNotV, mIfE, mCh, mTup, mLst, mFz1, mFzA, fzL, fz1, mCall, mCallI, mAp, mAd, mNeg, mYes, mLc, mNx, mBad, mRaise, mBk, mCt, stB, gN, gs0, gs1, gT, rsA, rs, allV, BV.fz, Nw.bv, R.bind, nox, gt, two, fAdd_int, fSub, fCmp, fLen, fList, fTuple, fInt, fAbs, fMax, fMin, fIx, fSlH, fSlL, fSl, fRev, fIs, fNeg, isNon, Option.bind_some, Option.map_some, List.set_cons_zero, List.set_cons_succ, List.map_cons, List.map_nil, List.cons_append, List.nil_append, List.replicate, List.length_cons, List.length_nil, Nat.zero_add, Nat.reduceAdd, if_true, ite_true, reduceIte, wipeE, Bool.true_or, Bool.false_or, Bool.true_and, Bool.false_and, Bool.not_true, Bool.not_false, Bool.false_eq_true, if_false, List.length_map]) (by omega) (by omega)
  simp only [mNeg] at hr3
  simp only [M_divided, B_divided, Nw.lf, lf, lfA_ints, SZ, Nat.reduceLeDiff, z1, z2, z3, z4, z5, z6, z7, z8, z9, z10, z11, z12, z13, z14, z15, z16, z17, z18, z19, z20, z21, z22, z23, z24, Nat.zero_le, fin, finI, mSeq, mIf, mRet, mRetN, mDrop, mSet, mAsg, mPar, mAug, mSetIx, mMe, mFor, mIs, mEn, mZa, mN, mK, mA0, mA1, mB, mT, mAnd, mOr, mNot, mAndV, mOrV, mNotV, mIfE, mCh, mTup, mLst, mFz1, mFzA, fzL, fz1, mCall, mCallI, mAp, mAd, mNeg, mYes, mLc, mNx, mBad, mRaise, mBk, mCt, stB, gN, gs0, gs1, gT, rsA, rs, allV, BV.fz, Nw.bv, R.bind, nox, gt, two, fAdd_int, fSub, fCmp, fLen, fList, fTuple, fInt, fAbs, fMax, fMin, fIx, fSlH, fSlL, fSl, fRev, fIs, fNeg, isNon, Option.bind_some, Option.map_some, List.set_cons_zero, List.set_cons_succ, List.map_cons, List.map_nil, List.cons_append, List.nil_append, List.replicate, List.length_cons, List.length_nil, Nat.zero_add, Nat.reduceAdd, if_true, ite_true, reduceIte, wipeE, Bool.true_or, Bool.false_or, Bool.true_and, Bool.false_and, Bool.not_true, Bool.not_false, Bool.false_eq_true, if_false, List.length_map, e1, e2, e3, hr3, hw, hc, c1, c2]
theorem e_poly_parted (a r : List Int) (p : Int) (hp : p ∈ k_PRIMES) (ha : Po p a) (hrp : Po p r) (hr : r ≠ []) (hla : a.length ≤ 25) (hlr : r.length ≤ 25) : M_poly_parted [.tup (a.map D.int), .tup (r.map D.int), .int p] = .ok (.v (.tup [.tup ((qs p a r).map D.int), .tup ((rs' p a r).map D.int)])) := by
  have h1 := e_need_polys [a, r] p hp (by simp) (by simp; exact ⟨⟨ha, hla⟩, ⟨hrp, hlr⟩⟩)
  have h2 := e_divided a r p hp ha hrp hr (by omega) (by omega)
  simp only [List.map_cons, List.map_nil] at h1
  simp only [M_poly_parted, B_poly_parted, Nw.lf, lf, lfA_ints, SZ, Nat.reduceLeDiff, z1, z2, z3, z4, z5, z6, z7, z8, z9, z10, z11, z12, z13, z14, z15, z16, z17, z18, z19, z20, z21, z22, z23, z24, Nat.zero_le, fin, finI, mSeq, mIf, mRet, mRetN, mDrop, mSet, mAsg, mPar, mAug, mSetIx, mMe, mFor, mIs, mEn, mZa, mN, mK, mA0, mA1, mB, mT, mAnd, mOr, mNot, mAndV, mOrV, mNotV, mIfE, mCh, mTup, mLst, mFz1, mFzA, fzL, fz1, mCall, mCallI, mAp, mAd, mNeg, mYes, mLc, mNx, mBad, mRaise, mBk, mCt, stB, gN, gs0, gs1, gT, rsA, rs, allV, BV.fz, Nw.bv, R.bind, nox, gt, two, fAdd_int, fSub, fCmp, fLen, fList, fTuple, fInt, fAbs, fMax, fMin, fIx, fSlH, fSlL, fSl, fRev, fIs, fNeg, isNon, Option.bind_some, Option.map_some, List.set_cons_zero, List.set_cons_succ, List.map_cons, List.map_nil, List.cons_append, List.nil_append, List.replicate, List.length_cons, List.length_nil, Nat.zero_add, Nat.reduceAdd, if_true, ite_true, reduceIte, wipeE, Bool.true_or, Bool.false_or, Bool.true_and, Bool.false_and, Bool.not_true, Bool.not_false, Bool.false_eq_true, if_false, h1, fEq_tn, hr, decide_false, h2]
theorem z_poly_parted (a : List Int) (p : Int) (hp : p ∈ k_PRIMES) (ha : Po p a) (hla : a.length ≤ 25) : M_poly_parted [.tup (a.map D.int), .tup [], .int p] = .exc "NoInverse" [("word", .str "NoInverse")] := by
  have h0 : Po p [] := ⟨rfl, by simp⟩
  have h1 := e_need_polys [a, []] p hp (by simp) (by simp; exact ⟨⟨ha, hla⟩, h0⟩)
  simp only [List.map_cons, List.map_nil] at h1
  simp only [M_poly_parted, B_poly_parted, Nw.lf, lf, lfA_ints, SZ, Nat.reduceLeDiff, z1, z2, z3, z4, z5, z6, z7, z8, z9, z10, z11, z12, z13, z14, z15, z16, z17, z18, z19, z20, z21, z22, z23, z24, Nat.zero_le, fin, finI, mSeq, mIf, mRet, mRetN, mDrop, mSet, mAsg, mPar, mAug, mSetIx, mMe, mFor, mIs, mEn, mZa, mN, mK, mA0, mA1, mB, mT, mAnd, mOr, mNot, mAndV, mOrV, mNotV, mIfE, mCh, mTup, mLst, mFz1, mFzA, fzL, fz1, mCall, mCallI, mAp, mAd, mNeg, mYes, mLc, mNx, mBad, mRaise, mBk, mCt, stB, gN, gs0, gs1, gT, rsA, rs, allV, BV.fz, Nw.bv, R.bind, nox, gt, two, fAdd_int, fSub, fCmp, fLen, fList, fTuple, fInt, fAbs, fMax, fMin, fIx, fSlH, fSlL, fSl, fRev, fIs, fNeg, isNon, Option.bind_some, Option.map_some, List.set_cons_zero, List.set_cons_succ, List.map_cons, List.map_nil, List.cons_append, List.nil_append, List.replicate, List.length_cons, List.length_nil, Nat.zero_add, Nat.reduceAdd, if_true, ite_true, reduceIte, wipeE, Bool.true_or, Bool.false_or, Bool.true_and, Bool.false_and, Bool.not_true, Bool.not_false, Bool.false_eq_true, if_false, h1, fEq_nn]
  rfl
theorem b_cut2 (w y p : Int) (hp : 0 < p) (hw : -1000 ≤ w ∧ w ≤ 1000) (at_ k sz : Nat) (S0 S1 S5 S6 s11 : Sl) (f : List Int) (h : at_ + k < f.length) (hf : f.length ≤ 1000) : Fb__law_cut_by_2 [S0, S1, .v (.int p), .o (f.map D.int), .v (.int sz), S5, S6, .v (.int (at_ + sz : Nat)), .v (.int w), .v (.int k), .v (.int y), s11] = .ok (.nx [S0, S1, .v (.int p), .o ((f.set (at_ + k) ((cf f (at_ + k) + -w * y) % p)).map D.int), .v (.int sz), S5, S6, .v (.int (at_ + sz : Nat)), .v (.int w), .v (.int k), .v (.int y), .v (.int (at_ + k : Nat))]) := by
  have e0 : ((at_ + sz : Nat) : Int) - (sz : Int) + (k : Int) = ((at_ + k : Nat) : Int) := by omega
  have e3 : L2.atI (f.map D.int) ((at_ + k : Nat) : Int) = some (.int (cf f (at_ + k))) := atI_ints' f _ (at_ + k) rfl h
  have e4 : L2.ixN f.length ((at_ + k : Nat) : Int) = some (at_ + k) := ixN_nat rfl (by omega)
  have e5 := fMul_sml (i := w) (j := y) (by omega) (by omega)
  have e6 : cf f (at_ + k) + -w * y = cf f (at_ + k) - w * y := by grind
  rw [e6]
  simp only [Fb__law_cut_by_2, Nw.lf, lf, lfA_ints, SZ, Nat.reduceLeDiff, z1, z2, z3, z4, z5, z6, z7, z8, z9, z10, z11, z12, z13, z14, z15, z16, z17, z18, z19, z20, z21, z22, z23, z24, Nat.zero_le, fin, finI, mSeq, mIf, mRet, mRetN, mDrop, mSet, mAsg, mPar, mAug, mSetIx, mMe, mFor, mIs, mEn, mZa, mN, mK, mA0, mA1, mB, mT, mAnd, mOr, mNot, mAndV, mOrV, mNotV, mIfE, mCh, mTup, mLst, mFz1, mFzA, fzL, fz1, mCall, mCallI, mAp, mAd, mNeg, mYes, mLc, mNx, mBad, mRaise, mBk, mCt, stB, gN, gs0, gs1, gT, rsA, rs, allV, BV.fz, Nw.bv, R.bind, nox, gt, two, fAdd_int, fSub, fCmp, fLen, fList, fTuple, fInt, fAbs, fMax, fMin, fIx, fSlH, fSlL, fSl, fRev, fIs, fNeg, isNon, Option.bind_some, Option.map_some, List.set_cons_zero, List.set_cons_succ, List.map_cons, List.map_nil, List.cons_append, List.nil_append, List.replicate, List.length_cons, List.length_nil, Nat.zero_add, Nat.reduceAdd, if_true, ite_true, reduceIte, wipeE, Bool.true_or, Bool.false_or, Bool.true_and, Bool.false_and, Bool.not_true, Bool.not_false, Bool.false_eq_true, if_false, e0, e3, List.length_map, e4, e5, fMod_pos hp, List.map_set]
theorem w_cut2 (w p : Int) (hp : 0 < p) (hw : -1000 ≤ w ∧ w ≤ 1000) (at_ sz : Nat) (S0 S1 S5 S6 : Sl) : ∀ (b f : List Int) (k : Nat) (s9 s10 s11 : Sl), at_ + k + b.length ≤ f.length → f.length ≤ 1000 → ∃ s9' s10' s11', mForL (gT 2 (gs1 (gN 9) (gs1 (gN 10) gs0))) Fb__law_cut_by_2 (enumD k (b.map D.int)) [S0, S1, .v (.int p), .o (f.map D.int), .v (.int sz), S5, S6, .v (.int (at_ + sz : Nat)), .v (.int w), s9, s10, s11] = .ok (.nx [S0, S1, .v (.int p), .o ((addAtM p (-w) f (at_ + k) b).map D.int), .v (.int sz), S5, S6, .v (.int (at_ + sz : Nat)), .v (.int w), s9', s10', s11'])
  | [], f, k, s9, s10, s11, _, _ => ⟨s9, s10, s11, rfl⟩
  | y :: b, f, k, s9, s10, s11, h, hf => by
    simp only [List.length_cons] at h
    obtain ⟨s9', s10', s11', ih⟩ := w_cut2 w p hp hw at_ sz S0 S1 S5 S6 b (f.set (at_ + k) ((cf f (at_ + k) + -w * y) % p)) (k + 1) (.v (.int k)) (.v (.int y)) (.v (.int (at_ + k : Nat))) (by simp; omega) (by simp; omega)
    refine ⟨s9', s10', s11', ?_⟩
    have hb := b_cut2 w y p hp hw at_ k sz S0 S1 S5 S6 s11 f (by omega) hf
    rw [List.map_cons, enumD, mForL_cons (Γ1 := [S0, S1, .v (.int p), .o (f.map D.int), .v (.int sz), S5, S6, .v (.int (at_ + sz : Nat)), .v (.int w), .v (.int k), .v (.int y), s11]) rfl hb]
    rw [addAtM, ← Nat.add_assoc] at *
    exact ih
theorem w_cut1 (r : List Int) (hr : r ≠ []) (p bk : Int) (hp : 0 < p) (hp2 : p ≤ 1000) (hbk : 0 ≤ bk ∧ bk < p) (S0 : Sl) : ∀ (m : Nat) (l q : List Int) (s7 s8 s9 s10 s11 : Sl), Red p l → m + (r.length - 1) ≤ l.length → m ≤ q.length → l.length ≤ 1000 → q.length ≤ 1000 →
    ∃ s7' s8' s9' s10' s11', mForL (gN 7) Fb__law_cut_by_1 (dsc (r.length - 1) m) [S0, .v (.tup (r.map D.int)), .v (.int p), .o (l.map D.int), .v (.int (r.length - 1 : Nat)), .v (.int bk), .o (q.map D.int), s7, s8, s9, s10, s11] = .ok (.nx [S0, .v (.tup (r.map D.int)), .v (.int p), .o ((Rq.dvS p bk r m l q).1.map D.int), .v (.int (r.length - 1 : Nat)), .v (.int bk), .o ((Rq.dvS p bk r m l q).2.map D.int), s7', s8', s9', s10', s11'])
  | 0, l, q, s7, s8, s9, s10, s11, _, _, _, _, _ => ⟨s7, s8, s9, s10, s11, rfl⟩
  | m + 1, l, q, s7, s8, s9, s10, s11, h1, h2, h3, h4, h5 => by
    have hr0 : 0 < r.length := List.length_pos_iff.mpr hr
    rw [Rq.dvS]
    generalize hw : cf l (m + (r.length - 1)) * bk % p = w
    have hwb : 0 ≤ w ∧ w < p := by rw [← hw]; exact mod_bd hp _
    have hc := Rq.Red.bd hp h1 (m + (r.length - 1))
    obtain ⟨s9', s10', s11', hi⟩ := w_cut2 w p hp (by omega) m (r.length - 1) S0 (.v (.tup (r.map D.int))) (.v (.int bk)) (.o ((q.set m w).map D.int)) r l 0 s9 s10 s11 (by omega) h4
    have e3 : L2.atI (l.map D.int) ((m + (r.length - 1) : Nat) : Int) = some (.int (cf l (m + (r.length - 1)))) := atI_ints' l _ _ rfl (by omega)
    have e0 : ((m + (r.length - 1) : Nat) : Int) - ((r.length - 1 : Nat) : Int) = m := by omega
    have e4 : L2.ixN q.length (m : Int) = some m := ixN_nat rfl (by omega)
    have e5 := fMul_sml (i := cf l (m + (r.length - 1))) (j := bk) (by omega) (by omega)
    rw [Nat.add_zero] at hi
    obtain ⟨r7, r8, r9, r10, r11, ih⟩ := w_cut1 r hr p bk hp hp2 hbk S0 m (addAtM p (-w) l m r) (q.set m w) (.v (.int (m + (r.length - 1) : Nat))) (.v (.int w)) s9' s10' s11' (addAtM_red p _ h1 (by omega)) (by rw [addAtM_length]; omega) (by simp; omega) (by rw [addAtM_length]; omega) (by simp; omega)
    refine ⟨r7, r8, r9, r10, r11, ?_⟩
    have hb : Fb__law_cut_by_1 [S0, .v (.tup (r.map D.int)), .v (.int p), .o (l.map D.int), .v (.int (r.length - 1 : Nat)), .v (.int bk), .o (q.map D.int), .v (.int (m + (r.length - 1) : Nat)), s8, s9, s10, s11] = .ok (.nx [S0, .v (.tup (r.map D.int)), .v (.int p), .o ((addAtM p (-w) l m r).map D.int), .v (.int (r.length - 1 : Nat)), .v (.int bk), .o ((q.set m w).map D.int), .v (.int (m + (r.length - 1) : Nat)), .v (.int w), s9', s10', s11']) := by
      simp only [Fb__law_cut_by_1, Nw.lf, lf, lfA_ints, SZ, Nat.reduceLeDiff, z1, z2, z3, z4, z5, z6, z7, z8, z9, z10, z11, z12, z13, z14, z15, z16, z17, z18, z19, z20, z21, z22, z23, z24, Nat.zero_le, fin, finI, mSeq, mIf, mRet, mRetN, mDrop, mSet, mAsg, mPar, mAug, mSetIx, mMe, mFor, mIs, mEn, mZa, mN, mK, mA0, mA1, mB, mT, mAnd, mOr, mNot, mAndV, mOrV, mNotV, mIfE, mCh, mTup, mLst, mFz1, mFzA, fzL, fz1, mCall, mCallI, mAp, mAd, mNeg, mYes, mLc, mNx, mBad, mRaise, mBk, mCt, stB, gN, gs0, gs1, gT, rsA, rs, allV, BV.fz, Nw.bv, R.bind, nox, gt, two, fAdd_int, fSub, fCmp, fLen, fList, fTuple, fInt, fAbs, fMax, fMin, fIx, fSlH, fSlL, fSl, fRev, fIs, fNeg, isNon, Option.bind_some, Option.map_some, List.set_cons_zero, List.set_cons_succ, List.map_cons, List.map_nil, List.cons_append, List.nil_append, List.replicate, List.length_cons, List.length_nil, Nat.zero_add, Nat.reduceAdd, if_true, ite_true, reduceIte, wipeE, Bool.true_or, Bool.false_or, Bool.true_and, Bool.false_and, Bool.not_true, Bool.not_false, Bool.false_eq_true, if_false, e3, e0, e5, fMod_pos hp, hw, List.length_map, e4, ← List.map_set, hi]
    rw [dsc, mForL_cons (Γ1 := [S0, .v (.tup (r.map D.int)), .v (.int p), .o (l.map D.int), .v (.int (r.length - 1 : Nat)), .v (.int bk), .o (q.map D.int), .v (.int (m + (r.length - 1) : Nat)), s8, s9, s10, s11]) rfl hb]
    exact ih
theorem fMax_c (a b : List Int) (hb : b ≠ []) : (if (a.length : Int) - ((b.length - 1 : Nat) : Int) > 0 then (a.length : Int) - ((b.length - 1 : Nat) : Int) else 0).toNat = a.length + 1 - b.length := by
  have hr0 : 0 < b.length := List.length_pos_iff.mpr hb
  split <;> omega
theorem e__law_cut_by (a r : List Int) (p : Int) (hp : p ∈ k_PRIMES) (ha : Po p a) (hrp : Po p r) (hr : r ≠ []) (hla : a.length ≤ 500) (hlr : r.length ≤ 500) : M__law_cut_by [.tup (a.map D.int), .tup (r.map D.int), .int p] = .ok (.v (.tup [.tup ((qs p a r).map D.int), .tup ((rs' p a r).map D.int)])) := by
  have h2 := pr_le p hp
  have hr0 : 0 < r.length := List.length_pos_iff.mpr hr
  have hlb := last_bd hp hrp hr
  have hiv := iv_ok hp hlb.1 hlb.2
  have e1 := e__law_back (cf r (r.length - 1)) p hp hlb.1 hlb.2
  have e2 : L2.atI (r.map D.int) (-1) = some (.int (cf r (r.length - 1))) := atI_lastI hr
  have e0 : (r.length : Int) - 1 = ((r.length - 1 : Nat) : Int) := by omega
  have e3 := fMul_l1 (.int 0) (if (a.length : Int) - ((r.length - 1 : Nat) : Int) > 0 then (a.length : Int) - ((r.length - 1 : Nat) : Int) else 0) (by split <;> omega) (by split <;> omega)
  rw [fMax_c _ _ hr, ← List.map_replicate] at e3
  generalize hiv' : iv p (cf r (r.length - 1)) = bk at *
  obtain ⟨r7, r8, r9, r10, r11, hw⟩ : ∃ s7' s8' s9' s10' s11', mForL (gN 7) Fb__law_cut_by_1 (rngD ((a.length : Int) - 1) (-1) ((a.length : Int) - 1 - (((r.length - 1 : Nat) : Int) - 1)).toNat) [.v (.tup (a.map D.int)), .v (.tup (r.map D.int)), .v (.int p), .o (a.map D.int), .v (.int (r.length - 1 : Nat)), .v (.int bk), .o ((List.replicate (a.length + 1 - r.length) 0).map D.int), .no, .no, .no, .no, .no] = .ok (.nx [.v (.tup (a.map D.int)), .v (.tup (r.map D.int)), .v (.int p), .o ((Rq.dvS p bk r (a.length + 1 - r.length) a (List.replicate (a.length + 1 - r.length) 0)).1.map D.int), .v (.int (r.length - 1 : Nat)), .v (.int bk), .o ((Rq.dvS p bk r (a.length + 1 - r.length) a (List.replicate (a.length + 1 - r.length) 0)).2.map D.int), s7', s8', s9', s10', s11']) := by
    by_cases hl : a.length + 1 < r.length
    · have z1 : a.length + 1 - r.length = 0 := by omega
      have z2 : ((a.length : Int) - 1 - (((r.length - 1 : Nat) : Int) - 1)).toNat = 0 := by omega
      rw [z1, z2]
      exact ⟨_, _, _, _, _, rfl⟩
    · have z2 : ((a.length : Int) - 1 - (((r.length - 1 : Nat) : Int) - 1)).toNat = a.length + 1 - r.length := by omega
      have z3 : ((a.length : Int) - 1) = ((a.length + 1 - r.length + (r.length - 1) : Nat) : Int) - 1 := by omega
      rw [z2, z3, rng_dsc]
      exact w_cut1 r hr p bk (by omega) (by omega) (by omega) _ _ _ _ _ _ _ _ _ (Rq.Po.red (by omega) ha) (by omega) (by simp) (by omega) (by simp; omega)
  have hd := Rq.dvS_len (p := p) bk r (a.length + 1 - r.length) a (List.replicate (a.length + 1 - r.length) 0)
  have c1 := e__law_trimL (Rq.dvS p bk r (a.length + 1 - r.length) a (List.replicate (a.length + 1 - r.length) 0)).2 (by rw [hd.2]; simp; omega)
  have c2 := e__law_trimL ((Rq.dvS p bk r (a.length + 1 - r.length) a (List.replicate (a.length + 1 - r.length) 0)).1.take (r.length - 1)) (by rw [List.length_take, hd.1]; omega)
  rw [Rq.rm_take (by omega) ha hr (by rw [← hiv']; exact last_iv hp hrp hr)] at c2
  have t1 : trim (Rq.dvS p bk r (a.length + 1 - r.length) a (List.replicate (a.length + 1 - r.length) 0)).2 = qs p a r := by unfold qs Rq.qt; rw [hiv']
  have t2 : Rq.rm p bk a r = rs' p a r := by unfold rs'; rw [hiv']
  rw [t1] at c1
  rw [t2] at c2
  generalize hL : (Rq.dvS p bk r (a.length + 1 - r.length) a (List.replicate (a.length + 1 - r.length) 0)) = L at *
  have hc : cutD (L.1.map D.int) none (some ((r.length - 1 : Nat) : Int)) = (L.1.take (r.length - 1)).map D.int := by rw [cutD_take, List.map_take]
  have hr3 := mR3_n (ma := mA1 (mB (two fSub) (mA1 (mB fLen (mA1 (mN 0) mA0)) (mA1 (mK (.int 1)) mA0))) (mA1 (mB (two fSub) (mA1 (mN 4) (mA1 (mK (.int 1)) mA0))) (mA1 (mNeg (mK (.int 1))) mA0))) (Γ := [.v (.tup (a.map D.int)), .v (.tup (r.map D.int)), .v (.int p), .o (a.map D.int), .v (.int (r.length - 1 : Nat)), .v (.int bk), .o ((List.replicate (a.length + 1 - r.length) 0).map D.int), .no, .no, .no, .no, .no]) (Γ1 := [.v (.tup (a.map D.int)), .v (.tup (r.map D.int)), .v (.int p), .o (a.map D.int), .v (.int (r.length - 1 : Nat)), .v (.int bk), .o ((List.replicate (a.length + 1 - r.length) 0).map D.int), .no, .no, .no, .no, .no]) (i := (a.length : Int) - 1) (j := ((r.length - 1 : Nat) : Int) - 1) (by simp only [Nw.lf, lf, lfA_ints, SZ, Nat.reduceLeDiff, z1, z2, z3, z4, z5, z6, z7, z8, z9, z10, z11, z12, z13, z14, z15, z16, z17, z18, z19, z20, z21, z22, z23, z24, Nat.zero_le, fin, finI, mSeq, mIf, mRet, mRetN, mDrop, mSet, mAsg, mPar, mAug, mSetIx, mMe, mFor, mIs, mEn, mZa, mN, mK, mA0, mA1, mB, mT, mAnd, mOr, mNot, mAndV, mOrV, mNotV, mIfE, mCh, mTup, mLst, mFz1, mFzA, fzL, fz1, mCall, mCallI, mAp, mAd, mNeg, mYes, mLc, mNx, mBad, mRaise, mBk, mCt, stB, gN, gs0, gs1, gT, rsA, rs, allV, BV.fz, Nw.bv, R.bind, nox, gt, two, fAdd_int, fSub, fCmp, fLen, fList, fTuple, fInt, fAbs, fMax, fMin, fIx, fSlH, fSlL, fSl, fRev, fIs, fNeg, isNon, Option.bind_some, Option.map_some, List.set_cons_zero, List.set_cons_succ, List.map_cons, List.map_nil, List.cons_append, List.nil_append, List.replicate, List.length_cons, List.length_nil, Nat.zero_add, Nat.reduceAdd, if_true, ite_true, reduceIte, wipeE, Bool.true_or, Bool.false_or, Bool.true_and, Bool.false_and, Bool.not_true, Bool.not_false, Bool.false_eq_true, if_false, List.length_map]) (by omega) (by omega)
  simp only [mNeg] at hr3
  simp only [M__law_cut_by, B__law_cut_by, Nw.lf, lf, lfA_ints, SZ, Nat.reduceLeDiff, z1, z2, z3, z4, z5, z6, z7, z8, z9, z10, z11, z12, z13, z14, z15, z16, z17, z18, z19, z20, z21, z22, z23, z24, Nat.zero_le, fin, finI, mSeq, mIf, mRet, mRetN, mDrop, mSet, mAsg, mPar, mAug, mSetIx, mMe, mFor, mIs, mEn, mZa, mN, mK, mA0, mA1, mB, mT, mAnd, mOr, mNot, mAndV, mOrV, mNotV, mIfE, mCh, mTup, mLst, mFz1, mFzA, fzL, fz1, mCall, mCallI, mAp, mAd, mNeg, mYes, mLc, mNx, mBad, mRaise, mBk, mCt, stB, gN, gs0, gs1, gT, rsA, rs, allV, BV.fz, Nw.bv, R.bind, nox, gt, two, fAdd_int, fSub, fCmp, fLen, fList, fTuple, fInt, fAbs, fMax, fMin, fIx, fSlH, fSlL, fSl, fRev, fIs, fNeg, isNon, Option.bind_some, Option.map_some, List.set_cons_zero, List.set_cons_succ, List.map_cons, List.map_nil, List.cons_append, List.nil_append, List.replicate, List.length_cons, List.length_nil, Nat.zero_add, Nat.reduceAdd, if_true, ite_true, reduceIte, wipeE, Bool.true_or, Bool.false_or, Bool.true_and, Bool.false_and, Bool.not_true, Bool.not_false, Bool.false_eq_true, if_false, List.length_map, e0, e1, e2, e3, hr3, hw, hc, c1, c2]
end Mn
namespace Rq
open Rm
variable {p : Int}
theorem mu_zero : ∀ (n : Nat) (f g : F), (∀ i, f i = 0) → mu n f g = 0
  | 0, f, g, h => by simp [mu, h]
  | n + 1, f, g, h => by rw [mu, h 0, mu_zero n (tl f) g fun i => h (i + 1)]; simp
theorem mu_top : ∀ (m k : Nat) (f g : F), (∀ i, m < i → f i = 0) → (∀ i, k < i → g i = 0) → mu (m + k) f g = f m * g k
  | 0, 0, f, g, hf, hg => by simp [mu]
  | 0, k + 1, f, g, hf, hg => by
    rw [Nat.zero_add, mu, mu_zero k (tl f) g fun i => hf (i + 1) (by omega)]; simp
  | m + 1, k, f, g, hf, hg => by
    have e : m + 1 + k = m + k + 1 := by omega
    rw [e, mu, mu_top m k (tl f) g (fun i hi => hf (i + 1) (by omega)) hg, hg (m + k + 1) (by omega)]
    simp [tl]
def Pri (p : Int) : Prop := 1 < p ∧ ∀ x y : Int, 0 < x → x < p → 0 < y → y < p → x * y % p ≠ 0
theorem mul_len (hp : Pri p) {a b : List Int} (ha : Po p a) (hb : Po p b) (ha0 : a ≠ []) (hb0 : b ≠ []) : (mulP p a b).length = a.length + b.length - 1 := by
  have h1 : 0 < a.length := List.length_pos_iff.mpr ha0
  have h2 : 0 < b.length := List.length_pos_iff.mpr hb0
  have hp0 : 0 < p := by have := hp.1; omega
  have top : cf (mulP p a b) (a.length - 1 + (b.length - 1)) ≠ 0 := by
    rw [mulP_cf]
    have e := cv_mu b a 0 (a.length - 1 + (b.length - 1))
    rw [Nat.zero_add] at e
    rw [e, mu_top _ _ _ _ (fun i hi => cf_ge (by omega)) (fun i hi => cf_ge (by omega))]
    have c1 := ha.cf hp0 (a.length - 1)
    have c2 := hb.cf hp0 (b.length - 1)
    have c3 := trim_last ha.t ha0
    have c4 := trim_last hb.t hb0
    exact hp.2 _ _ (by omega) (by omega) (by omega) (by omega)
  have u := mulP_length (p := p) a b (a.length + b.length - 1) (by omega)
  by_cases l : a.length - 1 + (b.length - 1) < (mulP p a b).length
  · omega
  · exact absurd (cf_ge (by omega)) top
theorem s_less (a b : List Int) : s p (bl p (p - 1) a b) = s p a - s p b := by
  rw [s_bl, ic_sub, ic_p, ic_one]; grind
theorem s_plus (a b : List Int) : s p (bl p 1 a b) = s p a + s p b := by
  rw [s_bl, ic_one]; grind
theorem po_nil : Po p [] := ⟨rfl, by simp⟩
theorem s_eq_nil (hp : 0 < p) {a : List Int} (ha : Po p a) (h : s p a = 0) : a = [] := s_inj hp ha po_nil (by rw [h, s_nil])
theorem qr_uq (hp : Pri p) {q q' r t t' : List Int} (hq : Po p q) (hq' : Po p q') (hr : Po p r) (ht : Po p t) (ht' : Po p t') (hr0 : r ≠ []) (h : s p q * s p r + s p t = s p q' * s p r + s p t') (l : t.length < r.length) (l' : t'.length < r.length) : q = q' ∧ t = t' := by
  have hp0 : 0 < p := by have := hp.1; omega
  have hd : mulP p (bl p (p - 1) q q') r = bl p (p - 1) t' t := s_inj hp0 (Po.mulP hp0 ..) (Po.bl hp0 ..) (by
    rw [s_mulP, s_less, s_less]; grind)
  have dn : bl p (p - 1) q q' = [] := by
    apply Classical.byContradiction
    intro hn
    have h1 := mul_len hp (Po.bl hp0 (p - 1) q q') hr hn hr0
    have h2 := bl_length p (p - 1) t' t
    have h3 : 0 < (bl p (p - 1) q q').length := List.length_pos_iff.mpr hn
    rw [hd] at h1
    omega
  have e1 : s p q - s p q' = 0 := by rw [← s_less, dn, s_nil]
  have e2 : s p q = s p q' := by grind
  refine ⟨s_inj hp0 hq hq' e2, s_inj hp0 ht ht' ?_⟩
  rw [e2] at h; grind
theorem rm_uq (hp : Pri p) {bk : Int} {a r q t : List Int} (ha : Po p a) (hr : Po p r) (hr0 : r ≠ []) (hb : cf r (r.length - 1) * bk % p = 1 % p) (hq : Po p q) (ht : Po p t) (l : t.length < r.length) (h : s p a = s p q * s p r + s p t) : qt p bk a r = q ∧ rm p bk a r = t := by
  have hp0 : 0 < p := by have := hp.1; omega
  have k := qr_ok hp0 ha hr0 hb
  exact qr_uq hp k.1 hq hr k.2.1 ht hr0 (by rw [← k.2.2.2.2, ← h]) k.2.2.1 l
def Dvd (p : Int) (g a : List Int) : Prop := ∃ q, Po p q ∧ s p a = s p q * s p g
theorem Dvd.rm (hp : Pri p) {bk : Int} {a r : List Int} (ha : Po p a) (hr : Po p r) (hr0 : r ≠ []) (hb : cf r (r.length - 1) * bk % p = 1 % p) (h : Dvd p r a) : Rq.rm p bk a r = [] := by
  obtain ⟨q, hq, e⟩ := h
  exact (rm_uq hp ha hr hr0 hb hq po_nil (by have := List.length_pos_iff.mpr hr0; simpa using this) (by rw [e, s_nil]; grind)).2
theorem Dvd.self (hp : 1 < p) (a : List Int) : Dvd p a a := ⟨[1], ⟨by decide, by simp; omega⟩, by rw [s_one, ic_one]; grind⟩
theorem Dvd.zero (g : List Int) : Dvd p g [] := ⟨[], po_nil, by rw [s_nil]; grind⟩
theorem Dvd.comb (hp : 0 < p) {g a b x y c : List Int} (h1 : Dvd p g a) (h2 : Dvd p g b) (e : s p c = s p x * s p a + s p y * s p b) : Dvd p g c := by
  obtain ⟨q, hq, e1⟩ := h1
  obtain ⟨q', hq', e2⟩ := h2
  exact ⟨bl p 1 (mulP p x q) (mulP p y q'), Po.bl hp .., by rw [s_plus, s_mulP, s_mulP, e, e1, e2]; grind⟩
def scl (p w : Int) (a : List Int) : List Int := trim (a.map fun x => x * w % p)
theorem scl_cf (w : Int) (a : List Int) (k : Nat) : cf (scl p w a) k = cf a k * w % p := by
  rw [scl, trim_cf, cf_map _ (by simp)]
theorem s_scl (w : Int) (a : List Int) : s p (scl p w a) = icst w * s p a := by
  show _ = mul (mk p _) (mk p _)
  rw [mk_mul]
  exact s_mod fun k => by rw [scl_cf, mu_cst, Int.mul_comm]
theorem Po.scl (hp : 0 < p) (w : Int) (a : List Int) : Po p (scl p w a) := .of_cf (trim_trim _) fun k => by
  rw [scl_cf]; exact ⟨Int.emod_nonneg _ (by omega), Int.emod_lt_of_pos _ hp⟩
theorem scl_length (w : Int) (a : List Int) : (scl p w a).length ≤ a.length := by
  have := trim_length_le (a.map fun x => x * w % p); simpa [scl] using this
theorem ic_unit {w v : Int} (h : w * v % p = 1 % p) : (icst w : Sr p) * icst v = 1 := by
  rw [← ic_mul, ← ic_mod, h, ic_mod, ic_one]
theorem Dvd.scl (hp : 0 < p) {w v : Int} {g a : List Int} (h : w * v % p = 1 % p) (d : Dvd p g a) : Dvd p (Rq.scl p w g) a := by
  obtain ⟨q, hq, e⟩ := d
  refine ⟨Rq.scl p v q, Po.scl hp .., ?_⟩
  have := ic_unit h
  rw [s_scl, s_scl, e]; grind
theorem scl_last (hp : 1 < p) {w : Int} {a : List Int} (ha : a ≠ []) (h : cf a (a.length - 1) * w % p = 1 % p) : (scl p w a).length = a.length ∧ cf (scl p w a) (a.length - 1) = 1 := by
  have h1 : 0 < a.length := List.length_pos_iff.mpr ha
  have e : cf (scl p w a) (a.length - 1) = 1 := by rw [scl_cf, h]; exact Int.emod_eq_of_lt (by omega) hp
  have l := scl_length (p := p) w a
  refine ⟨?_, e⟩
  by_cases c : a.length - 1 < (scl p w a).length
  · omega
  · rw [cf_ge (by omega)] at e; simp at e
end Rq
namespace Mn
open PySem Rg Rm
theorem pri {p : Int} (hp : p ∈ k_PRIMES) : Rq.Pri p := by
  have h2 := pr_le p hp
  refine ⟨by omega, fun x y x0 x1 y0 y1 h => ?_⟩
  have hi := (iv_ok hp x0 x1).1
  have e1 : y % p = 0 := by
    have : x * y * iv p x % p = 0 := by rw [Int.mul_emod, h]; simp
    have e2 : x * y * iv p x = x * iv p x * y := by grind
    rw [e2, Int.mul_emod, hi, Int.one_mul, Int.emod_emod_of_dvd _ (Int.dvd_refl p)] at this
    exact this
  rw [Int.emod_eq_of_lt (by omega) y1] at e1
  omega
theorem rs_uq {p : Int} {a r q t : List Int} (hp : p ∈ k_PRIMES) (ha : Po p a) (hr : Po p r) (hr0 : r ≠ []) (hq : Po p q) (ht : Po p t) (l : t.length < r.length) (h : Rq.s p a = Rq.s p q * Rq.s p r + Rq.s p t) : qs p a r = q ∧ rs' p a r = t :=
  Rq.rm_uq (pri hp) ha hr hr0 (last_iv hp hr hr0) hq ht l h
theorem rs_dvd {p : Int} {a r : List Int} (hp : p ∈ k_PRIMES) (ha : Po p a) (hr : Po p r) (hr0 : r ≠ []) (h : Rq.Dvd p r a) : rs' p a r = [] :=
  Rq.Dvd.rm (pri hp) ha hr hr0 (last_iv hp hr hr0) h
theorem e_left_by (a r : List Int) (p : Int) (hp : p ∈ k_PRIMES) (ha : Po p a) (hrp : Po p r) (hr : r ≠ []) (hla : a.length ≤ 500) (hlr : r.length ≤ 500) : M_left_by [.tup (a.map D.int), .tup (r.map D.int), .int p] = .ok (.v (.tup ((rs' p a r).map D.int))) := by
  simp only [M_left_by, B_left_by, Nw.lf, lf, lfA_ints, SZ, Nat.reduceLeDiff, z1, z2, z3, z4, z5, z6, z7, z8, z9, z10, z11, z12, z13, z14, z15, z16, z17, z18, z19, z20, z21, z22, z23, z24, Nat.zero_le, fin, finI, mSeq, mIf, mRet, mRetN, mDrop, mSet, mAsg, mPar, mAug, mSetIx, mMe, mFor, mIs, mEn, mZa, mN, mK, mA0, mA1, mB, mT, mAnd, mOr, mNot, mAndV, mOrV, mNotV, mIfE, mCh, mTup, mLst, mFz1, mFzA, fzL, fz1, mCall, mCallI, mAp, mAd, mNeg, mYes, mLc, mNx, mBad, mRaise, mBk, mCt, stB, gN, gs0, gs1, gT, rsA, rs, allV, BV.fz, Nw.bv, R.bind, nox, gt, two, fAdd_int, fSub, fCmp, fLen, fList, fTuple, fInt, fAbs, fMax, fMin, fIx, fSlH, fSlL, fSl, fRev, fIs, fNeg, isNon, Option.bind_some, Option.map_some, List.set_cons_zero, List.set_cons_succ, List.map_cons, List.map_nil, List.cons_append, List.nil_append, List.replicate, List.length_cons, List.length_nil, Nat.zero_add, Nat.reduceAdd, if_true, ite_true, reduceIte, wipeE, Bool.true_or, Bool.false_or, Bool.true_and, Bool.false_and, Bool.not_true, Bool.not_false, Bool.false_eq_true, if_false, e_divided a r p hp ha hrp hr hla hlr, at2_1]
theorem e__law_rem (a r : List Int) (p : Int) (hp : p ∈ k_PRIMES) (ha : Po p a) (hrp : Po p r) (hr : r ≠ []) (hla : a.length ≤ 500) (hlr : r.length ≤ 500) : M__law_rem [.tup (a.map D.int), .tup (r.map D.int), .int p] = .ok (.v (.tup ((rs' p a r).map D.int))) := by
  simp only [M__law_rem, B__law_rem, Nw.lf, lf, lfA_ints, SZ, Nat.reduceLeDiff, z1, z2, z3, z4, z5, z6, z7, z8, z9, z10, z11, z12, z13, z14, z15, z16, z17, z18, z19, z20, z21, z22, z23, z24, Nat.zero_le, fin, finI, mSeq, mIf, mRet, mRetN, mDrop, mSet, mAsg, mPar, mAug, mSetIx, mMe, mFor, mIs, mEn, mZa, mN, mK, mA0, mA1, mB, mT, mAnd, mOr, mNot, mAndV, mOrV, mNotV, mIfE, mCh, mTup, mLst, mFz1, mFzA, fzL, fz1, mCall, mCallI, mAp, mAd, mNeg, mYes, mLc, mNx, mBad, mRaise, mBk, mCt, stB, gN, gs0, gs1, gT, rsA, rs, allV, BV.fz, Nw.bv, R.bind, nox, gt, two, fAdd_int, fSub, fCmp, fLen, fList, fTuple, fInt, fAbs, fMax, fMin, fIx, fSlH, fSlL, fSl, fRev, fIs, fNeg, isNon, Option.bind_some, Option.map_some, List.set_cons_zero, List.set_cons_succ, List.map_cons, List.map_nil, List.cons_append, List.nil_append, List.replicate, List.length_cons, List.length_nil, Nat.zero_add, Nat.reduceAdd, if_true, ite_true, reduceIte, wipeE, Bool.true_or, Bool.false_or, Bool.true_and, Bool.false_and, Bool.not_true, Bool.not_false, Bool.false_eq_true, if_false, e__law_cut_by a r p hp ha hrp hr hla hlr, at2_1]
theorem e_scaled (a : List Int) (w p : Int) (hp : 0 < p) (hw : -1000 ≤ w ∧ w ≤ 1000) (hla : a.length ≤ 500) : M_scaled [.tup (a.map D.int), .int w, .int p] = .ok (.v (.tup ((Rq.scl p w a).map D.int))) := by
  have hc := e_cutL (a.map fun x => x * w % p) (by simp; omega)
  have hl := mLc_map D.int (fun n => .int (n * w % p)) a (mi := mIs (mN 0)) (f := gN 3) (e := Le_scaled_1) (vs := [3])
    (Γ := [.v (.tup (a.map D.int)), .v (.int w), .v (.int p), .no]) (Γ1 := [.v (.tup (a.map D.int)), .v (.int w), .v (.int p), .no])
    (by simp only [Nw.lf, lf, lfA_ints, SZ, Nat.reduceLeDiff, z1, z2, z3, z4, z5, z6, z7, z8, z9, z10, z11, z12, z13, z14, z15, z16, z17, z18, z19, z20, z21, z22, z23, z24, Nat.zero_le, fin, finI, mSeq, mIf, mRet, mRetN, mDrop, mSet, mAsg, mPar, mAug, mSetIx, mMe, mFor, mIs, mEn, mZa, mN, mK, mA0, mA1, mB, mT, mAnd, mOr, mNot, mAndV, mOrV, mNotV, mIfE, mCh, mTup, mLst, mFz1, mFzA, fzL, fz1, mCall, mCallI, mAp, mAd, mNeg, mYes, mLc, mNx, mBad, mRaise, mBk, mCt, stB, gN, gs0, gs1, gT, rsA, rs, allV, BV.fz, Nw.bv, R.bind, nox, gt, two, fAdd_int, fSub, fCmp, fLen, fList, fTuple, fInt, fAbs, fMax, fMin, fIx, fSlH, fSlL, fSl, fRev, fIs, fNeg, isNon, Option.bind_some, Option.map_some, List.set_cons_zero, List.set_cons_succ, List.map_cons, List.map_nil, List.cons_append, List.nil_append, List.replicate, List.length_cons, List.length_nil, Nat.zero_add, Nat.reduceAdd, if_true, ite_true, reduceIte, wipeE, Bool.true_or, Bool.false_or, Bool.true_and, Bool.false_and, Bool.not_true, Bool.not_false, Bool.false_eq_true, if_false]) (by omega)
    (fun x hx => by
      have hm := fMul_sm (i := x) (j := w) (by omega) (by omega)
      exact ⟨_, _, rfl, by simp only [Le_scaled_1, Nw.lf, lf, lfA_ints, SZ, Nat.reduceLeDiff, z1, z2, z3, z4, z5, z6, z7, z8, z9, z10, z11, z12, z13, z14, z15, z16, z17, z18, z19, z20, z21, z22, z23, z24, Nat.zero_le, fin, finI, mSeq, mIf, mRet, mRetN, mDrop, mSet, mAsg, mPar, mAug, mSetIx, mMe, mFor, mIs, mEn, mZa, mN, mK, mA0, mA1, mB, mT, mAnd, mOr, mNot, mAndV, mOrV, mNotV, mIfE, mCh, mTup, mLst, mFz1, mFzA, fzL, fz1, mCall, mCallI, mAp, mAd, mNeg, mYes, mLc, mNx, mBad, mRaise, mBk, mCt, stB, gN, gs0, gs1, gT, rsA, rs, allV, BV.fz, Nw.bv, R.bind, nox, gt, two, fAdd_int, fSub, fCmp, fLen, fList, fTuple, fInt, fAbs, fMax, fMin, fIx, fSlH, fSlL, fSl, fRev, fIs, fNeg, isNon, Option.bind_some, Option.map_some, List.set_cons_zero, List.set_cons_succ, List.map_cons, List.map_nil, List.cons_append, List.nil_append, List.replicate, List.length_cons, List.length_nil, Nat.zero_add, Nat.reduceAdd, if_true, ite_true, reduceIte, wipeE, Bool.true_or, Bool.false_or, Bool.true_and, Bool.false_and, Bool.not_true, Bool.not_false, Bool.false_eq_true, if_false, hm, fMod_pos hp]; rfl, by rfl⟩)
  have hz : a.map (fun n => D.int (n * w % p)) = (a.map fun x => x * w % p).map D.int := by rw [List.map_map]; rfl
  rw [hz] at hl
  simp only [mLc, Nw.lf, lf, lfA_ints, SZ, Nat.reduceLeDiff, z1, z2, z3, z4, z5, z6, z7, z8, z9, z10, z11, z12, z13, z14, z15, z16, z17, z18, z19, z20, z21, z22, z23, z24, Nat.zero_le, fin, finI, mSeq, mIf, mRet, mRetN, mDrop, mSet, mAsg, mPar, mAug, mSetIx, mMe, mFor, mIs, mEn, mZa, mN, mK, mA0, mA1, mB, mT, mAnd, mOr, mNot, mAndV, mOrV, mNotV, mIfE, mCh, mTup, mLst, mFz1, mFzA, fzL, fz1, mCall, mCallI, mAp, mAd, mNeg, mYes, mLc, mNx, mBad, mRaise, mBk, mCt, stB, gN, gs0, gs1, gT, rsA, rs, allV, BV.fz, Nw.bv, R.bind, nox, gt, two, fAdd_int, fSub, fCmp, fLen, fList, fTuple, fInt, fAbs, fMax, fMin, fIx, fSlH, fSlL, fSl, fRev, fIs, fNeg, isNon, Option.bind_some, Option.map_some, List.set_cons_zero, List.set_cons_succ, List.map_cons, List.map_nil, List.cons_append, List.nil_append, List.replicate, List.length_cons, List.length_nil, Nat.zero_add, Nat.reduceAdd, if_true, ite_true, reduceIte, wipeE, Bool.true_or, Bool.false_or, Bool.true_and, Bool.false_and, Bool.not_true, Bool.not_false, Bool.false_eq_true, if_false] at hl
  simp only [M_scaled, B_scaled, Nw.lf, lf, lfA_ints, SZ, Nat.reduceLeDiff, z1, z2, z3, z4, z5, z6, z7, z8, z9, z10, z11, z12, z13, z14, z15, z16, z17, z18, z19, z20, z21, z22, z23, z24, Nat.zero_le, fin, finI, mSeq, mIf, mRet, mRetN, mDrop, mSet, mAsg, mPar, mAug, mSetIx, mMe, mFor, mIs, mEn, mZa, mN, mK, mA0, mA1, mB, mT, mAnd, mOr, mNot, mAndV, mOrV, mNotV, mIfE, mCh, mTup, mLst, mFz1, mFzA, fzL, fz1, mCall, mCallI, mAp, mAd, mNeg, mYes, mLc, mNx, mBad, mRaise, mBk, mCt, stB, gN, gs0, gs1, gT, rsA, rs, allV, BV.fz, Nw.bv, R.bind, nox, gt, two, fAdd_int, fSub, fCmp, fLen, fList, fTuple, fInt, fAbs, fMax, fMin, fIx, fSlH, fSlL, fSl, fRev, fIs, fNeg, isNon, Option.bind_some, Option.map_some, List.set_cons_zero, List.set_cons_succ, List.map_cons, List.map_nil, List.cons_append, List.nil_append, List.replicate, List.length_cons, List.length_nil, Nat.zero_add, Nat.reduceAdd, if_true, ite_true, reduceIte, wipeE, Bool.true_or, Bool.false_or, Bool.true_and, Bool.false_and, Bool.not_true, Bool.not_false, Bool.false_eq_true, if_false, hl, hc, Rq.scl]
theorem e__law_all_rests (a : List Int) (p : Int) (h : ∀ x ∈ a, 0 ≤ x ∧ x < p) (hla : a.length ≤ 500) : M__law_all_rests [.tup (a.map D.int), .int p] = .ok (.v (.bl true)) := by
  have hl := mLc_map D.int (fun n => .bl true) a (mi := mIs (mN 0)) (f := gN 2) (e := Le__law_all_rests_1) (vs := [2])
    (Γ := [.v (.tup (a.map D.int)), .v (.int p), .no]) (Γ1 := [.v (.tup (a.map D.int)), .v (.int p), .no])
    (by simp only [Nw.lf, lf, lfA_ints, SZ, Nat.reduceLeDiff, z1, z2, z3, z4, z5, z6, z7, z8, z9, z10, z11, z12, z13, z14, z15, z16, z17, z18, z19, z20, z21, z22, z23, z24, Nat.zero_le, fin, finI, mSeq, mIf, mRet, mRetN, mDrop, mSet, mAsg, mPar, mAug, mSetIx, mMe, mFor, mIs, mEn, mZa, mN, mK, mA0, mA1, mB, mT, mAnd, mOr, mNot, mAndV, mOrV, mNotV, mIfE, mCh, mTup, mLst, mFz1, mFzA, fzL, fz1, mCall, mCallI, mAp, mAd, mNeg, mYes, mLc, mNx, mBad, mRaise, mBk, mCt, stB, gN, gs0, gs1, gT, rsA, rs, allV, BV.fz, Nw.bv, R.bind, nox, gt, two, fAdd_int, fSub, fCmp, fLen, fList, fTuple, fInt, fAbs, fMax, fMin, fIx, fSlH, fSlL, fSl, fRev, fIs, fNeg, isNon, Option.bind_some, Option.map_some, List.set_cons_zero, List.set_cons_succ, List.map_cons, List.map_nil, List.cons_append, List.nil_append, List.replicate, List.length_cons, List.length_nil, Nat.zero_add, Nat.reduceAdd, if_true, ite_true, reduceIte, wipeE, Bool.true_or, Bool.false_or, Bool.true_and, Bool.false_and, Bool.not_true, Bool.not_false, Bool.false_eq_true, if_false]) (by omega)
    (fun x hx => by
      have := h x hx
      have h0 : decide ((0 : Int) ≤ x) = true := by simp; omega
      have h1 : decide (x < p) = true := by simp; omega
      exact ⟨_, _, rfl, by simp only [Le__law_all_rests_1, Nw.lf, lf, lfA_ints, SZ, Nat.reduceLeDiff, z1, z2, z3, z4, z5, z6, z7, z8, z9, z10, z11, z12, z13, z14, z15, z16, z17, z18, z19, z20, z21, z22, z23, z24, Nat.zero_le, fin, finI, mSeq, mIf, mRet, mRetN, mDrop, mSet, mAsg, mPar, mAug, mSetIx, mMe, mFor, mIs, mEn, mZa, mN, mK, mA0, mA1, mB, mT, mAnd, mOr, mNot, mAndV, mOrV, mNotV, mIfE, mCh, mTup, mLst, mFz1, mFzA, fzL, fz1, mCall, mCallI, mAp, mAd, mNeg, mYes, mLc, mNx, mBad, mRaise, mBk, mCt, stB, gN, gs0, gs1, gT, rsA, rs, allV, BV.fz, Nw.bv, R.bind, nox, gt, two, fAdd_int, fSub, fCmp, fLen, fList, fTuple, fInt, fAbs, fMax, fMin, fIx, fSlH, fSlL, fSl, fRev, fIs, fNeg, isNon, Option.bind_some, Option.map_some, List.set_cons_zero, List.set_cons_succ, List.map_cons, List.map_nil, List.cons_append, List.nil_append, List.replicate, List.length_cons, List.length_nil, Nat.zero_add, Nat.reduceAdd, if_true, ite_true, reduceIte, wipeE, Bool.true_or, Bool.false_or, Bool.true_and, Bool.false_and, Bool.not_true, Bool.not_false, Bool.false_eq_true, if_false, is_ii, is_bi, h0, h1]; rfl, by rfl⟩)
  simp only [mLc, Nw.lf, lf, lfA_ints, SZ, Nat.reduceLeDiff, z1, z2, z3, z4, z5, z6, z7, z8, z9, z10, z11, z12, z13, z14, z15, z16, z17, z18, z19, z20, z21, z22, z23, z24, Nat.zero_le, fin, finI, mSeq, mIf, mRet, mRetN, mDrop, mSet, mAsg, mPar, mAug, mSetIx, mMe, mFor, mIs, mEn, mZa, mN, mK, mA0, mA1, mB, mT, mAnd, mOr, mNot, mAndV, mOrV, mNotV, mIfE, mCh, mTup, mLst, mFz1, mFzA, fzL, fz1, mCall, mCallI, mAp, mAd, mNeg, mYes, mLc, mNx, mBad, mRaise, mBk, mCt, stB, gN, gs0, gs1, gT, rsA, rs, allV, BV.fz, Nw.bv, R.bind, nox, gt, two, fAdd_int, fSub, fCmp, fLen, fList, fTuple, fInt, fAbs, fMax, fMin, fIx, fSlH, fSlL, fSl, fRev, fIs, fNeg, isNon, Option.bind_some, Option.map_some, List.set_cons_zero, List.set_cons_succ, List.map_cons, List.map_nil, List.cons_append, List.nil_append, List.replicate, List.length_cons, List.length_nil, Nat.zero_add, Nat.reduceAdd, if_true, ite_true, reduceIte, wipeE, Bool.true_or, Bool.false_or, Bool.true_and, Bool.false_and, Bool.not_true, Bool.not_false, Bool.false_eq_true, if_false] at hl
  simp only [M__law_all_rests, B__law_all_rests, Nw.lf, lf, lfA_ints, SZ, Nat.reduceLeDiff, z1, z2, z3, z4, z5, z6, z7, z8, z9, z10, z11, z12, z13, z14, z15, z16, z17, z18, z19, z20, z21, z22, z23, z24, Nat.zero_le, fin, finI, mSeq, mIf, mRet, mRetN, mDrop, mSet, mAsg, mPar, mAug, mSetIx, mMe, mFor, mIs, mEn, mZa, mN, mK, mA0, mA1, mB, mT, mAnd, mOr, mNot, mAndV, mOrV, mNotV, mIfE, mCh, mTup, mLst, mFz1, mFzA, fzL, fz1, mCall, mCallI, mAp, mAd, mNeg, mYes, mLc, mNx, mBad, mRaise, mBk, mCt, stB, gN, gs0, gs1, gT, rsA, rs, allV, BV.fz, Nw.bv, R.bind, nox, gt, two, fAdd_int, fSub, fCmp, fLen, fList, fTuple, fInt, fAbs, fMax, fMin, fIx, fSlH, fSlL, fSl, fRev, fIs, fNeg, isNon, Option.bind_some, Option.map_some, List.set_cons_zero, List.set_cons_succ, List.map_cons, List.map_nil, List.cons_append, List.nil_append, List.replicate, List.length_cons, List.length_nil, Nat.zero_add, Nat.reduceAdd, if_true, ite_true, reduceIte, wipeE, Bool.true_or, Bool.false_or, Bool.true_and, Bool.false_and, Bool.not_true, Bool.not_false, Bool.false_eq_true, if_false, hl, fAll_true]
def dI (a : List Int) : D := .tup (a.map D.int)
theorem at3_0 (a b c : D) : L2.atI [a, b, c] 0 = some a := rfl
theorem at3_1 (a b c : D) : L2.atI [a, b, c] 1 = some b := rfl
theorem at3_2 (a b c : D) : L2.atI [a, b, c] 2 = some c := rfl
theorem e_step (x0 q x1 : List Int) (p : Int) (hp : p ∈ k_PRIMES) (hq : Po p q) (l0 : x0.length ≤ 100) (l1 : q.length ≤ 100) (l2 : x1.length ≤ 100) : M_multiplied [.tup (q.map D.int), .tup (x1.map D.int), .int p] = .ok (.v (.tup ((mulP p q x1).map D.int))) ∧ M_less [.tup (x0.map D.int), .tup ((mulP p q x1).map D.int), .int p] = .ok (.v (.tup ((bl p (p - 1) x0 (mulP p q x1)).map D.int))) := by
  have h2 := pr_le p hp
  have hm := mulP_length_le p q x1
  refine ⟨e_multiplied q x1 p (by omega) (fun x hx => by have := hq.r x hx; omega) (by omega) (by omega), ?_⟩
  rw [e_less]
  exact e_blended x0 (mulP p q x1) (p - 1) p (by omega) (by omega) (by omega) (by omega) (by omega)
theorem c_shared (g1 x1 y1 : List Int) (S0 S1 S2 S3 s5 s6 s7 s8 s9 s10 : Sl) : Wc_shared_1 [S0, S1, S2, S3, .v (.tup [.tup (g1.map D.int), .tup (x1.map D.int), .tup (y1.map D.int)]), s5, s6, s7, s8, s9, s10] = .ok (!decide (g1 = []), [S0, S1, S2, S3, .v (.tup [.tup (g1.map D.int), .tup (x1.map D.int), .tup (y1.map D.int)]), s5, s6, s7, s8, s9, s10]) := by
  simp only [Wc_shared_1, Nw.lf, lf, lfA_ints, SZ, Nat.reduceLeDiff, z1, z2, z3, z4, z5, z6, z7, z8, z9, z10, z11, z12, z13, z14, z15, z16, z17, z18, z19, z20, z21, z22, z23, z24, Nat.zero_le, fin, finI, mSeq, mIf, mRet, mRetN, mDrop, mSet, mAsg, mPar, mAug, mSetIx, mMe, mFor, mIs, mEn, mZa, mN, mK, mA0, mA1, mB, mT, mAnd, mOr, mNot, mAndV, mOrV, mNotV, mIfE, mCh, mTup, mLst, mFz1, mFzA, fzL, fz1, mCall, mCallI, mAp, mAd, mNeg, mYes, mLc, mNx, mBad, mRaise, mBk, mCt, stB, gN, gs0, gs1, gT, rsA, rs, allV, BV.fz, Nw.bv, R.bind, nox, gt, two, fAdd_int, fSub, fCmp, fLen, fList, fTuple, fInt, fAbs, fMax, fMin, fIx, fSlH, fSlL, fSl, fRev, fIs, fNeg, isNon, Option.bind_some, Option.map_some, List.set_cons_zero, List.set_cons_succ, List.map_cons, List.map_nil, List.cons_append, List.nil_append, List.replicate, List.length_cons, List.length_nil, Nat.zero_add, Nat.reduceAdd, if_true, ite_true, reduceIte, wipeE, Bool.true_or, Bool.false_or, Bool.true_and, Bool.false_and, Bool.not_true, Bool.not_false, Bool.false_eq_true, if_false, at3_0, fNe_tn]
theorem b_shared (g0 x0 y0 g1 x1 y1 : List Int) (p : Int) (hp : p ∈ k_PRIMES) (h0 : Po p g0) (h1 : Po p g1) (hn : g1 ≠ []) (l0 : g0.length ≤ 50) (l1 : g1.length ≤ 50) (lx0 : x0.length ≤ 50) (lx1 : x1.length ≤ 50) (ly0 : y0.length ≤ 50) (ly1 : y1.length ≤ 50) (S0 S1 s5 s6 s7 s8 s10 : Sl) :
    ∃ r5 r6 r7, Wb_shared_1 [S0, S1, .v (.int p), .v (.tup [.tup (g0.map D.int), .tup (x0.map D.int), .tup (y0.map D.int)]), .v (.tup [.tup (g1.map D.int), .tup (x1.map D.int), .tup (y1.map D.int)]), s5, s6, s7, s8, .no, s10] =
      .ok (.nx [S0, S1, .v (.int p), .v (.tup [.tup (g1.map D.int), .tup (x1.map D.int), .tup (y1.map D.int)]), .v (.tup [.tup ((rs' p g0 g1).map D.int), .tup ((bl p (p - 1) x0 (mulP p (qs p g0 g1) x1)).map D.int), .tup ((bl p (p - 1) y0 (mulP p (qs p g0 g1) y1)).map D.int)]), r5, r6, r7, s8, .no, s10]) := by
  have hd := e_divided g0 g1 p hp h0 h1 hn (by omega) (by omega)
  have hq := qr_ok hp h0 h1 hn
  have ex := e_step x0 (qs p g0 g1) x1 p hp hq.1 (by omega) (by omega) (by omega)
  have ey := e_step y0 (qs p g0 g1) y1 p hp hq.1 (by omega) (by omega) (by omega)
  have hl := mLc_map D.int (fun n => if n = 1 then .tup ((bl p (p - 1) x0 (mulP p (qs p g0 g1) x1)).map D.int) else .tup ((bl p (p - 1) y0 (mulP p (qs p g0 g1) y1)).map D.int)) [1, 2] (mi := mIs (mTup (mA1 (mK (.int 1)) (mA1 (mK (.int 2)) mA0)))) (f := gN 9) (e := Le_shared_2) (vs := [9])
    (Γ := [S0, S1, .v (.int p), .v (.tup [.tup (g0.map D.int), .tup (x0.map D.int), .tup (y0.map D.int)]), .v (.tup [.tup (g1.map D.int), .tup (x1.map D.int), .tup (y1.map D.int)]), .v (.tup ((qs p g0 g1).map D.int)), .v (.tup ((rs' p g0 g1).map D.int)), s7, s8, .no, s10])
    (Γ1 := [S0, S1, .v (.int p), .v (.tup [.tup (g0.map D.int), .tup (x0.map D.int), .tup (y0.map D.int)]), .v (.tup [.tup (g1.map D.int), .tup (x1.map D.int), .tup (y1.map D.int)]), .v (.tup ((qs p g0 g1).map D.int)), .v (.tup ((rs' p g0 g1).map D.int)), s7, s8, .no, s10])
    (by simp only [Nw.lf, lf, lfA_ints, SZ, Nat.reduceLeDiff, z1, z2, z3, z4, z5, z6, z7, z8, z9, z10, z11, z12, z13, z14, z15, z16, z17, z18, z19, z20, z21, z22, z23, z24, Nat.zero_le, fin, finI, mSeq, mIf, mRet, mRetN, mDrop, mSet, mAsg, mPar, mAug, mSetIx, mMe, mFor, mIs, mEn, mZa, mN, mK, mA0, mA1, mB, mT, mAnd, mOr, mNot, mAndV, mOrV, mNotV, mIfE, mCh, mTup, mLst, mFz1, mFzA, fzL, fz1, mCall, mCallI, mAp, mAd, mNeg, mYes, mLc, mNx, mBad, mRaise, mBk, mCt, stB, gN, gs0, gs1, gT, rsA, rs, allV, BV.fz, Nw.bv, R.bind, nox, gt, two, fAdd_int, fSub, fCmp, fLen, fList, fTuple, fInt, fAbs, fMax, fMin, fIx, fSlH, fSlL, fSl, fRev, fIs, fNeg, isNon, Option.bind_some, Option.map_some, List.set_cons_zero, List.set_cons_succ, List.map_cons, List.map_nil, List.cons_append, List.nil_append, List.replicate, List.length_cons, List.length_nil, Nat.zero_add, Nat.reduceAdd, if_true, ite_true, reduceIte, wipeE, Bool.true_or, Bool.false_or, Bool.true_and, Bool.false_and, Bool.not_true, Bool.not_false, Bool.false_eq_true, if_false]) (by simp)
    (fun n hn => by
      simp only [List.mem_cons, List.not_mem_nil, or_false] at hn
      rcases hn with rfl | rfl
      · exact ⟨_, _, rfl, by simp only [Le_shared_2, Nw.lf, lf, lfA_ints, SZ, Nat.reduceLeDiff, z1, z2, z3, z4, z5, z6, z7, z8, z9, z10, z11, z12, z13, z14, z15, z16, z17, z18, z19, z20, z21, z22, z23, z24, Nat.zero_le, fin, finI, mSeq, mIf, mRet, mRetN, mDrop, mSet, mAsg, mPar, mAug, mSetIx, mMe, mFor, mIs, mEn, mZa, mN, mK, mA0, mA1, mB, mT, mAnd, mOr, mNot, mAndV, mOrV, mNotV, mIfE, mCh, mTup, mLst, mFz1, mFzA, fzL, fz1, mCall, mCallI, mAp, mAd, mNeg, mYes, mLc, mNx, mBad, mRaise, mBk, mCt, stB, gN, gs0, gs1, gT, rsA, rs, allV, BV.fz, Nw.bv, R.bind, nox, gt, two, fAdd_int, fSub, fCmp, fLen, fList, fTuple, fInt, fAbs, fMax, fMin, fIx, fSlH, fSlL, fSl, fRev, fIs, fNeg, isNon, Option.bind_some, Option.map_some, List.set_cons_zero, List.set_cons_succ, List.map_cons, List.map_nil, List.cons_append, List.nil_append, List.replicate, List.length_cons, List.length_nil, Nat.zero_add, Nat.reduceAdd, if_true, ite_true, reduceIte, wipeE, Bool.true_or, Bool.false_or, Bool.true_and, Bool.false_and, Bool.not_true, Bool.not_false, Bool.false_eq_true, if_false, at3_1, ex.1, ex.2]; rfl, by rfl⟩
      · exact ⟨_, _, rfl, by simp only [Le_shared_2, Nw.lf, lf, lfA_ints, SZ, Nat.reduceLeDiff, z1, z2, z3, z4, z5, z6, z7, z8, z9, z10, z11, z12, z13, z14, z15, z16, z17, z18, z19, z20, z21, z22, z23, z24, Nat.zero_le, fin, finI, mSeq, mIf, mRet, mRetN, mDrop, mSet, mAsg, mPar, mAug, mSetIx, mMe, mFor, mIs, mEn, mZa, mN, mK, mA0, mA1, mB, mT, mAnd, mOr, mNot, mAndV, mOrV, mNotV, mIfE, mCh, mTup, mLst, mFz1, mFzA, fzL, fz1, mCall, mCallI, mAp, mAd, mNeg, mYes, mLc, mNx, mBad, mRaise, mBk, mCt, stB, gN, gs0, gs1, gT, rsA, rs, allV, BV.fz, Nw.bv, R.bind, nox, gt, two, fAdd_int, fSub, fCmp, fLen, fList, fTuple, fInt, fAbs, fMax, fMin, fIx, fSlH, fSlL, fSl, fRev, fIs, fNeg, isNon, Option.bind_some, Option.map_some, List.set_cons_zero, List.set_cons_succ, List.map_cons, List.map_nil, List.cons_append, List.nil_append, List.replicate, List.length_cons, List.length_nil, Nat.zero_add, Nat.reduceAdd, if_true, ite_true, reduceIte, wipeE, Bool.true_or, Bool.false_or, Bool.true_and, Bool.false_and, Bool.not_true, Bool.not_false, Bool.false_eq_true, if_false, at3_2, ey.1, ey.2]; rfl, by rfl⟩)
  simp only [List.map_cons, List.map_nil, if_true, show ¬ ((2 : Int) = 1) from by omega, if_false] at hl
  refine ⟨.v (.tup ((qs p g0 g1).map D.int)), .v (.tup ((rs' p g0 g1).map D.int)), .o [.tup ((bl p (p - 1) x0 (mulP p (qs p g0 g1) x1)).map D.int), .tup ((bl p (p - 1) y0 (mulP p (qs p g0 g1) y1)).map D.int)], ?_⟩
  unfold Wb_shared_1
  refine (mSeq_nx (by simp only [Nw.lf, lf, lfA_ints, SZ, Nat.reduceLeDiff, z1, z2, z3, z4, z5, z6, z7, z8, z9, z10, z11, z12, z13, z14, z15, z16, z17, z18, z19, z20, z21, z22, z23, z24, Nat.zero_le, fin, finI, mSeq, mIf, mRet, mRetN, mDrop, mSet, mAsg, mPar, mAug, mSetIx, mMe, mFor, mIs, mEn, mZa, mN, mK, mA0, mA1, mB, mT, mAnd, mOr, mNot, mAndV, mOrV, mNotV, mIfE, mCh, mTup, mLst, mFz1, mFzA, fzL, fz1, mCall, mCallI, mAp, mAd, mNeg, mYes, mLc, mNx, mBad, mRaise, mBk, mCt, stB, gN, gs0, gs1, gT, rsA, rs, allV, BV.fz, Nw.bv, R.bind, nox, gt, two, fAdd_int, fSub, fCmp, fLen, fList, fTuple, fInt, fAbs, fMax, fMin, fIx, fSlH, fSlL, fSl, fRev, fIs, fNeg, isNon, Option.bind_some, Option.map_some, List.set_cons_zero, List.set_cons_succ, List.map_cons, List.map_nil, List.cons_append, List.nil_append, List.replicate, List.length_cons, List.length_nil, Nat.zero_add, Nat.reduceAdd, if_true, ite_true, reduceIte, wipeE, Bool.true_or, Bool.false_or, Bool.true_and, Bool.false_and, Bool.not_true, Bool.not_false, Bool.false_eq_true, if_false, at3_0, hd]; rfl)).trans ?_
  refine (mSeq_nx (by
    rw [mSet, hl]
    simp only [Nw.lf, lf, lfA_ints, SZ, Nat.reduceLeDiff, z1, z2, z3, z4, z5, z6, z7, z8, z9, z10, z11, z12, z13, z14, z15, z16, z17, z18, z19, z20, z21, z22, z23, z24, Nat.zero_le, fin, finI, mSeq, mIf, mRet, mRetN, mDrop, mSet, mAsg, mPar, mAug, mSetIx, mMe, mFor, mIs, mEn, mZa, mN, mK, mA0, mA1, mB, mT, mAnd, mOr, mNot, mAndV, mOrV, mNotV, mIfE, mCh, mTup, mLst, mFz1, mFzA, fzL, fz1, mCall, mCallI, mAp, mAd, mNeg, mYes, mLc, mNx, mBad, mRaise, mBk, mCt, stB, gN, gs0, gs1, gT, rsA, rs, allV, BV.fz, Nw.bv, R.bind, nox, gt, two, fAdd_int, fSub, fCmp, fLen, fList, fTuple, fInt, fAbs, fMax, fMin, fIx, fSlH, fSlL, fSl, fRev, fIs, fNeg, isNon, Option.bind_some, Option.map_some, List.set_cons_zero, List.set_cons_succ, List.map_cons, List.map_nil, List.cons_append, List.nil_append, List.replicate, List.length_cons, List.length_nil, Nat.zero_add, Nat.reduceAdd, if_true, ite_true, reduceIte, wipeE, Bool.true_or, Bool.false_or, Bool.true_and, Bool.false_and, Bool.not_true, Bool.not_false, Bool.false_eq_true, if_false]; rfl)).trans ?_
  simp only [Nw.lf, lf, lfA_ints, SZ, Nat.reduceLeDiff, z1, z2, z3, z4, z5, z6, z7, z8, z9, z10, z11, z12, z13, z14, z15, z16, z17, z18, z19, z20, z21, z22, z23, z24, Nat.zero_le, fin, finI, mSeq, mIf, mRet, mRetN, mDrop, mSet, mAsg, mPar, mAug, mSetIx, mMe, mFor, mIs, mEn, mZa, mN, mK, mA0, mA1, mB, mT, mAnd, mOr, mNot, mAndV, mOrV, mNotV, mIfE, mCh, mTup, mLst, mFz1, mFzA, fzL, fz1, mCall, mCallI, mAp, mAd, mNeg, mYes, mLc, mNx, mBad, mRaise, mBk, mCt, stB, gN, gs0, gs1, gT, rsA, rs, allV, BV.fz, Nw.bv, R.bind, nox, gt, two, fAdd_int, fSub, fCmp, fLen, fList, fTuple, fInt, fAbs, fMax, fMin, fIx, fSlH, fSlL, fSl, fRev, fIs, fNeg, isNon, Option.bind_some, Option.map_some, List.set_cons_zero, List.set_cons_succ, List.map_cons, List.map_nil, List.cons_append, List.nil_append, List.replicate, List.length_cons, List.length_nil, Nat.zero_add, Nat.reduceAdd, if_true, ite_true, reduceIte, wipeE, Bool.true_or, Bool.false_or, Bool.true_and, Bool.false_and, Bool.not_true, Bool.not_false, Bool.false_eq_true, if_false, at2_0, at2_1]
theorem w_shared (A B : Rq.Sr p) (hp : p ∈ k_PRIMES) (S0 S1 : Sl) (N : Nat) (hN : N ≤ 50) : ∀ (n fuel : Nat) (g0 x0 y0 g1 x1 y1 : List Int) (s5 s6 s7 : Sl), g1.length ≤ n → n < fuel → Po p g0 → Po p x0 → Po p y0 → Po p g1 → Po p x1 → Po p y1 →
    x0.length + max g0.length g1.length ≤ N → x1.length + max g0.length g1.length ≤ N → y0.length + max g0.length g1.length ≤ N → y1.length + max g0.length g1.length ≤ N →
    Rq.s p g0 = Rq.s p x0 * A + Rq.s p y0 * B → Rq.s p g1 = Rq.s p x1 * A + Rq.s p y1 * B →
    ∃ g x y s4 r5 r6 r7, mWh Wc_shared_1 Wb_shared_1 fuel [S0, S1, .v (.int p), .v (.tup [.tup (g0.map D.int), .tup (x0.map D.int), .tup (y0.map D.int)]), .v (.tup [.tup (g1.map D.int), .tup (x1.map D.int), .tup (y1.map D.int)]), s5, s6, s7, .no, .no, .no] = .ok (.nx [S0, S1, .v (.int p), .v (.tup [.tup (g.map D.int), .tup (x.map D.int), .tup (y.map D.int)]), s4, r5, r6, r7, .no, .no, .no]) ∧
      Po p g ∧ Po p x ∧ Po p y ∧ g.length ≤ N ∧ x.length ≤ N ∧ y.length ≤ N ∧ Rq.s p g = Rq.s p x * A + Rq.s p y * B ∧ Rq.Dvd p g g0 ∧ Rq.Dvd p g g1 := by
  intro n
  have h2 := pr_le p hp
  induction n with
  | zero =>
    intro fuel g0 x0 y0 g1 x1 y1 s5 s6 s7 hl hf h0 hx0 hy0 h1 hx1 hy1 a1 a2 a3 a4 e0 e1
    have hz : g1 = [] := List.eq_nil_of_length_eq_zero (by omega)
    subst hz
    refine ⟨g0, x0, y0, .v (.tup [.tup ([].map D.int), .tup (x1.map D.int), .tup (y1.map D.int)]), s5, s6, s7, ?_, h0, hx0, hy0, by omega, by omega, by omega, e0, Rq.Dvd.self (by omega) _, Rq.Dvd.zero _⟩
    rw [mWh_pos (by omega), c_shared]
    simp [R.bind]
  | succ n ih =>
    intro fuel g0 x0 y0 g1 x1 y1 s5 s6 s7 hl hf h0 hx0 hy0 h1 hx1 hy1 a1 a2 a3 a4 e0 e1
    by_cases hz : g1 = []
    · subst hz
      refine ⟨g0, x0, y0, .v (.tup [.tup ([].map D.int), .tup (x1.map D.int), .tup (y1.map D.int)]), s5, s6, s7, ?_, h0, hx0, hy0, by omega, by omega, by omega, e0, Rq.Dvd.self (by omega) _, Rq.Dvd.zero _⟩
      rw [mWh_pos (by omega), c_shared]
      simp [R.bind]
    · have hq := qr_ok hp h0 h1 hz
      have hl1 : 0 < g1.length := List.length_pos_iff.mpr hz
      obtain ⟨r5, r6, r7, hb⟩ := b_shared g0 x0 y0 g1 x1 y1 p hp h0 h1 hz (by omega) (by omega) (by omega) (by omega) (by omega) (by omega) S0 S1 s5 s6 s7 .no .no
      have len : ∀ x0 x1 : List Int, x0.length + max g0.length g1.length ≤ N → x1.length + max g0.length g1.length ≤ N → (bl p (p - 1) x0 (mulP p (qs p g0 g1) x1)).length + g1.length ≤ N := by
        intro x0 x1 k0 k1
        have b1 := bl_length p (p - 1) x0 (mulP p (qs p g0 g1) x1)
        by_cases c : g0.length + 1 ≤ g1.length
        · have : qs p g0 g1 = [] := List.eq_nil_of_length_eq_zero (by omega)
          rw [this, mulP_nil_l] at b1
          simp only [List.length_nil] at b1
          rw [this, mulP_nil_l]
          omega
        · by_cases c2 : x1 = []
          · subst c2
            rw [mulP_nil_r] at b1 ⊢
            simp only [List.length_nil] at b1
            omega
          · have : 0 < x1.length := List.length_pos_iff.mpr c2
            have b2 := mulP_length (p := p) (qs p g0 g1) x1 (g0.length - g1.length + x1.length) (by omega)
            omega
      have lx := len x0 x1 a1 a2
      have ly := len y0 y1 a3 a4
      obtain ⟨g, x, y, s4, t5, t6, t7, hw, pg, px, py, lg, lx', ly', eg, dg0, dg1⟩ := ih (fuel - 1) g1 x1 y1 (rs' p g0 g1) (bl p (p - 1) x0 (mulP p (qs p g0 g1) x1)) (bl p (p - 1) y0 (mulP p (qs p g0 g1) y1)) r5 r6 r7 (by omega) (by omega) h1 hx1 hy1 hq.2.1 (Po.bl (by omega) ..) (Po.bl (by omega) ..) (by omega) (by omega) (by omega) (by omega) e1
        (by
          have := hq.2.2.2.2
          rw [Rq.s_less, Rq.s_less, Rq.s_mulP, Rq.s_mulP]
          grind)
      refine ⟨g, x, y, s4, t5, t6, t7, ?_, pg, px, py, lg, lx', ly', eg, ?_, dg0⟩
      · rw [mWh_pos (by omega), c_shared]
        simp only [R.bind, hz, decide_false, Bool.not_false, if_true, hb]
        exact hw
      · refine Rq.Dvd.comb (by omega) (x := qs p g0 g1) (y := [1]) dg0 dg1 ?_
        rw [hq.2.2.2.2, Rq.s_one, Rq.ic_one]; grind
structure Cm (p : Int) (a b g x y : List Int) : Prop where
  pg : Po p g
  px : Po p x
  py : Po p y
  gl : g.length ≤ 50
  xl : x.length ≤ 50
  yl : y.length ≤ 50
  e : Rq.s p g = Rq.s p x * Rq.s p a + Rq.s p y * Rq.s p b
  da : Rq.Dvd p g a
  db : Rq.Dvd p g b
  l : g = [] ∨ cf g (g.length - 1) = 1
theorem e_shared (a b : List Int) (p : Int) (hp : p ∈ k_PRIMES) (ha : Po p a) (hb : Po p b) (la : a.length ≤ 40) (lb : b.length ≤ 40) : ∃ g x y, M_shared [.tup (a.map D.int), .tup (b.map D.int), .int p] = .ok (.v (.tup [.tup (g.map D.int), .tup (x.map D.int), .tup (y.map D.int)])) ∧ Cm p a b g x y := by
  have h2 := pr_le p hp
  have p1 : Po p [1] := ⟨by decide, by simp; omega⟩
  obtain ⟨g, x, y, s4, r5, r6, r7, hw, pg, px, py, lg, lx, ly, e, d0, d1⟩ := w_shared (p := p) (Rq.s p a) (Rq.s p b) hp (.v (.tup (a.map D.int))) (.v (.tup (b.map D.int))) 50 (by omega) b.length FUEL a [1] [] b [] [1] .no .no .no (Nat.le_refl _) (by unfold FUEL; omega) ha p1 Rq.po_nil hb Rq.po_nil p1 (by simp; omega) (by simp; omega) (by simp; omega) (by simp; omega)
    (by rw [Rq.s_one, Rq.ic_one, Rq.s_nil]; grind) (by rw [Rq.s_one, Rq.ic_one, Rq.s_nil]; grind)
  simp only [List.map_cons, List.map_nil] at hw
  by_cases hz : g = []
  · subst hz
    refine ⟨[], x, y, ?_, pg, px, py, lg, lx, ly, e, d0, d1, .inl rfl⟩
    simp only [M_shared, B_shared, Nw.lf, lf, lfA_ints, SZ, Nat.reduceLeDiff, z1, z2, z3, z4, z5, z6, z7, z8, z9, z10, z11, z12, z13, z14, z15, z16, z17, z18, z19, z20, z21, z22, z23, z24, Nat.zero_le, fin, finI, mSeq, mIf, mRet, mRetN, mDrop, mSet, mAsg, mPar, mAug, mSetIx, mMe, mFor, mIs, mEn, mZa, mN, mK, mA0, mA1, mB, mT, mAnd, mOr, mNot, mAndV, mOrV, mNotV, mIfE, mCh, mTup, mLst, mFz1, mFzA, fzL, fz1, mCall, mCallI, mAp, mAd, mNeg, mYes, mLc, mNx, mBad, mRaise, mBk, mCt, stB, gN, gs0, gs1, gT, rsA, rs, allV, BV.fz, Nw.bv, R.bind, nox, gt, two, fAdd_int, fSub, fCmp, fLen, fList, fTuple, fInt, fAbs, fMax, fMin, fIx, fSlH, fSlL, fSl, fRev, fIs, fNeg, isNon, Option.bind_some, Option.map_some, List.set_cons_zero, List.set_cons_succ, List.map_cons, List.map_nil, List.cons_append, List.nil_append, List.replicate, List.length_cons, List.length_nil, Nat.zero_add, Nat.reduceAdd, if_true, ite_true, reduceIte, wipeE, Bool.true_or, Bool.false_or, Bool.true_and, Bool.false_and, Bool.not_true, Bool.not_false, Bool.false_eq_true, if_false, hw, at3_0, fEq_nn]
  · have hlb := last_bd hp pg hz
    have hiv := iv_ok hp hlb.1 hlb.2
    have hli := last_iv hp pg hz
    have e1 := e_turned_over (cf g (g.length - 1)) p (by omega) (by omega) (by omega)
    have e2 : L2.atI (g.map D.int) (-1) = some (.int (cf g (g.length - 1))) := atI_lastI hz
    generalize hw' : iv p (cf g (g.length - 1)) = w at *
    have sc : ∀ c : List Int, c.length ≤ 50 → M_scaled [.tup (c.map D.int), .int w, .int p] = .ok (.v (.tup ((Rq.scl p w c).map D.int))) := fun c hc => e_scaled c w p (by omega) (by omega) (by omega)
    have hl := mLc_map (fun c : List Int => D.tup (c.map D.int)) (fun c : List Int => .tup ((Rq.scl p w c).map D.int)) [g, x, y] (mi := mIs (mN 3)) (f := gN 10) (e := Le_shared_3) (vs := [10])
      (Γ := [.v (.tup (a.map D.int)), .v (.tup (b.map D.int)), .v (.int p), .v (.tup [.tup (g.map D.int), .tup (x.map D.int), .tup (y.map D.int)]), s4, r5, r6, r7, .v (.int w), .no, .no])
      (Γ1 := [.v (.tup (a.map D.int)), .v (.tup (b.map D.int)), .v (.int p), .v (.tup [.tup (g.map D.int), .tup (x.map D.int), .tup (y.map D.int)]), s4, r5, r6, r7, .v (.int w), .no, .no])
      (by simp only [Nw.lf, lf, lfA_ints, SZ, Nat.reduceLeDiff, z1, z2, z3, z4, z5, z6, z7, z8, z9, z10, z11, z12, z13, z14, z15, z16, z17, z18, z19, z20, z21, z22, z23, z24, Nat.zero_le, fin, finI, mSeq, mIf, mRet, mRetN, mDrop, mSet, mAsg, mPar, mAug, mSetIx, mMe, mFor, mIs, mEn, mZa, mN, mK, mA0, mA1, mB, mT, mAnd, mOr, mNot, mAndV, mOrV, mNotV, mIfE, mCh, mTup, mLst, mFz1, mFzA, fzL, fz1, mCall, mCallI, mAp, mAd, mNeg, mYes, mLc, mNx, mBad, mRaise, mBk, mCt, stB, gN, gs0, gs1, gT, rsA, rs, allV, BV.fz, Nw.bv, R.bind, nox, gt, two, fAdd_int, fSub, fCmp, fLen, fList, fTuple, fInt, fAbs, fMax, fMin, fIx, fSlH, fSlL, fSl, fRev, fIs, fNeg, isNon, Option.bind_some, Option.map_some, List.set_cons_zero, List.set_cons_succ, List.map_cons, List.map_nil, List.cons_append, List.nil_append, List.replicate, List.length_cons, List.length_nil, Nat.zero_add, Nat.reduceAdd, if_true, ite_true, reduceIte, wipeE, Bool.true_or, Bool.false_or, Bool.true_and, Bool.false_and, Bool.not_true, Bool.not_false, Bool.false_eq_true, if_false]) (by simp)
      (fun c hc => by
        have hs := sc c (by
          simp only [List.mem_cons, List.not_mem_nil, or_false] at hc
          rcases hc with rfl | rfl | rfl <;> assumption)
        exact ⟨_, _, rfl, by simp only [Le_shared_3, Nw.lf, lf, lfA_ints, SZ, Nat.reduceLeDiff, z1, z2, z3, z4, z5, z6, z7, z8, z9, z10, z11, z12, z13, z14, z15, z16, z17, z18, z19, z20, z21, z22, z23, z24, Nat.zero_le, fin, finI, mSeq, mIf, mRet, mRetN, mDrop, mSet, mAsg, mPar, mAug, mSetIx, mMe, mFor, mIs, mEn, mZa, mN, mK, mA0, mA1, mB, mT, mAnd, mOr, mNot, mAndV, mOrV, mNotV, mIfE, mCh, mTup, mLst, mFz1, mFzA, fzL, fz1, mCall, mCallI, mAp, mAd, mNeg, mYes, mLc, mNx, mBad, mRaise, mBk, mCt, stB, gN, gs0, gs1, gT, rsA, rs, allV, BV.fz, Nw.bv, R.bind, nox, gt, two, fAdd_int, fSub, fCmp, fLen, fList, fTuple, fInt, fAbs, fMax, fMin, fIx, fSlH, fSlL, fSl, fRev, fIs, fNeg, isNon, Option.bind_some, Option.map_some, List.set_cons_zero, List.set_cons_succ, List.map_cons, List.map_nil, List.cons_append, List.nil_append, List.replicate, List.length_cons, List.length_nil, Nat.zero_add, Nat.reduceAdd, if_true, ite_true, reduceIte, wipeE, Bool.true_or, Bool.false_or, Bool.true_and, Bool.false_and, Bool.not_true, Bool.not_false, Bool.false_eq_true, if_false, hs]; rfl, by rfl⟩)
    simp only [List.map_cons, List.map_nil] at hl
    simp only [mLc, Nw.lf, lf, lfA_ints, SZ, Nat.reduceLeDiff, z1, z2, z3, z4, z5, z6, z7, z8, z9, z10, z11, z12, z13, z14, z15, z16, z17, z18, z19, z20, z21, z22, z23, z24, Nat.zero_le, fin, finI, mSeq, mIf, mRet, mRetN, mDrop, mSet, mAsg, mPar, mAug, mSetIx, mMe, mFor, mIs, mEn, mZa, mN, mK, mA0, mA1, mB, mT, mAnd, mOr, mNot, mAndV, mOrV, mNotV, mIfE, mCh, mTup, mLst, mFz1, mFzA, fzL, fz1, mCall, mCallI, mAp, mAd, mNeg, mYes, mLc, mNx, mBad, mRaise, mBk, mCt, stB, gN, gs0, gs1, gT, rsA, rs, allV, BV.fz, Nw.bv, R.bind, nox, gt, two, fAdd_int, fSub, fCmp, fLen, fList, fTuple, fInt, fAbs, fMax, fMin, fIx, fSlH, fSlL, fSl, fRev, fIs, fNeg, isNon, Option.bind_some, Option.map_some, List.set_cons_zero, List.set_cons_succ, List.map_cons, List.map_nil, List.cons_append, List.nil_append, List.replicate, List.length_cons, List.length_nil, Nat.zero_add, Nat.reduceAdd, if_true, ite_true, reduceIte, wipeE, Bool.true_or, Bool.false_or, Bool.true_and, Bool.false_and, Bool.not_true, Bool.not_false, Bool.false_eq_true, if_false] at hl
    have hu : (Rq.icst w : Rq.Sr p) * Rq.icst (cf g (g.length - 1)) = 1 := Rq.ic_unit (by rw [Int.mul_comm]; exact hli)
    have hsl := Rq.scl_last (by omega) hz hli
    refine ⟨Rq.scl p w g, Rq.scl p w x, Rq.scl p w y, ?_, Rq.Po.scl (by omega) .., Rq.Po.scl (by omega) .., Rq.Po.scl (by omega) .., ?_, ?_, ?_, ?_, ?_, ?_, ?_⟩
    · simp only [M_shared, B_shared, Nw.lf, lf, lfA_ints, SZ, Nat.reduceLeDiff, z1, z2, z3, z4, z5, z6, z7, z8, z9, z10, z11, z12, z13, z14, z15, z16, z17, z18, z19, z20, z21, z22, z23, z24, Nat.zero_le, fin, finI, mSeq, mIf, mRet, mRetN, mDrop, mSet, mAsg, mPar, mAug, mSetIx, mMe, mFor, mIs, mEn, mZa, mN, mK, mA0, mA1, mB, mT, mAnd, mOr, mNot, mAndV, mOrV, mNotV, mIfE, mCh, mTup, mLst, mFz1, mFzA, fzL, fz1, mCall, mCallI, mAp, mAd, mNeg, mYes, mLc, mNx, mBad, mRaise, mBk, mCt, stB, gN, gs0, gs1, gT, rsA, rs, allV, BV.fz, Nw.bv, R.bind, nox, gt, two, fAdd_int, fSub, fCmp, fLen, fList, fTuple, fInt, fAbs, fMax, fMin, fIx, fSlH, fSlL, fSl, fRev, fIs, fNeg, isNon, Option.bind_some, Option.map_some, List.set_cons_zero, List.set_cons_succ, List.map_cons, List.map_nil, List.cons_append, List.nil_append, List.replicate, List.length_cons, List.length_nil, Nat.zero_add, Nat.reduceAdd, if_true, ite_true, reduceIte, wipeE, Bool.true_or, Bool.false_or, Bool.true_and, Bool.false_and, Bool.not_true, Bool.not_false, Bool.false_eq_true, if_false, hw, at3_0, fEq_tn, hz, decide_false, e1, e2, hl]
    · have := Rq.scl_length (p := p) w g; omega
    · have := Rq.scl_length (p := p) w x; omega
    · have := Rq.scl_length (p := p) w y; omega
    · rw [Rq.s_scl, Rq.s_scl, Rq.s_scl, e]; grind
    · exact Rq.Dvd.scl (by omega) (v := cf g (g.length - 1)) (by rw [Int.mul_comm]; exact hli) d0
    · exact Rq.Dvd.scl (by omega) (v := cf g (g.length - 1)) (by rw [Int.mul_comm]; exact hli) d1
    · right; rw [hsl.1]; exact hsl.2
theorem e_poly_common (a b : List Int) (p : Int) (hp : p ∈ k_PRIMES) (ha : Po p a) (hb : Po p b) (la : a.length ≤ 25) (lb : b.length ≤ 25) : ∃ g x y, M_poly_common [.tup (a.map D.int), .tup (b.map D.int), .int p] = .ok (.v (.tup [.tup (g.map D.int), .tup (x.map D.int), .tup (y.map D.int)])) ∧ Cm p a b g x y := by
  obtain ⟨g, x, y, e, h⟩ := e_shared a b p hp ha hb (by omega) (by omega)
  have h1 := e_need_polys [a, b] p hp (by simp) (by simp; exact ⟨⟨ha, la⟩, ⟨hb, lb⟩⟩)
  simp only [List.map_cons, List.map_nil] at h1
  exact ⟨g, x, y, by simp only [M_poly_common, B_poly_common, Nw.lf, lf, lfA_ints, SZ, Nat.reduceLeDiff, z1, z2, z3, z4, z5, z6, z7, z8, z9, z10, z11, z12, z13, z14, z15, z16, z17, z18, z19, z20, z21, z22, z23, z24, Nat.zero_le, fin, finI, mSeq, mIf, mRet, mRetN, mDrop, mSet, mAsg, mPar, mAug, mSetIx, mMe, mFor, mIs, mEn, mZa, mN, mK, mA0, mA1, mB, mT, mAnd, mOr, mNot, mAndV, mOrV, mNotV, mIfE, mCh, mTup, mLst, mFz1, mFzA, fzL, fz1, mCall, mCallI, mAp, mAd, mNeg, mYes, mLc, mNx, mBad, mRaise, mBk, mCt, stB, gN, gs0, gs1, gT, rsA, rs, allV, BV.fz, Nw.bv, R.bind, nox, gt, two, fAdd_int, fSub, fCmp, fLen, fList, fTuple, fInt, fAbs, fMax, fMin, fIx, fSlH, fSlL, fSl, fRev, fIs, fNeg, isNon, Option.bind_some, Option.map_some, List.set_cons_zero, List.set_cons_succ, List.map_cons, List.map_nil, List.cons_append, List.nil_append, List.replicate, List.length_cons, List.length_nil, Nat.zero_add, Nat.reduceAdd, if_true, ite_true, reduceIte, wipeE, Bool.true_or, Bool.false_or, Bool.true_and, Bool.false_and, Bool.not_true, Bool.not_false, Bool.false_eq_true, if_false, h1, e], h⟩
end Mn
namespace Rq
open Rm
variable {p : Int}
theorem pow_z (a : Sr p) : a ^ 0 = 1 := rfl
theorem pow_s (a : Sr p) (n : Nat) : a ^ (n + 1) = a ^ n * a := rfl
theorem pow_1 (a : Sr p) : a ^ 1 = a := by rw [pow_s, pow_z]; grind
theorem pow_a (a : Sr p) (m : Nat) : ∀ n, a ^ (m + n) = a ^ m * a ^ n
  | 0 => by rw [pow_z, Nat.add_zero]; grind
  | n + 1 => by rw [← Nat.add_assoc, pow_s, pow_a a m n, pow_s]; grind
theorem pow_m (a b : Sr p) : ∀ n : Nat, (a * b) ^ n = a ^ n * b ^ n
  | 0 => by rw [pow_z, pow_z, pow_z]; grind
  | n + 1 => by rw [pow_s, pow_m a b n, pow_s, pow_s]; grind
theorem pow_sq (a : Sr p) (n : Nat) : (a * a) ^ n = a ^ (2 * n) := by
  rw [pow_m, ← pow_a]; congr 1; omega
def nxt (p : Int) (a : Int) : List Int → List Int
  | [] => [a % p]
  | c :: cs => ((a + c) % p) :: nxt p c cs
def row (p : Int) : Nat → List Int
  | 0 => [1]
  | n + 1 => nxt p 0 (row p n)
def ev (x y : Sr p) : List Int → Sr p
  | [] => 0
  | c :: cs => icst c * y ^ cs.length + x * ev x y cs
theorem nxt_len (a : Int) : ∀ cs, (nxt p a cs).length = cs.length + 1
  | [] => rfl
  | c :: cs => by rw [nxt, List.length_cons, nxt_len c cs]; rfl
theorem ev_nxt (x y : Sr p) (a : Int) : ∀ cs : List Int, ev x y (nxt p a cs) = icst a * y ^ cs.length + (x + y) * ev x y cs
  | [] => by
    simp only [nxt, ev, List.length_nil, pow_z]; rw [ic_mod]; grind
  | c :: cs => by
    have ih := ev_nxt x y c cs
    simp only [nxt, ev, List.length_cons, nxt_len, pow_s] at *
    rw [ic_mod, ic_add, ih]; grind
theorem ev_row (x y : Sr p) : ∀ n : Nat, ev x y (row p n) = (x + y) ^ n
  | 0 => by simp only [row, ev, List.length_nil, pow_z]; rw [ic_one]; grind
  | n + 1 => by rw [row, ev_nxt, ev_row x y n, pow_s, ic_zero]; grind
theorem ev_z (x y : Sr p) : ∀ m : Nat, ev x y (List.replicate m 0 ++ [1]) = x ^ m
  | 0 => by simp only [List.replicate, List.nil_append, ev, List.length_nil, pow_z]; rw [ic_one]; grind
  | m + 1 => by rw [List.replicate_succ, List.cons_append, ev, ev_z x y m, pow_s, ic_zero]; grind
theorem frob {n : Nat} (hn : 0 < n) (h : row p n = 1 :: (List.replicate (n - 1) 0 ++ [1])) (x y : Sr p) : (x + y) ^ n = x ^ n + y ^ n := by
  rw [← ev_row, h, ev, ev_z, ic_one]
  have e : (List.replicate (n - 1) (0 : Int) ++ [1]).length = n := by simp; omega
  have e2 : x ^ n = x ^ (n - 1) * x := by
    conv => lhs; rw [show n = (n - 1) + 1 by omega]
    exact pow_s ..
  rw [e, e2]; grind
def IsP (x : Sr p) : Prop := ∃ a, Po p a ∧ x = s p a
theorem IsP.s {a : List Int} (h : Po p a) : IsP (s p a) := ⟨a, h, rfl⟩
theorem IsP.add (hp : 0 < p) {x y : Sr p} (h1 : IsP x) (h2 : IsP y) : IsP (x + y) := by
  obtain ⟨a, _, rfl⟩ := h1; obtain ⟨b, _, rfl⟩ := h2
  exact ⟨bl p 1 a b, Po.bl hp .., by rw [s_plus]⟩
theorem IsP.sub (hp : 0 < p) {x y : Sr p} (h1 : IsP x) (h2 : IsP y) : IsP (x - y) := by
  obtain ⟨a, _, rfl⟩ := h1; obtain ⟨b, _, rfl⟩ := h2
  exact ⟨bl p (p - 1) a b, Po.bl hp .., by rw [s_less]⟩
theorem IsP.mul (hp : 0 < p) {x y : Sr p} (h1 : IsP x) (h2 : IsP y) : IsP (x * y) := by
  obtain ⟨a, _, rfl⟩ := h1; obtain ⟨b, _, rfl⟩ := h2
  exact ⟨mulP p a b, Po.mulP hp .., by rw [s_mulP]⟩
theorem IsP.zero : IsP (0 : Sr p) := ⟨[], po_nil, by rw [s_nil]⟩
theorem IsP.cst (hp : 0 < p) (i : Int) : IsP (icst i : Sr p) := ⟨trim [i % p], Po.trim (by simp; exact ⟨Int.emod_nonneg _ (by omega), Int.emod_lt_of_pos _ hp⟩), by rw [s_trim, s_one, ic_mod]⟩
theorem IsP.one (hp : 0 < p) : IsP (1 : Sr p) := IsP.cst hp 1
theorem IsP.pow (hp : 0 < p) {x : Sr p} (h : IsP x) : ∀ n : Nat, IsP (x ^ n)
  | 0 => IsP.one hp
  | n + 1 => (IsP.pow hp h n).mul hp h
def Cg (r x y : Sr p) : Prop := ∃ q, IsP q ∧ x = q * r + y
theorem Cg.rfl' (r x : Sr p) : Cg r x x := ⟨0, IsP.zero, by grind⟩
theorem Cg.symm (hp : 0 < p) {r x y : Sr p} (h : Cg r x y) : Cg r y x := by
  obtain ⟨q, hq, e⟩ := h
  exact ⟨0 - q, IsP.zero.sub hp hq, by rw [e]; grind⟩
theorem Cg.trans (hp : 0 < p) {r x y z : Sr p} (h : Cg r x y) (h' : Cg r y z) : Cg r x z := by
  obtain ⟨q, hq, e⟩ := h
  obtain ⟨q', hq', e'⟩ := h'
  exact ⟨q + q', hq.add hp hq', by rw [e, e']; grind⟩
theorem Cg.add (hp : 0 < p) {r x y x' y' : Sr p} (h : Cg r x y) (h' : Cg r x' y') : Cg r (x + x') (y + y') := by
  obtain ⟨q, hq, e⟩ := h
  obtain ⟨q', hq', e'⟩ := h'
  exact ⟨q + q', hq.add hp hq', by rw [e, e']; grind⟩
theorem Cg.mul (hp : 0 < p) {r x y x' y' : Sr p} (hr : IsP r) (hy : IsP y) (hy' : IsP y') (h : Cg r x y) (h' : Cg r x' y') : Cg r (x * x') (y * y') := by
  obtain ⟨q, hq, e⟩ := h
  obtain ⟨q', hq', e'⟩ := h'
  exact ⟨q * q' * r + q * y' + q' * y, (((hq.mul hp hq').mul hp hr).add hp (hq.mul hp hy')).add hp (hq'.mul hp hy), by rw [e, e']; grind⟩
theorem Cg.pow (hp : 0 < p) {r x y : Sr p} (hr : IsP r) (hy : IsP y) (h : Cg r x y) : ∀ n : Nat, Cg r (x ^ n) (y ^ n)
  | 0 => Cg.rfl' ..
  | n + 1 => Cg.mul hp hr (hy.pow hp n) hy (Cg.pow hp hr hy h n) h
theorem Cg.uq (hp : Pri p) {r t t' : List Int} (hr : Po p r) (hr0 : r ≠ []) (ht : Po p t) (ht' : Po p t') (l : t.length < r.length) (l' : t'.length < r.length) (h : Cg (s p r) (s p t) (s p t')) : t = t' := by
  obtain ⟨q, ⟨a, ha, rfl⟩, e⟩ := h
  exact (qr_uq hp po_nil ha hr ht ht' hr0 (by rw [s_nil, ← e]; grind) l l').2
def comp (X : Sr p) : List Int → Sr p
  | [] => 0
  | c :: a => icst c + X * comp X a
theorem comp_ext (X : Sr p) : ∀ {a b : List Int}, (∀ k, cf a k % p = cf b k % p) → comp X a = comp X b
  | [], [], _ => rfl
  | [], c :: b, h => by
    have h0 := h 0
    rw [cf_nil, cf_zero] at h0
    have ih := comp_ext X (a := []) (b := b) (fun k => by have := h (k + 1); rwa [cf_nil, cf_succ, ← cf_nil k] at this)
    rw [comp, comp, ← ih, comp, ← ic_mod c, ← h0]
    simp only [Int.zero_emod, ic_zero]; grind
  | c :: a, [], h => by
    have h0 := h 0
    rw [cf_nil, cf_zero] at h0
    have ih := comp_ext X (a := a) (b := []) (fun k => by have := h (k + 1); rwa [cf_nil, cf_succ, ← cf_nil k] at this)
    rw [comp, comp, ih, comp, ← ic_mod c, h0]
    simp only [Int.zero_emod, ic_zero]; grind
  | c :: a, d :: b, h => by
    have h0 := h 0
    rw [cf_zero, cf_zero] at h0
    have ih := comp_ext X (a := a) (b := b) (fun k => by have := h (k + 1); rwa [cf_succ, cf_succ] at this)
    rw [comp, comp, ih, ← ic_mod c, h0, ic_mod]
def zadd : List Int → List Int → List Int
  | [], b => b
  | a, [] => a
  | x :: a, y :: b => (x + y) :: zadd a b
theorem zadd_cf : ∀ (a b : List Int) (k : Nat), cf (zadd a b) k = cf a k + cf b k
  | [], b, k => by simp [zadd, cf_nil]
  | x :: a, [], k => by simp [zadd, cf_nil]
  | x :: a, y :: b, 0 => by simp [zadd, cf_zero]
  | x :: a, y :: b, k + 1 => by simp only [zadd, cf_succ]; exact zadd_cf a b k
theorem comp_zadd (X : Sr p) : ∀ (a b : List Int), comp X (zadd a b) = comp X a + comp X b
  | [], b => by simp only [zadd, comp]; grind
  | x :: a, [] => by simp only [zadd, comp]; grind
  | x :: a, y :: b => by simp only [zadd, comp]; rw [comp_zadd X a b, ic_add]; grind
theorem comp_smul (X : Sr p) (w : Int) : ∀ a : List Int, comp X (a.map fun x => w * x) = icst w * comp X a
  | [] => by simp only [List.map_nil, comp]; grind
  | x :: a => by simp only [List.map_cons, comp]; rw [comp_smul X w a, ic_mul]; grind
theorem comp_plus (X : Sr p) (a b : List Int) : comp X (bl p 1 a b) = comp X a + comp X b := by
  rw [← comp_zadd]
  refine comp_ext X fun k => ?_
  rw [bl_cf, zadd_cf, Int.one_mul, Int.emod_emod_of_dvd _ (Int.dvd_refl p)]
theorem comp_mul (X : Sr p) (b : List Int) : ∀ a : List Int, comp X (mulP p a b) = comp X a * comp X b
  | [] => by rw [mulP_nil_l]; simp only [comp]; grind
  | c :: a => by
    have ih := comp_mul X b a
    have e : comp X (mulP p (c :: a) b) = comp X (zadd (b.map fun x => c * x) (0 :: mulP p a b)) := by
      refine comp_ext X fun k => ?_
      rw [mulP_cf, zadd_cf, cf_map _ (by simp)]
      have h1 := cv_mu b (c :: a) 0 k
      rw [Nat.zero_add] at h1
      rw [h1]
      cases k with
      | zero => simp [mu, cf_zero]
      | succ k =>
        rw [mu, tl_cons, cf_zero, cf_succ, mulP_cf]
        have h2 := cv_mu b a 0 k
        rw [Nat.zero_add] at h2
        rw [h2, Int.emod_emod_of_dvd _ (Int.dvd_refl p)]
        simp
    rw [e, comp_zadd, comp_smul]
    simp only [comp]
    rw [ih, ic_zero]; grind
theorem IsP.comp (hp : 0 < p) {X : Sr p} (h : IsP X) : ∀ a : List Int, IsP (comp X a)
  | [] => IsP.zero
  | c :: a => (IsP.cst hp c).add hp (h.mul hp (IsP.comp hp h a))
end Rq
namespace Mn
open PySem Rg Rm
structure Lf (p : Int) (r : List Int) (X : Rq.Sr p) (t : List Int) : Prop where
  po : Po p t
  l : t.length < r.length
  c : Rq.Cg (Rq.s p r) X (Rq.s p t)
theorem Lf.uq {p : Int} {r t t' : List Int} {X : Rq.Sr p} (hp : p ∈ k_PRIMES) (hr : Po p r) (hr0 : r ≠ []) (h : Lf p r X t) (h' : Lf p r X t') : t = t' := by
  have h2 := pr_le p hp
  exact Rq.Cg.uq (pri hp) hr hr0 h.po h'.po h.l h'.l ((h.c.symm (by omega)).trans (by omega) h'.c)
theorem Lf.rs {p : Int} {a r : List Int} (hp : p ∈ k_PRIMES) (ha : Po p a) (hr : Po p r) (hr0 : r ≠ []) : Lf p r (Rq.s p a) (rs' p a r) := by
  have h := qr_ok hp ha hr hr0
  exact ⟨h.2.1, h.2.2.1, _, ⟨qs p a r, h.1, rfl⟩, h.2.2.2.2⟩
theorem Lf.of {p : Int} {r t : List Int} {X Y : Rq.Sr p} (hp : p ∈ k_PRIMES) (h : Lf p r Y t) (c : Rq.Cg (Rq.s p r) X Y) : Lf p r X t := by
  have h2 := pr_le p hp
  exact ⟨h.po, h.l, c.trans (by omega) h.c⟩
theorem Lf.mul {p : Int} {r t u : List Int} {X Y : Rq.Sr p} (hp : p ∈ k_PRIMES) (hr : Po p r) (hr0 : r ≠ []) (h : Lf p r X t) (h' : Lf p r Y u) : Lf p r (X * Y) (rs' p (mulP p t u) r) := by
  have h2 := pr_le p hp
  have := Lf.rs hp (Po.mulP (by omega) t u) hr hr0
  rw [Rq.s_mulP] at this
  exact this.of hp (Rq.Cg.mul (by omega) ⟨r, hr, rfl⟩ ⟨t, h.po, rfl⟩ ⟨u, h'.po, rfl⟩ h.c h'.c)
theorem Lf.add {p : Int} {r t u : List Int} {X Y : Rq.Sr p} (hp : p ∈ k_PRIMES) (h : Lf p r X t) (h' : Lf p r Y u) : Lf p r (X + Y) (bl p 1 t u) := by
  have h2 := pr_le p hp
  refine ⟨Po.bl (by omega) .., ?_, ?_⟩
  · have := bl_length p 1 t u
    have := h.l
    have := h'.l
    omega
  · rw [Rq.s_plus]; exact h.c.add (by omega) h'.c
theorem w_left (r : List Int) (p : Int) (hp : p ∈ k_PRIMES) (hr : Po p r) (hr0 : r ≠ []) (lr : r.length ≤ 100) (S0 : Sl) : ∀ (n e : Nat) (f b : List Int) (F B : Rq.Sr p) (fuel : Nat), e < 2 ^ n → n < fuel → Lf p r F f → Lf p r B b →
    ∃ t e' b', Lf p r (F * B ^ e) t ∧ mWh Wc_left_raised_1 Wb_left_raised_1 fuel [S0, .v (.int e), .v (.tup (r.map D.int)), .v (.int p), .v (.tup (f.map D.int)), .v (.tup (b.map D.int))] = .ok (.nx [S0, e', .v (.tup (r.map D.int)), .v (.int p), .v (.tup (t.map D.int)), b']) := by
  have h2 := pr_le p hp
  intro n
  have zero : ∀ (f b : List Int) (F B : Rq.Sr p) (fuel : Nat), 0 < fuel → Lf p r F f → Lf p r B b →
    ∃ t e' b', Lf p r (F * B ^ 0) t ∧ mWh Wc_left_raised_1 Wb_left_raised_1 fuel [S0, .v (.int (0 : Nat)), .v (.tup (r.map D.int)), .v (.int p), .v (.tup (f.map D.int)), .v (.tup (b.map D.int))] = .ok (.nx [S0, e', .v (.tup (r.map D.int)), .v (.int p), .v (.tup (t.map D.int)), b']) := by
    intro f b F B fuel hf h1 h3
    refine ⟨f, .v (.int (0 : Nat)), .v (.tup (b.map D.int)), ?_, ?_⟩
    · have : F * B ^ 0 = F := by rw [Rq.pow_z]; grind
      rw [this]; exact h1
    · have hc : Wc_left_raised_1 [S0, .v (.int (0 : Nat)), .v (.tup (r.map D.int)), .v (.int p), .v (.tup (f.map D.int)), .v (.tup (b.map D.int))] = .ok (false, [S0, .v (.int (0 : Nat)), .v (.tup (r.map D.int)), .v (.int p), .v (.tup (f.map D.int)), .v (.tup (b.map D.int))]) := by
        simp only [Wc_left_raised_1, Nw.lf, lf, lfA_ints, SZ, Nat.reduceLeDiff, z1, z2, z3, z4, z5, z6, z7, z8, z9, z10, z11, z12, z13, z14, z15, z16, z17, z18, z19, z20, z21, z22, z23, z24, Nat.zero_le, fin, finI, mSeq, mIf, mRet, mRetN, mDrop, mSet, mAsg, mPar, mAug, mSetIx, mMe, mFor, mIs, mEn, mZa, mN, mK, mA0, mA1, mB, mT, mAnd, mOr, mNot, mAndV, mOrV, mNotV, mIfE, mCh, mTup, mLst, mFz1, mFzA, fzL, fz1, mCall, mCallI, mAp, mAd, mNeg, mYes, mLc, mNx, mBad, mRaise, mBk, mCt, stB, gN, gs0, gs1, gT, rsA, rs, allV, BV.fz, Nw.bv, R.bind, nox, gt, two, fAdd_int, fSub, fCmp, fLen, fList, fTuple, fInt, fAbs, fMax, fMin, fIx, fSlH, fSlL, fSl, fRev, fIs, fNeg, isNon, Option.bind_some, Option.map_some, List.set_cons_zero, List.set_cons_succ, List.map_cons, List.map_nil, List.cons_append, List.nil_append, List.replicate, List.length_cons, List.length_nil, Nat.zero_add, Nat.reduceAdd, if_true, ite_true, reduceIte, wipeE, Bool.true_or, Bool.false_or, Bool.true_and, Bool.false_and, Bool.not_true, Bool.not_false, Bool.false_eq_true, if_false]
        simp
      rw [mWh_pos hf, hc]
      simp [R.bind]
  induction n with
  | zero =>
    intro e f b F B fuel he hf h1 h3
    have : e = 0 := by simpa using he
    subst this
    exact zero f b F B fuel hf h1 h3
  | succ n ih =>
    intro e f b F B fuel he hf h1 h3
    by_cases e0 : e = 0
    · subst e0
      exact zero f b F B fuel (by omega) h1 h3
    · have hc : Wc_left_raised_1 [S0, .v (.int e), .v (.tup (r.map D.int)), .v (.int p), .v (.tup (f.map D.int)), .v (.tup (b.map D.int))] = .ok (true, [S0, .v (.int e), .v (.tup (r.map D.int)), .v (.int p), .v (.tup (f.map D.int)), .v (.tup (b.map D.int))]) := by
        have hd : decide ((0 : Int) < (e : Int)) = true := by simp; omega
        simp only [Wc_left_raised_1, Nw.lf, lf, lfA_ints, SZ, Nat.reduceLeDiff, z1, z2, z3, z4, z5, z6, z7, z8, z9, z10, z11, z12, z13, z14, z15, z16, z17, z18, z19, z20, z21, z22, z23, z24, Nat.zero_le, fin, finI, mSeq, mIf, mRet, mRetN, mDrop, mSet, mAsg, mPar, mAug, mSetIx, mMe, mFor, mIs, mEn, mZa, mN, mK, mA0, mA1, mB, mT, mAnd, mOr, mNot, mAndV, mOrV, mNotV, mIfE, mCh, mTup, mLst, mFz1, mFzA, fzL, fz1, mCall, mCallI, mAp, mAd, mNeg, mYes, mLc, mNx, mBad, mRaise, mBk, mCt, stB, gN, gs0, gs1, gT, rsA, rs, allV, BV.fz, Nw.bv, R.bind, nox, gt, two, fAdd_int, fSub, fCmp, fLen, fList, fTuple, fInt, fAbs, fMax, fMin, fIx, fSlH, fSlL, fSl, fRev, fIs, fNeg, isNon, Option.bind_some, Option.map_some, List.set_cons_zero, List.set_cons_succ, List.map_cons, List.map_nil, List.cons_append, List.nil_append, List.replicate, List.length_cons, List.length_nil, Nat.zero_add, Nat.reduceAdd, if_true, ite_true, reduceIte, wipeE, Bool.true_or, Bool.false_or, Bool.true_and, Bool.false_and, Bool.not_true, Bool.not_false, Bool.false_eq_true, if_false, hd]
      have lf := h1.l
      have lb := h3.l
      have mf := e_multiplied f b p (by omega) (fun x hx => by have := h1.po.r x hx; omega) (by omega) (by omega)
      have mb := e_multiplied b b p (by omega) (fun x hx => by have := h3.po.r x hx; omega) (by omega) (by omega)
      have rf := e_left_by (mulP p f b) r p hp (Po.mulP (by omega) ..) hr hr0 (by have := mulP_length_le p f b; omega) (by omega)
      have rb := e_left_by (mulP p b b) r p hp (Po.mulP (by omega) ..) hr hr0 (by have := mulP_length_le p b b; omega) (by omega)
      have Lb := Lf.mul hp hr hr0 h3 h3
      have hdv : fDiv [.int e, .int 2] = some (.v (.int ((e / 2 : Nat) : Int))) := by rw [fDiv_pos (by omega) (by omega)]; rfl
      have hmd : fMod [.int e, .int 2] = some (.v (.int ((e % 2 : Nat) : Int))) := by rw [fMod_pos (by omega)]; rfl
      by_cases od : e % 2 = 1
      · have Lf' := Lf.mul hp hr hr0 h1 h3
        obtain ⟨t, e', b', ht, hw⟩ := ih (e / 2) _ _ _ _ (fuel - 1) (by rw [Nat.pow_succ] at he; omega) (by omega) Lf' Lb
        refine ⟨t, e', b', ?_, ?_⟩
        · have : F * B ^ e = F * B * (B * B) ^ (e / 2) := by
            rw [Rq.pow_sq]
            conv => lhs; rw [show e = 2 * (e / 2) + 1 by omega, Rq.pow_s]
            grind
          rw [this]; exact ht
        · have hb : Wb_left_raised_1 [S0, .v (.int e), .v (.tup (r.map D.int)), .v (.int p), .v (.tup (f.map D.int)), .v (.tup (b.map D.int))] = .ok (.nx [S0, .v (.int ((e / 2 : Nat) : Int)), .v (.tup (r.map D.int)), .v (.int p), .v (.tup ((rs' p (mulP p f b) r).map D.int)), .v (.tup ((rs' p (mulP p b b) r).map D.int))]) := by
            have hd : decide (((e % 2 : Nat) : Int) = 1) = true := by simp; omega
            simp only [Wb_left_raised_1, Nw.lf, lf, lfA_ints, SZ, Nat.reduceLeDiff, z1, z2, z3, z4, z5, z6, z7, z8, z9, z10, z11, z12, z13, z14, z15, z16, z17, z18, z19, z20, z21, z22, z23, z24, Nat.zero_le, fin, finI, mSeq, mIf, mRet, mRetN, mDrop, mSet, mAsg, mPar, mAug, mSetIx, mMe, mFor, mIs, mEn, mZa, mN, mK, mA0, mA1, mB, mT, mAnd, mOr, mNot, mAndV, mOrV, mNotV, mIfE, mCh, mTup, mLst, mFz1, mFzA, fzL, fz1, mCall, mCallI, mAp, mAd, mNeg, mYes, mLc, mNx, mBad, mRaise, mBk, mCt, stB, gN, gs0, gs1, gT, rsA, rs, allV, BV.fz, Nw.bv, R.bind, nox, gt, two, fAdd_int, fSub, fCmp, fLen, fList, fTuple, fInt, fAbs, fMax, fMin, fIx, fSlH, fSlL, fSl, fRev, fIs, fNeg, isNon, Option.bind_some, Option.map_some, List.set_cons_zero, List.set_cons_succ, List.map_cons, List.map_nil, List.cons_append, List.nil_append, List.replicate, List.length_cons, List.length_nil, Nat.zero_add, Nat.reduceAdd, if_true, ite_true, reduceIte, wipeE, Bool.true_or, Bool.false_or, Bool.true_and, Bool.false_and, Bool.not_true, Bool.not_false, Bool.false_eq_true, if_false, hmd, fEq_int, hd, mf, rf, mb, rb, hdv]
          rw [mWh_pos (by omega), hc]
          simp only [R.bind, if_true, hb]
          exact hw
      · obtain ⟨t, e', b', ht, hw⟩ := ih (e / 2) _ _ _ _ (fuel - 1) (by rw [Nat.pow_succ] at he; omega) (by omega) h1 Lb
        refine ⟨t, e', b', ?_, ?_⟩
        · have : F * B ^ e = F * (B * B) ^ (e / 2) := by
            rw [Rq.pow_sq]
            conv => lhs; rw [show e = 2 * (e / 2) by omega]
          rw [this]; exact ht
        · have hb : Wb_left_raised_1 [S0, .v (.int e), .v (.tup (r.map D.int)), .v (.int p), .v (.tup (f.map D.int)), .v (.tup (b.map D.int))] = .ok (.nx [S0, .v (.int ((e / 2 : Nat) : Int)), .v (.tup (r.map D.int)), .v (.int p), .v (.tup (f.map D.int)), .v (.tup ((rs' p (mulP p b b) r).map D.int))]) := by
            have hd : decide (((e % 2 : Nat) : Int) = 1) = false := by simp; omega
            simp only [Wb_left_raised_1, Nw.lf, lf, lfA_ints, SZ, Nat.reduceLeDiff, z1, z2, z3, z4, z5, z6, z7, z8, z9, z10, z11, z12, z13, z14, z15, z16, z17, z18, z19, z20, z21, z22, z23, z24, Nat.zero_le, fin, finI, mSeq, mIf, mRet, mRetN, mDrop, mSet, mAsg, mPar, mAug, mSetIx, mMe, mFor, mIs, mEn, mZa, mN, mK, mA0, mA1, mB, mT, mAnd, mOr, mNot, mAndV, mOrV, mNotV, mIfE, mCh, mTup, mLst, mFz1, mFzA, fzL, fz1, mCall, mCallI, mAp, mAd, mNeg, mYes, mLc, mNx, mBad, mRaise, mBk, mCt, stB, gN, gs0, gs1, gT, rsA, rs, allV, BV.fz, Nw.bv, R.bind, nox, gt, two, fAdd_int, fSub, fCmp, fLen, fList, fTuple, fInt, fAbs, fMax, fMin, fIx, fSlH, fSlL, fSl, fRev, fIs, fNeg, isNon, Option.bind_some, Option.map_some, List.set_cons_zero, List.set_cons_succ, List.map_cons, List.map_nil, List.cons_append, List.nil_append, List.replicate, List.length_cons, List.length_nil, Nat.zero_add, Nat.reduceAdd, if_true, ite_true, reduceIte, wipeE, Bool.true_or, Bool.false_or, Bool.true_and, Bool.false_and, Bool.not_true, Bool.not_false, Bool.false_eq_true, if_false, hmd, fEq_int, hd, mb, rb, hdv]
          rw [mWh_pos (by omega), hc]
          simp only [R.bind, if_true, hb]
          exact hw
theorem po_one {p : Int} (hp : p ∈ k_PRIMES) : Po p [1] := ⟨by decide, by have := pr_le p hp; simp; omega⟩
theorem e_left_raised (a r : List Int) (p : Int) (e : Nat) (hp : p ∈ k_PRIMES) (ha : Po p a) (hr : Po p r) (hr0 : r ≠ []) (la : a.length ≤ 100) (lr : r.length ≤ 100) (he : e < 2 ^ 200) : ∃ t, M_left_raised [.tup (a.map D.int), .int e, .tup (r.map D.int), .int p] = .ok (.v (.tup (t.map D.int))) ∧ Lf p r (Rq.s p a ^ e) t := by
  have h1 := e_left_by [1] r p hp (po_one hp) hr hr0 (by simp) (by omega)
  have h2 := e_left_by a r p hp ha hr hr0 (by omega) (by omega)
  have L1 := Lf.rs hp (po_one hp) hr hr0
  have L2 := Lf.rs hp ha hr hr0
  obtain ⟨t, e', b', ht, hw⟩ := w_left r p hp hr hr0 lr (.v (.tup (a.map D.int))) 200 e _ _ _ _ FUEL he (by unfold FUEL; omega) L1 L2
  simp only [List.map_cons, List.map_nil] at h1
  refine ⟨t, by simp only [M_left_raised, B_left_raised, Nw.lf, lf, lfA_ints, SZ, Nat.reduceLeDiff, z1, z2, z3, z4, z5, z6, z7, z8, z9, z10, z11, z12, z13, z14, z15, z16, z17, z18, z19, z20, z21, z22, z23, z24, Nat.zero_le, fin, finI, mSeq, mIf, mRet, mRetN, mDrop, mSet, mAsg, mPar, mAug, mSetIx, mMe, mFor, mIs, mEn, mZa, mN, mK, mA0, mA1, mB, mT, mAnd, mOr, mNot, mAndV, mOrV, mNotV, mIfE, mCh, mTup, mLst, mFz1, mFzA, fzL, fz1, mCall, mCallI, mAp, mAd, mNeg, mYes, mLc, mNx, mBad, mRaise, mBk, mCt, stB, gN, gs0, gs1, gT, rsA, rs, allV, BV.fz, Nw.bv, R.bind, nox, gt, two, fAdd_int, fSub, fCmp, fLen, fList, fTuple, fInt, fAbs, fMax, fMin, fIx, fSlH, fSlL, fSl, fRev, fIs, fNeg, isNon, Option.bind_some, Option.map_some, List.set_cons_zero, List.set_cons_succ, List.map_cons, List.map_nil, List.cons_append, List.nil_append, List.replicate, List.length_cons, List.length_nil, Nat.zero_add, Nat.reduceAdd, if_true, ite_true, reduceIte, wipeE, Bool.true_or, Bool.false_or, Bool.true_and, Bool.false_and, Bool.not_true, Bool.not_false, Bool.false_eq_true, if_false, h1, h2, hw], ?_⟩
  rw [Rq.s_one, Rq.ic_one] at ht
  have : (1 : Rq.Sr p) * Rq.s p a ^ e = Rq.s p a ^ e := by grind
  rwa [this] at ht
theorem e_poly_left (a r : List Int) (p : Int) (e : Nat) (hp : p ∈ k_PRIMES) (ha : Po p a) (hr : Po p r) (hr0 : r ≠ []) (la : a.length ≤ 25) (lr : r.length ≤ 25) (he : e < 2 ^ 200) : ∃ t, M_poly_left [.tup (a.map D.int), .int e, .tup (r.map D.int), .int p] = .ok (.v (.tup (t.map D.int))) ∧ Lf p r (Rq.s p a ^ e) t := by
  obtain ⟨t, h, ht⟩ := e_left_raised a r p e hp ha hr hr0 (by omega) (by omega) he
  have h1 := e_need_polys [a, r] p hp (by simp) (by simp; exact ⟨⟨ha, la⟩, ⟨hr, lr⟩⟩)
  simp only [List.map_cons, List.map_nil] at h1
  have hd : decide ((e : Int) < 0) = false := decide_eq_false (by omega)
  exact ⟨t, by simp only [M_poly_left, B_poly_left, Nw.lf, lf, lfA_ints, SZ, Nat.reduceLeDiff, z1, z2, z3, z4, z5, z6, z7, z8, z9, z10, z11, z12, z13, z14, z15, z16, z17, z18, z19, z20, z21, z22, z23, z24, Nat.zero_le, fin, finI, mSeq, mIf, mRet, mRetN, mDrop, mSet, mAsg, mPar, mAug, mSetIx, mMe, mFor, mIs, mEn, mZa, mN, mK, mA0, mA1, mB, mT, mAnd, mOr, mNot, mAndV, mOrV, mNotV, mIfE, mCh, mTup, mLst, mFz1, mFzA, fzL, fz1, mCall, mCallI, mAp, mAd, mNeg, mYes, mLc, mNx, mBad, mRaise, mBk, mCt, stB, gN, gs0, gs1, gT, rsA, rs, allV, BV.fz, Nw.bv, R.bind, nox, gt, two, fAdd_int, fSub, fCmp, fLen, fList, fTuple, fInt, fAbs, fMax, fMin, fIx, fSlH, fSlL, fSl, fRev, fIs, fNeg, isNon, Option.bind_some, Option.map_some, List.set_cons_zero, List.set_cons_succ, List.map_cons, List.map_nil, List.cons_append, List.nil_append, List.replicate, List.length_cons, List.length_nil, Nat.zero_add, Nat.reduceAdd, if_true, ite_true, reduceIte, wipeE, Bool.true_or, Bool.false_or, Bool.true_and, Bool.false_and, Bool.not_true, Bool.not_false, Bool.false_eq_true, if_false, h1, hd, fEq_tn, hr0, decide_false, h], ht⟩
theorem b_put (b r f : List Int) (c p : Int) (hp : p ∈ k_PRIMES) (hr : Po p r) (hr0 : r ≠ []) (hf : Po p f) (lb : b.length ≤ 100) (lr : r.length ≤ 100) (lf : f.length ≤ 100) (S0 : Sl) : Fb_put_through_1 [S0, .v (.tup (b.map D.int)), .v (.tup (r.map D.int)), .v (.int p), .v (.tup (f.map D.int)), .v (.int c)] = .ok (.nx [S0, .v (.tup (b.map D.int)), .v (.tup (r.map D.int)), .v (.int p), .v (.tup ((rs' p (bl p 1 (mulP p f b) (trim [c])) r).map D.int)), .v (.int c)]) := by
  have h2 := pr_le p hp
  have hm := e_multiplied f b p (by omega) (fun x hx => by have := hf.r x hx; omega) (by omega) (by omega)
  have hc := e_cutL [c] (by simp)
  have lc := trim_length_le [c]
  have lm := mulP_length_le p f b
  simp only [List.length_cons, List.length_nil] at lc
  have hb := e_blended (mulP p f b) (trim [c]) 1 p (by omega) (by omega) (by omega) (by omega) (by omega)
  have l3 := bl_length p 1 (mulP p f b) (trim [c])
  have hl := e_left_by (bl p 1 (mulP p f b) (trim [c])) r p hp (Po.bl (by omega) ..) hr hr0 (by omega) (by omega)
  simp only [List.map_cons, List.map_nil] at hc
  simp only [Fb_put_through_1, Nw.lf, lf, lfA_ints, SZ, Nat.reduceLeDiff, z1, z2, z3, z4, z5, z6, z7, z8, z9, z10, z11, z12, z13, z14, z15, z16, z17, z18, z19, z20, z21, z22, z23, z24, Nat.zero_le, fin, finI, mSeq, mIf, mRet, mRetN, mDrop, mSet, mAsg, mPar, mAug, mSetIx, mMe, mFor, mIs, mEn, mZa, mN, mK, mA0, mA1, mB, mT, mAnd, mOr, mNot, mAndV, mOrV, mNotV, mIfE, mCh, mTup, mLst, mFz1, mFzA, fzL, fz1, mCall, mCallI, mAp, mAd, mNeg, mYes, mLc, mNx, mBad, mRaise, mBk, mCt, stB, gN, gs0, gs1, gT, rsA, rs, allV, BV.fz, Nw.bv, R.bind, nox, gt, two, fAdd_int, fSub, fCmp, fLen, fList, fTuple, fInt, fAbs, fMax, fMin, fIx, fSlH, fSlL, fSl, fRev, fIs, fNeg, isNon, Option.bind_some, Option.map_some, List.set_cons_zero, List.set_cons_succ, List.map_cons, List.map_nil, List.cons_append, List.nil_append, List.replicate, List.length_cons, List.length_nil, Nat.zero_add, Nat.reduceAdd, if_true, ite_true, reduceIte, wipeE, Bool.true_or, Bool.false_or, Bool.true_and, Bool.false_and, Bool.not_true, Bool.not_false, Bool.false_eq_true, if_false, hm, hc, hb, hl]
theorem put_step {p : Int} {b r f : List Int} {c : Int} {X : Rq.Sr p} (hp : p ∈ k_PRIMES) (hb : Po p b) (hr : Po p r) (hr0 : r ≠ []) (hf : Lf p r X f) : Lf p r (Rq.icst c + Rq.s p b * X) (rs' p (bl p 1 (mulP p f b) (trim [c])) r) := by
  have h2 := pr_le p hp
  have := Lf.rs hp (Po.bl (p := p) (by omega) 1 (mulP p f b) (trim [c])) hr hr0
  rw [Rq.s_plus, Rq.s_mulP, Rq.s_trim, Rq.s_one] at this
  refine this.of hp ?_
  have e : Rq.icst c + Rq.s p b * X = X * Rq.s p b + Rq.icst c := by grind
  rw [e]
  exact Rq.Cg.add (by omega) (Rq.Cg.mul (by omega) ⟨r, hr, rfl⟩ ⟨f, hf.po, rfl⟩ ⟨b, hb, rfl⟩ hf.c (Rq.Cg.rfl' ..)) (Rq.Cg.rfl' ..)
theorem w_put (b r : List Int) (p : Int) (hp : p ∈ k_PRIMES) (hb : Po p b) (hr : Po p r) (hr0 : r ≠ []) (lb : b.length ≤ 100) (lr : r.length ≤ 100) (S0 : Sl) : ∀ (a f : List Int) (w : List Int) (s5 : Sl), Lf p r (Rq.comp (Rq.s p b) w) f →
    ∃ t s5', mForL (gN 5) Fb_put_through_1 (a.map D.int) [S0, .v (.tup (b.map D.int)), .v (.tup (r.map D.int)), .v (.int p), .v (.tup (f.map D.int)), s5] = .ok (.nx [S0, .v (.tup (b.map D.int)), .v (.tup (r.map D.int)), .v (.int p), .v (.tup (t.map D.int)), s5']) ∧ Lf p r (Rq.comp (Rq.s p b) (a.reverse ++ w)) t
  | [], f, w, s5, h => ⟨f, s5, rfl, by simpa using h⟩
  | c :: a, f, w, s5, h => by
    have hs := put_step (c := c) hp hb hr hr0 h
    obtain ⟨t, s5', hw, ht⟩ := w_put b r p hp hb hr hr0 lb lr S0 a _ (c :: w) (.v (.int c)) hs
    refine ⟨t, s5', ?_, by simpa using ht⟩
    have hb' := b_put b r f c p hp hr hr0 h.po lb lr (by have := h.l; omega) S0
    rw [List.map_cons, mForL_cons (Γ1 := [S0, .v (.tup (b.map D.int)), .v (.tup (r.map D.int)), .v (.int p), .v (.tup (f.map D.int)), .v (.int c)]) rfl hb']
    exact hw
theorem lf_nil {p : Int} {r : List Int} (hr0 : r ≠ []) : Lf p r 0 [] := ⟨Rq.po_nil, by simpa using List.length_pos_iff.mpr hr0, by rw [Rq.s_nil]; exact Rq.Cg.rfl' ..⟩
theorem e_put_through (a b r : List Int) (p : Int) (hp : p ∈ k_PRIMES) (hb : Po p b) (hr : Po p r) (hr0 : r ≠ []) (la : a.length ≤ 100) (lb : b.length ≤ 100) (lr : r.length ≤ 100) : ∃ t, M_put_through [.tup (a.map D.int), .tup (b.map D.int), .tup (r.map D.int), .int p] = .ok (.v (.tup (t.map D.int))) ∧ Lf p r (Rq.comp (Rq.s p b) a) t := by
  obtain ⟨t, s5', hw, ht⟩ := w_put b r p hp hb hr hr0 lb lr (.v (.tup (a.map D.int))) a.reverse [] [] .no (by rw [Rq.comp]; exact lf_nil hr0)
  rw [List.reverse_reverse, List.append_nil] at ht
  rw [List.map_reverse] at hw
  simp only [List.map_nil] at hw
  exact ⟨t, by simp only [M_put_through, B_put_through, Nw.lf, lf, lfA_ints, SZ, Nat.reduceLeDiff, z1, z2, z3, z4, z5, z6, z7, z8, z9, z10, z11, z12, z13, z14, z15, z16, z17, z18, z19, z20, z21, z22, z23, z24, Nat.zero_le, fin, finI, mSeq, mIf, mRet, mRetN, mDrop, mSet, mAsg, mPar, mAug, mSetIx, mMe, mFor, mIs, mEn, mZa, mN, mK, mA0, mA1, mB, mT, mAnd, mOr, mNot, mAndV, mOrV, mNotV, mIfE, mCh, mTup, mLst, mFz1, mFzA, fzL, fz1, mCall, mCallI, mAp, mAd, mNeg, mYes, mLc, mNx, mBad, mRaise, mBk, mCt, stB, gN, gs0, gs1, gT, rsA, rs, allV, BV.fz, Nw.bv, R.bind, nox, gt, two, fAdd_int, fSub, fCmp, fLen, fList, fTuple, fInt, fAbs, fMax, fMin, fIx, fSlH, fSlL, fSl, fRev, fIs, fNeg, isNon, Option.bind_some, Option.map_some, List.set_cons_zero, List.set_cons_succ, List.map_cons, List.map_nil, List.cons_append, List.nil_append, List.replicate, List.length_cons, List.length_nil, Nat.zero_add, Nat.reduceAdd, if_true, ite_true, reduceIte, wipeE, Bool.true_or, Bool.false_or, Bool.true_and, Bool.false_and, Bool.not_true, Bool.not_false, Bool.false_eq_true, if_false, hw], ht⟩
theorem e_poly_put (a b r : List Int) (p : Int) (hp : p ∈ k_PRIMES) (ha : Po p a) (hb : Po p b) (hr : Po p r) (hr0 : r ≠ []) (la : a.length ≤ 25) (lb : b.length ≤ 25) (lr : r.length ≤ 25) : ∃ t, M_poly_put [.tup (a.map D.int), .tup (b.map D.int), .tup (r.map D.int), .int p] = .ok (.v (.tup (t.map D.int))) ∧ Lf p r (Rq.comp (Rq.s p b) a) t := by
  obtain ⟨t, h, ht⟩ := e_put_through a b r p hp hb hr hr0 (by omega) (by omega) (by omega)
  have h1 := e_need_polys [a, b, r] p hp (by simp) (by simp; exact ⟨⟨ha, la⟩, ⟨hb, lb⟩, ⟨hr, lr⟩⟩)
  simp only [List.map_cons, List.map_nil] at h1
  exact ⟨t, by simp only [M_poly_put, B_poly_put, Nw.lf, lf, lfA_ints, SZ, Nat.reduceLeDiff, z1, z2, z3, z4, z5, z6, z7, z8, z9, z10, z11, z12, z13, z14, z15, z16, z17, z18, z19, z20, z21, z22, z23, z24, Nat.zero_le, fin, finI, mSeq, mIf, mRet, mRetN, mDrop, mSet, mAsg, mPar, mAug, mSetIx, mMe, mFor, mIs, mEn, mZa, mN, mK, mA0, mA1, mB, mT, mAnd, mOr, mNot, mAndV, mOrV, mNotV, mIfE, mCh, mTup, mLst, mFz1, mFzA, fzL, fz1, mCall, mCallI, mAp, mAd, mNeg, mYes, mLc, mNx, mBad, mRaise, mBk, mCt, stB, gN, gs0, gs1, gT, rsA, rs, allV, BV.fz, Nw.bv, R.bind, nox, gt, two, fAdd_int, fSub, fCmp, fLen, fList, fTuple, fInt, fAbs, fMax, fMin, fIx, fSlH, fSlL, fSl, fRev, fIs, fNeg, isNon, Option.bind_some, Option.map_some, List.set_cons_zero, List.set_cons_succ, List.map_cons, List.map_nil, List.cons_append, List.nil_append, List.replicate, List.length_cons, List.length_nil, Nat.zero_add, Nat.reduceAdd, if_true, ite_true, reduceIte, wipeE, Bool.true_or, Bool.false_or, Bool.true_and, Bool.false_and, Bool.not_true, Bool.not_false, Bool.false_eq_true, if_false, h1, fEq_tn, hr0, decide_false, h], ht⟩
theorem row_tab : ∀ p ∈ k_PRIMES, Rq.row p p.toNat = 1 :: (List.replicate (p.toNat - 1) 0 ++ [1]) := by decide +kernel
theorem frob {p : Int} (hp : p ∈ k_PRIMES) (x y : Rq.Sr p) : (x + y) ^ p.toNat = x ^ p.toNat + y ^ p.toNat :=
  Rq.frob (by have := pr_le p hp; omega) (row_tab p hp) x y
end Mn
namespace K05
open PySem PySem.Spec PyProof.Rows L2 Rg Mn
abbrev Env := Rg.Env
def topS (i : Nat) : Stmt := PySem.Challenge.pw_rungfields_k05_values_slopes_and_put_in.main.body.getD i (.Pass ⟨0, 0, 0, 0⟩)
abbrev s_is_prime : Stmt := topS 21
abbrev N_is_prime : List Str := ["number"]
abbrev s_need_prime : Stmt := topS 22
abbrev N_need_prime : List Str := ["prime"]
abbrev s_is_rest : Stmt := topS 23
abbrev N_is_rest : List Str := ["number", "prime"]
abbrev s_raised : Stmt := topS 24
abbrev N_raised : List Str := ["number", "exponent", "prime", "found", "base"]
abbrev s_turned_over : Stmt := topS 25
abbrev N_turned_over : List Str := ["number", "prime"]
abbrev s_is_poly : Stmt := topS 28
abbrev N_is_poly : List Str := ["thing", "prime", "part"]
abbrev s_need_polys : Stmt := topS 29
abbrev N_need_polys : List Str := ["some", "prime", "one"]
abbrev s_cut : Stmt := topS 30
abbrev N_cut : List Str := ["numbers", "many"]
abbrev s_widened : Stmt := topS 31
abbrev N_widened : List Str := ["one", "many"]
abbrev s_blended : Stmt := topS 32
abbrev N_blended : List Str := ["one", "other", "weight", "prime", "many", "a", "b"]
abbrev s_multiplied : Stmt := topS 33
abbrev N_multiplied : List Str := ["one", "other", "prime", "found", "at", "part", "place", "more", "number"]
abbrev s_divided : Stmt := topS 34
abbrev N_divided : List Str := ["one", "other", "prime", "left", "size", "back", "quotient", "at", "weight", "place", "part"]
abbrev s_left_by : Stmt := topS 35
abbrev N_left_by : List Str := ["one", "rule", "prime"]
abbrev s_left_raised : Stmt := topS 36
abbrev N_left_raised : List Str := ["one", "exponent", "rule", "prime", "found", "base"]
abbrev s_put_through : Stmt := topS 37
abbrev N_put_through : List Str := ["one", "other", "rule", "prime", "found", "part"]
abbrev s_worth_at : Stmt := topS 38
abbrev N_worth_at : List Str := ["one", "number", "prime", "found", "part"]
abbrev s_sloped : Stmt := topS 39
abbrev N_sloped : List Str := ["one", "prime", "at", "part"]
abbrev s_poly_value : Stmt := topS 40
abbrev N_poly_value : List Str := ["one", "number", "prime"]
abbrev s_poly_put : Stmt := topS 41
abbrev N_poly_put : List Str := ["one", "other", "rule", "prime"]
abbrev s_poly_left : Stmt := topS 42
abbrev N_poly_left : List Str := ["one", "exponent", "rule", "prime"]
abbrev s_poly_slope : Stmt := topS 43
abbrev N_poly_slope : List Str := ["one", "prime"]
abbrev s__law_begin : Stmt := topS 45
abbrev N__law_begin : List Str := ["_law_script"]
abbrev s__law_take : Stmt := topS 46
abbrev N__law_take : List Str := ["_law_draw", "_law_sides", "_law_cell", "_law_got"]
abbrev s__law_of : Stmt := topS 47
abbrev N__law_of : List Str := ["_law_draw", "_law_row"]
abbrev s__law_same : Stmt := topS 48
abbrev N__law_same : List Str := ["_law_found", "_law_due", "_law_one", "_law_other"]
abbrev s__law_why : Stmt := topS 49
abbrev s__law_word : Stmt := topS 50
abbrev s__law_primes : Stmt := topS 51
abbrev N__law_primes : List Str := []
abbrev s__law_any_prime : Stmt := topS 52
abbrev N__law_any_prime : List Str := ["_law_draw"]
abbrev s__law_far : Stmt := topS 53
abbrev N__law_far : List Str := ["_law_draw", "_law_p"]
abbrev s__law_trim : Stmt := topS 54
abbrev N__law_trim : List Str := ["_law_numbers", "_law_many", "_law_k"]
abbrev s__law_rests : Stmt := topS 55
abbrev N__law_rests : List Str := ["_law_draw", "_law_many", "_law_p", "_law_k"]
abbrev s__law_poly : Stmt := topS 56
abbrev N__law_poly : List Str := ["_law_draw", "_law_most", "_law_p", "_law_found", "_law_number"]
abbrev s__law_blend : Stmt := topS 57
abbrev N__law_blend : List Str := ["_law_one", "_law_other", "_law_weight", "_law_p", "_law_many", "_law_wide", "_law_row", "_law_a", "_law_b"]
abbrev s__law_conv : Stmt := topS 58
abbrev N__law_conv : List Str := ["_law_one", "_law_other", "_law_p", "_law_found", "_law_at", "_law_a", "_law_place", "_law_b"]
abbrev s__law_mul : Stmt := topS 59
abbrev N__law_mul : List Str := ["_law_one", "_law_other", "_law_p"]
abbrev s__law_back : Stmt := topS 60
abbrev N__law_back : List Str := ["_law_number", "_law_p", "_law_k"]
abbrev s__law_cut_by : Stmt := topS 61
abbrev N__law_cut_by : List Str := ["_law_one", "_law_other", "_law_p", "_law_left", "_law_many", "_law_back_here", "_law_found", "_law_at", "_law_weight", "_law_place", "_law_rest", "_law_spot"]
abbrev s__law_rem : Stmt := topS 62
abbrev N__law_rem : List Str := ["_law_one", "_law_other", "_law_p"]
abbrev s__law_lift : Stmt := topS 63
abbrev N__law_lift : List Str := ["_law_one", "_law_exponent", "_law_rule", "_law_p", "_law_found", "_law_base", "_law_rest", "_law_k"]
abbrev s__law_put : Stmt := topS 64
abbrev N__law_put : List Str := ["_law_one", "_law_other", "_law_rule", "_law_p", "_law_found", "_law_number"]
abbrev s__law_worth : Stmt := topS 65
abbrev N__law_worth : List Str := ["_law_one", "_law_number", "_law_p", "_law_found", "_law_power", "_law_rest"]
abbrev s_law : Stmt := topS 66
abbrev N_law : List Str := ["_law_script", "_law_turn", "_law_number", "_law_slope", "_law_found", "_law_told", "_law_power", "_law_words", "_law_draw", "_law_exponent", "_law_far_here", "_law_one", "_law_other", "_law_p", "_law_rule", "_law_k", "_law_at", "_law_rest"]
abbrev i_RungError : Stmt := iniS (topS 1)
abbrev i_BadPrime : Stmt := iniS (topS 3)
abbrev i_BadRest : Stmt := iniS (topS 4)
abbrev i_BadPoly : Stmt := iniS (topS 5)
abbrev i_BadNumber : Stmt := iniS (topS 8)
abbrev i_NoInverse : Stmt := iniS (topS 9)
def kn : List Str := ["BadPrime", "BadRest", "BadPoly", "BadNumber", "NoInverse"]
noncomputable def Le_law_2 : Env → R (BV × Env) :=
  (mCallI M__law_poly (mA1 (mN 8) (mA1 (mK (.int 8)) (mA1 (mN 13) mA0))))
noncomputable def Le_law_3 : Env → R (BV × Env) :=
  (mB (two fMod) (mA1 (mB (two fMul) (mA1 (mN 16) (mA1 (mN 17) mA0))) (mA1 (mN 13) mA0)))
noncomputable def La_law_4 : Env → R (BV × Env) :=
  (mCall M_poly_put (mAp (mA1 (mN 11) (mA1 (mN 12) (mA1 (mN 14) mA0))) (mA1 (mN 13) mA0)))
noncomputable def La_law_5 : Env → R (BV × Env) :=
  (mCall M_poly_left (mAp (mA1 (mN 11) (mA1 (mN 9) (mA1 (mN 14) mA0))) (mA1 (mN 13) mA0)))
noncomputable def La_law_6 : Env → R (BV × Env) :=
  (mCall M_poly_value (mAp (mA1 (mN 11) (mA1 (mN 10) mA0)) (mA1 (mN 13) mA0)))
noncomputable def La_law_7 : Env → RS2 :=
  (mCall2 M_poly_left (mAp (mA1 (mN 11) (mA1 (mB (two fSub) (mA1 (mNeg (mK (.int 1))) (mA1 (mCallI M__law_take (mA1 (mN 8) (mA1 (mK (.int 9)) mA0))) mA0))) (mA1 (mTup mA0) mA0))) (mA1 (mN 13) mA0)))
noncomputable def Fb_law_1 : Env → R Fl :=
  (mSeq (mSet 13 (mCallI M__law_any_prime (mA1 (mN 8) mA0)))
  (mSeq (mAsg (gU 3 (gs1 (gN 11) (gs1 (gN 12) (gs1 (gN 14) gs0)))) (mLc (mR1 (mA1 (mK (.int 3)) mA0)) (gN 15) mYes Le_law_2 [15]))
  (mSeq (mSet 2 (mCallI M__law_take (mA1 (mN 8) (mA1 (mN 13) mA0))))
  (mSeq (mSet 3 (mCall M__law_trim (mA1 (mB fSlL (mA1 (mLc (mEn (mA1 (mN 11) mA0)) (gT 2 (gs1 (gN 16) (gs1 (gN 17) gs0))) mYes Le_law_3 [16, 17]) (mA1 (mK (.int 1)) mA0))) mA0)))
  (mSeq (mSet 4 (mLst (mA1 (mCall M_poly_value (mAp (mA1 (mN 11) (mA1 (mN 2) mA0)) (mA1 (mN 13) mA0))) (mA1 (mCall M_poly_slope (mAp (mA1 (mN 11) mA0) (mA1 (mN 13) mA0))) mA0))))
  (mSeq (mIf (mNot (mT (mCall M__law_same (mA1 (mN 4) (mA1 (mLst (mA1 (mCall M__law_worth (mA1 (mN 11) (mA1 (mN 2) (mA1 (mN 13) mA0)))) (mA1 (mN 3) mA0))) mA0))))) (mRet (mK (.bl false))) mNx)
  (mSeq (mSet 9 (mCallI M__law_of (mA1 (mN 8) (mA1 (mLst (mA1 (mK (.int 0)) (mA1 (mK (.int 1)) (mA1 (mK (.int 2)) (mA1 (mN 13) (mA1 (mCallI M__law_take (mA1 (mN 8) (mA1 (mB (two fPow) (mA1 (mK (.int 10)) (mA1 (mK (.int 6)) mA0))) mA0))) (mA1 (mB (two fAdd) (mA1 (mB (two fPow) (mA1 (mK (.int 10)) (mA1 (mK (.int 39)) mA0))) (mA1 (mCallI M__law_take (mA1 (mN 8) (mA1 (mB (two fPow) (mA1 (mK (.int 10)) (mA1 (mK (.int 9)) mA0))) mA0))) mA0))) mA0))))))) mA0))))
  (mSeq (mSet 5 (mWhy kn La_law_4))
  (mSeq (mSet 6 (mWhy kn La_law_5))
  (mSeq (mIf (mT (mB (two fEq) (mA1 (mN 14) (mA1 (mTup mA0) mA0)))) (mIf (mOr (mT (mB (two fNe) (mA1 (mN 5) (mA1 (mTup (mA1 (mK (.str "NoInverse")) (mA1 (mK .non) mA0))) mA0)))) (mT (mB (two fNe) (mA1 (mN 6) (mA1 (mTup (mA1 (mK (.str "NoInverse")) (mA1 (mK .non) mA0))) mA0))))) (mRet (mK (.bl false))) mNx) (mSeq (mIf (mNot (mT (mCall M__law_same (mA1 (mN 5) (mA1 (mTup (mA1 (mK (.str "told")) (mA1 (mCall M__law_put (mA1 (mN 11) (mA1 (mN 12) (mA1 (mN 14) (mA1 (mN 13) mA0))))) mA0))) mA0))))) (mRet (mK (.bl false))) mNx)
  (mIf (mNot (mT (mCall M__law_same (mA1 (mN 6) (mA1 (mTup (mA1 (mK (.str "told")) (mA1 (mCall M__law_lift (mA1 (mN 11) (mA1 (mN 9) (mA1 (mN 14) (mA1 (mN 13) mA0))))) mA0))) mA0))))) (mRet (mK (.bl false))) mNx)))
  (mSeq (mSet 10 (mCallI M__law_far (mA1 (mN 8) (mA1 (mN 13) mA0))))
  (mSeq (mSet 7 (mLst (mA1 (mWord kn La_law_6) mA0)))
  (mSeq (mDrop (mMe 7 fApp (mA1 (mWord2 kn La_law_7) mA0)))
  (mIf (mT (mB (two fNe) (mA1 (mN 7) (mA1 (mLst (mA1 (mK (.str "BadRest")) (mA1 (mK (.str "BadNumber")) mA0))) mA0)))) (mRet (mK (.bl false))) mNx))))))))))))))
noncomputable def B_law : Env → R Fl :=
  (mSeq (mSet 8 (mCall M__law_begin (mA1 (mN 0) mA0)))
  (mSeq (mFor (mR1 (mA1 (mK (.int 4)) mA0)) (gN 1) Fb_law_1)
  (mRet (mAndV (mB (two fEq) (mA1 (mCall M_poly_value (mAd (mA1 (mTup (mA1 (mK (.int 1)) (mA1 (mK (.int 1)) mA0))) (mA1 (mK (.int 1)) mA0)) [2])) (mA1 (mK (.int 0)) mA0))) (mB (two fEq) (mA1 (mCall M_poly_put (mAd (mA1 (mTup (mA1 (mK (.int 0)) (mA1 (mK (.int 1)) mA0))) (mA1 (mTup (mA1 (mK (.int 1)) (mA1 (mK (.int 1)) mA0))) (mA1 (mTup (mA1 (mK (.int 1)) (mA1 (mK (.int 1)) (mA1 (mK (.int 1)) mA0)))) mA0))) [2])) (mA1 (mTup (mA1 (mK (.int 1)) (mA1 (mK (.int 1)) mA0))) mA0)))))))
noncomputable def M_law : List D → R Nw := fin 1 B_law 17
theorem bt_abs : bootBuiltins "abs" = some (.builtin "abs") := by decide +kernel
theorem bt_all : bootBuiltins "all" = some (.builtin "all") := by decide +kernel
theorem bt_bool : bootBuiltins "bool" = some (.type "bool") := by decide +kernel
theorem bt_enumerate : bootBuiltins "enumerate" = some (.type "enumerate") := by decide +kernel
theorem bt_int : bootBuiltins "int" = some (.type "int") := by decide +kernel
theorem bt_isinstance : bootBuiltins "isinstance" = some (.builtin "isinstance") := by decide +kernel
theorem bt_len : bootBuiltins "len" = some (.builtin "len") := by decide +kernel
theorem bt_list : bootBuiltins "list" = some (.type "list") := by decide +kernel
theorem bt_max : bootBuiltins "max" = some (.builtin "max") := by decide +kernel
theorem bt_range : bootBuiltins "range" = some (.type "range") := by decide +kernel
theorem bt_str : bootBuiltins "str" = some (.type "str") := by decide +kernel
theorem bt_tuple : bootBuiltins "tuple" = some (.type "tuple") := by decide +kernel
theorem bt_zip : bootBuiltins "zip" = some (.type "zip") := by decide +kernel
theorem sc_is_prime : FnScope N_is_prime ["number"] (defScope s_is_prime) := ⟨rfl, rfl, rfl, by decide +kernel, rfl, by decide +kernel, by decide +kernel⟩
theorem sc_need_prime : FnScope N_need_prime ["prime"] (defScope s_need_prime) := ⟨rfl, rfl, rfl, by decide +kernel, rfl, by decide +kernel, by decide +kernel⟩
theorem sc_is_rest : FnScope N_is_rest ["number", "prime"] (defScope s_is_rest) := ⟨rfl, rfl, rfl, by decide +kernel, rfl, by decide +kernel, by decide +kernel⟩
theorem sc_raised : FnScope N_raised ["number", "exponent", "prime"] (defScope s_raised) := ⟨rfl, rfl, rfl, by decide +kernel, rfl, by decide +kernel, by decide +kernel⟩
theorem sc_turned_over : FnScope N_turned_over ["number", "prime"] (defScope s_turned_over) := ⟨rfl, rfl, rfl, by decide +kernel, rfl, by decide +kernel, by decide +kernel⟩
theorem sc_is_poly : FnScope N_is_poly ["thing", "prime"] (defScope s_is_poly) := ⟨rfl, rfl, rfl, by decide +kernel, rfl, by decide +kernel, by decide +kernel⟩
theorem sc_need_polys : FnScope N_need_polys ["some", "prime"] (defScope s_need_polys) := ⟨rfl, rfl, rfl, by decide +kernel, rfl, by decide +kernel, by decide +kernel⟩
theorem sc_cut : FnScope N_cut ["numbers"] (defScope s_cut) := ⟨rfl, rfl, rfl, by decide +kernel, rfl, by decide +kernel, by decide +kernel⟩
theorem sc_widened : FnScope N_widened ["one", "many"] (defScope s_widened) := ⟨rfl, rfl, rfl, by decide +kernel, rfl, by decide +kernel, by decide +kernel⟩
theorem sc_blended : FnScope N_blended ["one", "other", "weight", "prime"] (defScope s_blended) := ⟨rfl, rfl, rfl, by decide +kernel, rfl, by decide +kernel, by decide +kernel⟩
theorem sc_multiplied : FnScope N_multiplied ["one", "other", "prime"] (defScope s_multiplied) := ⟨rfl, rfl, rfl, by decide +kernel, rfl, by decide +kernel, by decide +kernel⟩
theorem sc_divided : FnScope N_divided ["one", "other", "prime"] (defScope s_divided) := ⟨rfl, rfl, rfl, by decide +kernel, rfl, by decide +kernel, by decide +kernel⟩
theorem sc_left_by : FnScope N_left_by ["one", "rule", "prime"] (defScope s_left_by) := ⟨rfl, rfl, rfl, by decide +kernel, rfl, by decide +kernel, by decide +kernel⟩
theorem sc_left_raised : FnScope N_left_raised ["one", "exponent", "rule", "prime"] (defScope s_left_raised) := ⟨rfl, rfl, rfl, by decide +kernel, rfl, by decide +kernel, by decide +kernel⟩
theorem sc_put_through : FnScope N_put_through ["one", "other", "rule", "prime"] (defScope s_put_through) := ⟨rfl, rfl, rfl, by decide +kernel, rfl, by decide +kernel, by decide +kernel⟩
theorem sc_worth_at : FnScope N_worth_at ["one", "number", "prime"] (defScope s_worth_at) := ⟨rfl, rfl, rfl, by decide +kernel, rfl, by decide +kernel, by decide +kernel⟩
theorem sc_sloped : FnScope N_sloped ["one", "prime"] (defScope s_sloped) := ⟨rfl, rfl, rfl, by decide +kernel, rfl, by decide +kernel, by decide +kernel⟩
theorem sc_poly_value : FnScope N_poly_value ["one", "number", "prime"] (defScope s_poly_value) := ⟨rfl, rfl, rfl, by decide +kernel, rfl, by decide +kernel, by decide +kernel⟩
theorem sc_poly_put : FnScope N_poly_put ["one", "other", "rule", "prime"] (defScope s_poly_put) := ⟨rfl, rfl, rfl, by decide +kernel, rfl, by decide +kernel, by decide +kernel⟩
theorem sc_poly_left : FnScope N_poly_left ["one", "exponent", "rule", "prime"] (defScope s_poly_left) := ⟨rfl, rfl, rfl, by decide +kernel, rfl, by decide +kernel, by decide +kernel⟩
theorem sc_poly_slope : FnScope N_poly_slope ["one", "prime"] (defScope s_poly_slope) := ⟨rfl, rfl, rfl, by decide +kernel, rfl, by decide +kernel, by decide +kernel⟩
theorem sc__law_begin : FnScope N__law_begin ["_law_script"] (defScope s__law_begin) := ⟨rfl, rfl, rfl, by decide +kernel, rfl, by decide +kernel, by decide +kernel⟩
theorem sc__law_take : FnScope N__law_take ["_law_draw", "_law_sides"] (defScope s__law_take) := ⟨rfl, rfl, rfl, by decide +kernel, rfl, by decide +kernel, by decide +kernel⟩
theorem sc__law_of : FnScope N__law_of ["_law_draw", "_law_row"] (defScope s__law_of) := ⟨rfl, rfl, rfl, by decide +kernel, rfl, by decide +kernel, by decide +kernel⟩
theorem sc__law_same : FnScope N__law_same ["_law_found", "_law_due"] (defScope s__law_same) := ⟨rfl, rfl, rfl, by decide +kernel, rfl, by decide +kernel, by decide +kernel⟩
theorem sc__law_why : FnScope ["_law_ask", "e"] ["_law_ask"] (defScope s__law_why) := ⟨rfl, rfl, rfl, by decide +kernel, rfl, by decide +kernel, by decide +kernel⟩
theorem sc__law_word : FnScope ["_law_ask"] ["_law_ask"] (defScope s__law_word) := ⟨rfl, rfl, rfl, by decide +kernel, rfl, by decide +kernel, by decide +kernel⟩
theorem sc__law_primes : FnScope N__law_primes [] (defScope s__law_primes) := ⟨rfl, rfl, rfl, by decide +kernel, rfl, by decide +kernel, by decide +kernel⟩
theorem sc__law_any_prime : FnScope N__law_any_prime ["_law_draw"] (defScope s__law_any_prime) := ⟨rfl, rfl, rfl, by decide +kernel, rfl, by decide +kernel, by decide +kernel⟩
theorem sc__law_far : FnScope N__law_far ["_law_draw", "_law_p"] (defScope s__law_far) := ⟨rfl, rfl, rfl, by decide +kernel, rfl, by decide +kernel, by decide +kernel⟩
theorem sc__law_trim : FnScope N__law_trim ["_law_numbers"] (defScope s__law_trim) := ⟨rfl, rfl, rfl, by decide +kernel, rfl, by decide +kernel, by decide +kernel⟩
theorem sc__law_rests : FnScope N__law_rests ["_law_draw", "_law_many", "_law_p"] (defScope s__law_rests) := ⟨rfl, rfl, rfl, by decide +kernel, rfl, by decide +kernel, by decide +kernel⟩
theorem sc__law_poly : FnScope N__law_poly ["_law_draw", "_law_most", "_law_p"] (defScope s__law_poly) := ⟨rfl, rfl, rfl, by decide +kernel, rfl, by decide +kernel, by decide +kernel⟩
theorem sc__law_blend : FnScope N__law_blend ["_law_one", "_law_other", "_law_weight", "_law_p"] (defScope s__law_blend) := ⟨rfl, rfl, rfl, by decide +kernel, rfl, by decide +kernel, by decide +kernel⟩
theorem sc__law_conv : FnScope N__law_conv ["_law_one", "_law_other", "_law_p"] (defScope s__law_conv) := ⟨rfl, rfl, rfl, by decide +kernel, rfl, by decide +kernel, by decide +kernel⟩
theorem sc__law_mul : FnScope N__law_mul ["_law_one", "_law_other", "_law_p"] (defScope s__law_mul) := ⟨rfl, rfl, rfl, by decide +kernel, rfl, by decide +kernel, by decide +kernel⟩
theorem sc__law_back : FnScope N__law_back ["_law_number", "_law_p"] (defScope s__law_back) := ⟨rfl, rfl, rfl, by decide +kernel, rfl, by decide +kernel, by decide +kernel⟩
theorem sc__law_cut_by : FnScope N__law_cut_by ["_law_one", "_law_other", "_law_p"] (defScope s__law_cut_by) := ⟨rfl, rfl, rfl, by decide +kernel, rfl, by decide +kernel, by decide +kernel⟩
theorem sc__law_rem : FnScope N__law_rem ["_law_one", "_law_other", "_law_p"] (defScope s__law_rem) := ⟨rfl, rfl, rfl, by decide +kernel, rfl, by decide +kernel, by decide +kernel⟩
theorem sc__law_lift : FnScope N__law_lift ["_law_one", "_law_exponent", "_law_rule", "_law_p"] (defScope s__law_lift) := ⟨rfl, rfl, rfl, by decide +kernel, rfl, by decide +kernel, by decide +kernel⟩
theorem sc__law_put : FnScope N__law_put ["_law_one", "_law_other", "_law_rule", "_law_p"] (defScope s__law_put) := ⟨rfl, rfl, rfl, by decide +kernel, rfl, by decide +kernel, by decide +kernel⟩
theorem sc__law_worth : FnScope N__law_worth ["_law_one", "_law_number", "_law_p"] (defScope s__law_worth) := ⟨rfl, rfl, rfl, by decide +kernel, rfl, by decide +kernel, by decide +kernel⟩
theorem sc_law : FnScope N_law ["_law_script"] (defScope s_law) := ⟨rfl, rfl, rfl, by decide +kernel, rfl, by decide +kernel, by decide +kernel⟩
theorem sc_i_RungError : FnScope ["self", "word"] ["self", "word"] (defScope i_RungError) := ⟨rfl, rfl, rfl, by decide +kernel, rfl, by decide +kernel, by decide +kernel⟩
theorem sc_i_BadPrime : FnScope ["self"] ["self"] (defScope i_BadPrime) := ⟨rfl, rfl, rfl, by decide +kernel, rfl, by decide +kernel, by decide +kernel⟩
theorem sc_i_BadRest : FnScope ["self"] ["self"] (defScope i_BadRest) := ⟨rfl, rfl, rfl, by decide +kernel, rfl, by decide +kernel, by decide +kernel⟩
theorem sc_i_BadPoly : FnScope ["self"] ["self"] (defScope i_BadPoly) := ⟨rfl, rfl, rfl, by decide +kernel, rfl, by decide +kernel, by decide +kernel⟩
theorem sc_i_BadNumber : FnScope ["self"] ["self"] (defScope i_BadNumber) := ⟨rfl, rfl, rfl, by decide +kernel, rfl, by decide +kernel, by decide +kernel⟩
theorem sc_i_NoInverse : FnScope ["self"] ["self"] (defScope i_NoInverse) := ⟨rfl, rfl, rfl, by decide +kernel, rfl, by decide +kernel, by decide +kernel⟩
structure Tx (K : PySem.W.Frag) (mg : Str → Option Value) (base : Heap) (fd : Nat → FuncData) : Prop where
  F0 : FunD K "is_prime" "is_prime" (defArgs s_is_prime) (defBody s_is_prime) (defScope s_is_prime) [] [] (He.fAd K ("is_prime", none)) (fd 0)
  b0 : Binds K (fd 0) ["number"] []
  g0 : mg "is_prime" = some (.ref (He.fAd K ("is_prime", none)))
  F1 : FunD K "need_prime" "need_prime" (defArgs s_need_prime) (defBody s_need_prime) (defScope s_need_prime) [] [] (He.fAd K ("need_prime", none)) (fd 1)
  b1 : Binds K (fd 1) ["prime"] []
  g1 : mg "need_prime" = some (.ref (He.fAd K ("need_prime", none)))
  F2 : FunD K "is_rest" "is_rest" (defArgs s_is_rest) (defBody s_is_rest) (defScope s_is_rest) [] [] (He.fAd K ("is_rest", none)) (fd 2)
  b2 : Binds K (fd 2) ["number", "prime"] []
  g2 : mg "is_rest" = some (.ref (He.fAd K ("is_rest", none)))
  F3 : FunD K "raised" "raised" (defArgs s_raised) (defBody s_raised) (defScope s_raised) [] [] (He.fAd K ("raised", none)) (fd 3)
  b3 : Binds K (fd 3) ["number", "exponent", "prime"] []
  g3 : mg "raised" = some (.ref (He.fAd K ("raised", none)))
  F4 : FunD K "turned_over" "turned_over" (defArgs s_turned_over) (defBody s_turned_over) (defScope s_turned_over) [] [] (He.fAd K ("turned_over", none)) (fd 4)
  b4 : Binds K (fd 4) ["number", "prime"] []
  g4 : mg "turned_over" = some (.ref (He.fAd K ("turned_over", none)))
  F5 : FunD K "is_poly" "is_poly" (defArgs s_is_poly) (defBody s_is_poly) (defScope s_is_poly) [] [] (He.fAd K ("is_poly", none)) (fd 5)
  b5 : Binds K (fd 5) ["thing", "prime"] []
  g5 : mg "is_poly" = some (.ref (He.fAd K ("is_poly", none)))
  F6 : FunD K "need_polys" "need_polys" (defArgs s_need_polys) (defBody s_need_polys) (defScope s_need_polys) [] [] (He.fAd K ("need_polys", none)) (fd 6)
  b6 : Binds K (fd 6) ["some", "prime"] []
  g6 : mg "need_polys" = some (.ref (He.fAd K ("need_polys", none)))
  F7 : FunD K "cut" "cut" (defArgs s_cut) (defBody s_cut) (defScope s_cut) [] [] (He.fAd K ("cut", none)) (fd 7)
  b7 : Binds K (fd 7) ["numbers"] []
  g7 : mg "cut" = some (.ref (He.fAd K ("cut", none)))
  F8 : FunD K "widened" "widened" (defArgs s_widened) (defBody s_widened) (defScope s_widened) [] [] (He.fAd K ("widened", none)) (fd 8)
  b8 : Binds K (fd 8) ["one", "many"] []
  g8 : mg "widened" = some (.ref (He.fAd K ("widened", none)))
  F9 : FunD K "blended" "blended" (defArgs s_blended) (defBody s_blended) (defScope s_blended) [] [] (He.fAd K ("blended", none)) (fd 9)
  b9 : Binds K (fd 9) ["one", "other", "weight", "prime"] []
  g9 : mg "blended" = some (.ref (He.fAd K ("blended", none)))
  F10 : FunD K "multiplied" "multiplied" (defArgs s_multiplied) (defBody s_multiplied) (defScope s_multiplied) [] [] (He.fAd K ("multiplied", none)) (fd 10)
  b10 : Binds K (fd 10) ["one", "other", "prime"] []
  g10 : mg "multiplied" = some (.ref (He.fAd K ("multiplied", none)))
  F11 : FunD K "divided" "divided" (defArgs s_divided) (defBody s_divided) (defScope s_divided) [] [] (He.fAd K ("divided", none)) (fd 11)
  b11 : Binds K (fd 11) ["one", "other", "prime"] []
  g11 : mg "divided" = some (.ref (He.fAd K ("divided", none)))
  F12 : FunD K "left_by" "left_by" (defArgs s_left_by) (defBody s_left_by) (defScope s_left_by) [] [] (He.fAd K ("left_by", none)) (fd 12)
  b12 : Binds K (fd 12) ["one", "rule", "prime"] []
  g12 : mg "left_by" = some (.ref (He.fAd K ("left_by", none)))
  F13 : FunD K "left_raised" "left_raised" (defArgs s_left_raised) (defBody s_left_raised) (defScope s_left_raised) [] [] (He.fAd K ("left_raised", none)) (fd 13)
  b13 : Binds K (fd 13) ["one", "exponent", "rule", "prime"] []
  g13 : mg "left_raised" = some (.ref (He.fAd K ("left_raised", none)))
  F14 : FunD K "put_through" "put_through" (defArgs s_put_through) (defBody s_put_through) (defScope s_put_through) [] [] (He.fAd K ("put_through", none)) (fd 14)
  b14 : Binds K (fd 14) ["one", "other", "rule", "prime"] []
  g14 : mg "put_through" = some (.ref (He.fAd K ("put_through", none)))
  F15 : FunD K "worth_at" "worth_at" (defArgs s_worth_at) (defBody s_worth_at) (defScope s_worth_at) [] [] (He.fAd K ("worth_at", none)) (fd 15)
  b15 : Binds K (fd 15) ["one", "number", "prime"] []
  g15 : mg "worth_at" = some (.ref (He.fAd K ("worth_at", none)))
  F16 : FunD K "sloped" "sloped" (defArgs s_sloped) (defBody s_sloped) (defScope s_sloped) [] [] (He.fAd K ("sloped", none)) (fd 16)
  b16 : Binds K (fd 16) ["one", "prime"] []
  g16 : mg "sloped" = some (.ref (He.fAd K ("sloped", none)))
  F17 : FunD K "poly_value" "poly_value" (defArgs s_poly_value) (defBody s_poly_value) (defScope s_poly_value) [] [("prime", .int 2)] (He.fAd K ("poly_value", none)) (fd 17)
  k17 : KBn K (fd 17) ["one", "number", "prime"] 2 ["prime"] (fun us ws => us ++ ws) (fun us ws => us ++ ws)
  e17 : ∃ ds, Vals (([2] : List Int).map V.int) ds ∧ Binds K (fd 17) ["one", "number", "prime"] ds
  g17 : mg "poly_value" = some (.ref (He.fAd K ("poly_value", none)))
  F18 : FunD K "poly_put" "poly_put" (defArgs s_poly_put) (defBody s_poly_put) (defScope s_poly_put) [] [("prime", .int 2)] (He.fAd K ("poly_put", none)) (fd 18)
  k18 : KBn K (fd 18) ["one", "other", "rule", "prime"] 3 ["prime"] (fun us ws => us ++ ws) (fun us ws => us ++ ws)
  e18 : ∃ ds, Vals (([2] : List Int).map V.int) ds ∧ Binds K (fd 18) ["one", "other", "rule", "prime"] ds
  g18 : mg "poly_put" = some (.ref (He.fAd K ("poly_put", none)))
  F19 : FunD K "poly_left" "poly_left" (defArgs s_poly_left) (defBody s_poly_left) (defScope s_poly_left) [] [("prime", .int 2)] (He.fAd K ("poly_left", none)) (fd 19)
  k19 : KBn K (fd 19) ["one", "exponent", "rule", "prime"] 3 ["prime"] (fun us ws => us ++ ws) (fun us ws => us ++ ws)
  e19 : ∃ ds, Vals (([2] : List Int).map V.int) ds ∧ Binds K (fd 19) ["one", "exponent", "rule", "prime"] ds
  g19 : mg "poly_left" = some (.ref (He.fAd K ("poly_left", none)))
  F20 : FunD K "poly_slope" "poly_slope" (defArgs s_poly_slope) (defBody s_poly_slope) (defScope s_poly_slope) [] [("prime", .int 2)] (He.fAd K ("poly_slope", none)) (fd 20)
  k20 : KBn K (fd 20) ["one", "prime"] 1 ["prime"] (fun us ws => us ++ ws) (fun us ws => us ++ ws)
  e20 : ∃ ds, Vals (([2] : List Int).map V.int) ds ∧ Binds K (fd 20) ["one", "prime"] ds
  g20 : mg "poly_slope" = some (.ref (He.fAd K ("poly_slope", none)))
  F21 : FunD K "_law_begin" "_law_begin" (defArgs s__law_begin) (defBody s__law_begin) (defScope s__law_begin) [] [] (He.fAd K ("_law_begin", none)) (fd 21)
  b21 : Binds K (fd 21) ["_law_script"] []
  g21 : mg "_law_begin" = some (.ref (He.fAd K ("_law_begin", none)))
  F22 : FunD K "_law_take" "_law_take" (defArgs s__law_take) (defBody s__law_take) (defScope s__law_take) [] [] (He.fAd K ("_law_take", none)) (fd 22)
  b22 : Binds K (fd 22) ["_law_draw", "_law_sides"] []
  g22 : mg "_law_take" = some (.ref (He.fAd K ("_law_take", none)))
  F23 : FunD K "_law_of" "_law_of" (defArgs s__law_of) (defBody s__law_of) (defScope s__law_of) [] [] (He.fAd K ("_law_of", none)) (fd 23)
  b23 : Binds K (fd 23) ["_law_draw", "_law_row"] []
  g23 : mg "_law_of" = some (.ref (He.fAd K ("_law_of", none)))
  F24 : FunD K "_law_same" "_law_same" (defArgs s__law_same) (defBody s__law_same) (defScope s__law_same) [] [] (He.fAd K ("_law_same", none)) (fd 24)
  b24 : Binds K (fd 24) ["_law_found", "_law_due"] []
  g24 : mg "_law_same" = some (.ref (He.fAd K ("_law_same", none)))
  F25 : FunD K "_law_why" "_law_why" (defArgs s__law_why) (defBody s__law_why) (defScope s__law_why) [] [] (He.fAd K ("_law_why", none)) (fd 25)
  b25 : Binds K (fd 25) ["_law_ask"] []
  g25 : mg "_law_why" = some (.ref (He.fAd K ("_law_why", none)))
  F26 : FunD K "_law_word" "_law_word" (defArgs s__law_word) (defBody s__law_word) (defScope s__law_word) [] [] (He.fAd K ("_law_word", none)) (fd 26)
  b26 : Binds K (fd 26) ["_law_ask"] []
  g26 : mg "_law_word" = some (.ref (He.fAd K ("_law_word", none)))
  F27 : FunD K "_law_primes" "_law_primes" (defArgs s__law_primes) (defBody s__law_primes) (defScope s__law_primes) [] [] (He.fAd K ("_law_primes", none)) (fd 27)
  b27 : Binds K (fd 27) [] []
  g27 : mg "_law_primes" = some (.ref (He.fAd K ("_law_primes", none)))
  F28 : FunD K "_law_any_prime" "_law_any_prime" (defArgs s__law_any_prime) (defBody s__law_any_prime) (defScope s__law_any_prime) [] [] (He.fAd K ("_law_any_prime", none)) (fd 28)
  b28 : Binds K (fd 28) ["_law_draw"] []
  g28 : mg "_law_any_prime" = some (.ref (He.fAd K ("_law_any_prime", none)))
  F29 : FunD K "_law_far" "_law_far" (defArgs s__law_far) (defBody s__law_far) (defScope s__law_far) [] [] (He.fAd K ("_law_far", none)) (fd 29)
  b29 : Binds K (fd 29) ["_law_draw", "_law_p"] []
  g29 : mg "_law_far" = some (.ref (He.fAd K ("_law_far", none)))
  F30 : FunD K "_law_trim" "_law_trim" (defArgs s__law_trim) (defBody s__law_trim) (defScope s__law_trim) [] [] (He.fAd K ("_law_trim", none)) (fd 30)
  b30 : Binds K (fd 30) ["_law_numbers"] []
  g30 : mg "_law_trim" = some (.ref (He.fAd K ("_law_trim", none)))
  F31 : FunD K "_law_rests" "_law_rests" (defArgs s__law_rests) (defBody s__law_rests) (defScope s__law_rests) [] [] (He.fAd K ("_law_rests", none)) (fd 31)
  b31 : Binds K (fd 31) ["_law_draw", "_law_many", "_law_p"] []
  g31 : mg "_law_rests" = some (.ref (He.fAd K ("_law_rests", none)))
  F32 : FunD K "_law_poly" "_law_poly" (defArgs s__law_poly) (defBody s__law_poly) (defScope s__law_poly) [] [] (He.fAd K ("_law_poly", none)) (fd 32)
  b32 : Binds K (fd 32) ["_law_draw", "_law_most", "_law_p"] []
  g32 : mg "_law_poly" = some (.ref (He.fAd K ("_law_poly", none)))
  F33 : FunD K "_law_blend" "_law_blend" (defArgs s__law_blend) (defBody s__law_blend) (defScope s__law_blend) [] [] (He.fAd K ("_law_blend", none)) (fd 33)
  b33 : Binds K (fd 33) ["_law_one", "_law_other", "_law_weight", "_law_p"] []
  g33 : mg "_law_blend" = some (.ref (He.fAd K ("_law_blend", none)))
  F34 : FunD K "_law_conv" "_law_conv" (defArgs s__law_conv) (defBody s__law_conv) (defScope s__law_conv) [] [] (He.fAd K ("_law_conv", none)) (fd 34)
  b34 : Binds K (fd 34) ["_law_one", "_law_other", "_law_p"] []
  g34 : mg "_law_conv" = some (.ref (He.fAd K ("_law_conv", none)))
  F35 : FunD K "_law_mul" "_law_mul" (defArgs s__law_mul) (defBody s__law_mul) (defScope s__law_mul) [] [] (He.fAd K ("_law_mul", none)) (fd 35)
  b35 : Binds K (fd 35) ["_law_one", "_law_other", "_law_p"] []
  g35 : mg "_law_mul" = some (.ref (He.fAd K ("_law_mul", none)))
  F36 : FunD K "_law_back" "_law_back" (defArgs s__law_back) (defBody s__law_back) (defScope s__law_back) [] [] (He.fAd K ("_law_back", none)) (fd 36)
  b36 : Binds K (fd 36) ["_law_number", "_law_p"] []
  g36 : mg "_law_back" = some (.ref (He.fAd K ("_law_back", none)))
  F37 : FunD K "_law_cut_by" "_law_cut_by" (defArgs s__law_cut_by) (defBody s__law_cut_by) (defScope s__law_cut_by) [] [] (He.fAd K ("_law_cut_by", none)) (fd 37)
  b37 : Binds K (fd 37) ["_law_one", "_law_other", "_law_p"] []
  g37 : mg "_law_cut_by" = some (.ref (He.fAd K ("_law_cut_by", none)))
  F38 : FunD K "_law_rem" "_law_rem" (defArgs s__law_rem) (defBody s__law_rem) (defScope s__law_rem) [] [] (He.fAd K ("_law_rem", none)) (fd 38)
  b38 : Binds K (fd 38) ["_law_one", "_law_other", "_law_p"] []
  g38 : mg "_law_rem" = some (.ref (He.fAd K ("_law_rem", none)))
  F39 : FunD K "_law_lift" "_law_lift" (defArgs s__law_lift) (defBody s__law_lift) (defScope s__law_lift) [] [] (He.fAd K ("_law_lift", none)) (fd 39)
  b39 : Binds K (fd 39) ["_law_one", "_law_exponent", "_law_rule", "_law_p"] []
  g39 : mg "_law_lift" = some (.ref (He.fAd K ("_law_lift", none)))
  F40 : FunD K "_law_put" "_law_put" (defArgs s__law_put) (defBody s__law_put) (defScope s__law_put) [] [] (He.fAd K ("_law_put", none)) (fd 40)
  b40 : Binds K (fd 40) ["_law_one", "_law_other", "_law_rule", "_law_p"] []
  g40 : mg "_law_put" = some (.ref (He.fAd K ("_law_put", none)))
  F41 : FunD K "_law_worth" "_law_worth" (defArgs s__law_worth) (defBody s__law_worth) (defScope s__law_worth) [] [] (He.fAd K ("_law_worth", none)) (fd 41)
  b41 : Binds K (fd 41) ["_law_one", "_law_number", "_law_p"] []
  g41 : mg "_law_worth" = some (.ref (He.fAd K ("_law_worth", none)))
  F42 : FunD K "law" "law" (defArgs s_law) (defBody s_law) (defScope s_law) [] [] (He.fAd K ("law", none)) (fd 42)
  b42 : Binds K (fd 42) ["_law_script"] []
  g42 : mg "law" = some (.ref (He.fAd K ("law", none)))
  n_abs : mg "abs" = none
  n_all : mg "all" = none
  n_bool : mg "bool" = none
  n_enumerate : mg "enumerate" = none
  n_int : mg "int" = none
  n_isinstance : mg "isinstance" = none
  n_len : mg "len" = none
  n_list : mg "list" = none
  n_max : mg "max" = none
  n_range : mg "range" = none
  n_str : mg "str" = none
  n_tuple : mg "tuple" = none
  n_zip : mg "zip" = none
  t_MOST_PLACES : ∃ t, mg "MOST_PLACES" = some (.int 25 t)
  t_PRIMES : ∃ u, mg "PRIMES" = some (.ref u) ∧ ∀ F, SqT K F u (k_PRIMES.map V.int)
  F43 : FunD K "__init__" "RungError.__init__" (defArgs i_RungError) (defBody i_RungError) (defScope i_RungError) [.str "RungError"] [] (He.fAd K ("RungError", some "__init__")) (fd 43)
  b43 : Binds K (fd 43) ["self", "word"] []
  g43 : mg "RungError" = some (.ref (He.ga K "RungError"))
  y43 : bseB K "RungError" = true
  F44 : FunD K "__init__" "BadPrime.__init__" (defArgs i_BadPrime) (defBody i_BadPrime) (defScope i_BadPrime) [] [] (He.fAd K ("BadPrime", some "__init__")) (fd 44)
  b44 : Binds K (fd 44) ["self"] []
  g44 : mg "BadPrime" = some (.ref (He.ga K "BadPrime"))
  y44 : subB K "BadPrime" [] = true
  z44 : iniB K "BadPrime" = true
  F45 : FunD K "__init__" "BadRest.__init__" (defArgs i_BadRest) (defBody i_BadRest) (defScope i_BadRest) [] [] (He.fAd K ("BadRest", some "__init__")) (fd 45)
  b45 : Binds K (fd 45) ["self"] []
  g45 : mg "BadRest" = some (.ref (He.ga K "BadRest"))
  y45 : subB K "BadRest" [] = true
  z45 : iniB K "BadRest" = true
  F46 : FunD K "__init__" "BadPoly.__init__" (defArgs i_BadPoly) (defBody i_BadPoly) (defScope i_BadPoly) [] [] (He.fAd K ("BadPoly", some "__init__")) (fd 46)
  b46 : Binds K (fd 46) ["self"] []
  g46 : mg "BadPoly" = some (.ref (He.ga K "BadPoly"))
  y46 : subB K "BadPoly" [] = true
  z46 : iniB K "BadPoly" = true
  F47 : FunD K "__init__" "BadNumber.__init__" (defArgs i_BadNumber) (defBody i_BadNumber) (defScope i_BadNumber) [] [] (He.fAd K ("BadNumber", some "__init__")) (fd 47)
  b47 : Binds K (fd 47) ["self"] []
  g47 : mg "BadNumber" = some (.ref (He.ga K "BadNumber"))
  y47 : subB K "BadNumber" [] = true
  z47 : iniB K "BadNumber" = true
  F48 : FunD K "__init__" "NoInverse.__init__" (defArgs i_NoInverse) (defBody i_NoInverse) (defScope i_NoInverse) [] [] (He.fAd K ("NoInverse", some "__init__")) (fd 48)
  b48 : Binds K (fd 48) ["self"] []
  g48 : mg "NoInverse" = some (.ref (He.ga K "NoInverse"))
  y48 : subB K "NoInverse" [] = true
  z48 : iniB K "NoInverse" = true
  w_NotWhole : mg "NotWhole" = some (.ref (He.ga K "NotWhole"))
  w_TooTall : mg "TooTall" = some (.ref (He.ga K "TooTall"))
  w_BadTable : mg "BadTable" = some (.ref (He.ga K "BadTable"))
  w_BadText : mg "BadText" = some (.ref (He.ga K "BadText"))
  w_BadPage : mg "BadPage" = some (.ref (He.ga K "BadPage"))
  w_Stopped : mg "Stopped" = some (.ref (He.ga K "Stopped"))
  w_Used : mg "Used" = some (.ref (He.ga K "Used"))
  w_Held : mg "Held" = some (.ref (He.ga K "Held"))
  w_NoGuest : mg "NoGuest" = some (.ref (He.ga K "NoGuest"))
  w_NoName : mg "NoName" = some (.ref (He.ga K "NoName"))
  w_RungError : mg "RungError" = some (.ref (He.ga K "RungError"))
  w_RungMissing : mg "RungMissing" = some (.ref (He.ga K "RungMissing"))
  wk : (kn.all fun c => whyB K c) = true
  un : tabsUn K = true
  tb_law : LamX.TabB base mg (He.cT K ("law", none)).1 (He.cT K ("law", none)).2
section
variable {P : Program} {w : World} {K : PySem.W.Frag} {mg : Str → Option Value} {base : Heap} {fd : Nat → FuncData}
theorem ini_RungError (T : Tx K mg base fd) : FnOk P w K mg base (L2.CX P w) 1 (He.fAd K ("RungError", some "__init__")) (fd 43) ["self", "word"] (spIni0 K) :=
  ini0_ok T.F43 sc_i_RungError fun cdv A outer s H E => pss_one (ps_ost (pe_var (i := 0) rfl (Or.inl rfl) (by decide) (by decide)) (pe_var (i := 1) rfl (Or.inl rfl) (by decide) (by decide)))
theorem xc_BadPrime (T : Tx K mg base fd) : XcOk P w K mg base 2 "BadPrime" [] :=
  xc_of T.g44 (subB_ok T.y44) T.z44 (ini_ok0 T.F44 sc_i_BadPrime (subB_ok T.y44) fun cdv A outer s H E hr => (pss_one (ps_expr (pe_bini (bseB_ok T.y43).1 (bseB_ok T.y43).2 (ini_RungError T) hr T.b43 T.F43.kp (passesF takes0) (by rfl) T.g43 (pa_cons (pe_var (i := 0) rfl (Or.inl rfl) (by decide) (by decide)) (pa_cons pe_str pa_nil)))))) T.b44
theorem xc_BadRest (T : Tx K mg base fd) : XcOk P w K mg base 2 "BadRest" [] :=
  xc_of T.g45 (subB_ok T.y45) T.z45 (ini_ok0 T.F45 sc_i_BadRest (subB_ok T.y45) fun cdv A outer s H E hr => (pss_one (ps_expr (pe_bini (bseB_ok T.y43).1 (bseB_ok T.y43).2 (ini_RungError T) hr T.b43 T.F43.kp (passesF takes0) (by rfl) T.g43 (pa_cons (pe_var (i := 0) rfl (Or.inl rfl) (by decide) (by decide)) (pa_cons pe_str pa_nil)))))) T.b45
theorem xc_BadPoly (T : Tx K mg base fd) : XcOk P w K mg base 2 "BadPoly" [] :=
  xc_of T.g46 (subB_ok T.y46) T.z46 (ini_ok0 T.F46 sc_i_BadPoly (subB_ok T.y46) fun cdv A outer s H E hr => (pss_one (ps_expr (pe_bini (bseB_ok T.y43).1 (bseB_ok T.y43).2 (ini_RungError T) hr T.b43 T.F43.kp (passesF takes0) (by rfl) T.g43 (pa_cons (pe_var (i := 0) rfl (Or.inl rfl) (by decide) (by decide)) (pa_cons pe_str pa_nil)))))) T.b46
theorem xc_BadNumber (T : Tx K mg base fd) : XcOk P w K mg base 2 "BadNumber" [] :=
  xc_of T.g47 (subB_ok T.y47) T.z47 (ini_ok0 T.F47 sc_i_BadNumber (subB_ok T.y47) fun cdv A outer s H E hr => (pss_one (ps_expr (pe_bini (bseB_ok T.y43).1 (bseB_ok T.y43).2 (ini_RungError T) hr T.b43 T.F43.kp (passesF takes0) (by rfl) T.g43 (pa_cons (pe_var (i := 0) rfl (Or.inl rfl) (by decide) (by decide)) (pa_cons pe_str pa_nil)))))) T.b47
theorem xc_NoInverse (T : Tx K mg base fd) : XcOk P w K mg base 2 "NoInverse" [] :=
  xc_of T.g48 (subB_ok T.y48) T.z48 (ini_ok0 T.F48 sc_i_NoInverse (subB_ok T.y48) fun cdv A outer s H E hr => (pss_one (ps_expr (pe_bini (bseB_ok T.y43).1 (bseB_ok T.y43).2 (ini_RungError T) hr T.b43 T.F43.kp (passesF takes0) (by rfl) T.g43 (pa_cons (pe_var (i := 0) rfl (Or.inl rfl) (by decide) (by decide)) (pa_cons pe_str pa_nil)))))) T.b48
theorem kn_ok (T : Tx K mg base fd) : WhyK K mg kn := whyB_ok (fun c hc => by
  simp only [kn, List.mem_cons, List.not_mem_nil, or_false] at hc
  rcases hc with rfl | rfl | rfl | rfl | rfl
  · exact T.g44
  · exact T.g45
  · exact T.g46
  · exact T.g47
  · exact T.g48
  ) T.wk
theorem why_names (T : Tx K mg base fd) : ∀ ns ∈ whyNs, ∀ x ∈ ns, (defScope s__law_why).names.lookup x = some .globalImplicit ∧ (x == ("__debug__" : Str)) = false ∧ mg x = some (.ref (He.ga K x)) := by
  intro ns h1 x h2
  simp only [whyNs, List.mem_cons, List.not_mem_nil, or_false] at h1
  rcases h1 with rfl | rfl | rfl | rfl | rfl | rfl | rfl | rfl <;> simp only [List.mem_cons, List.not_mem_nil, or_false] at h2
  · subst h2; exact ⟨by decide +kernel, by decide, T.w_NotWhole⟩
  · subst h2; exact ⟨by decide +kernel, by decide, T.w_TooTall⟩
  · rcases h2 with rfl | rfl
    · exact ⟨by decide +kernel, by decide, T.w_BadTable⟩
    · exact ⟨by decide +kernel, by decide, T.w_BadText⟩
  · subst h2; exact ⟨by decide +kernel, by decide, T.w_BadPage⟩
  · subst h2; exact ⟨by decide +kernel, by decide, T.w_Stopped⟩
  · rcases h2 with rfl | rfl
    · exact ⟨by decide +kernel, by decide, T.w_Used⟩
    · exact ⟨by decide +kernel, by decide, T.w_Held⟩
  · rcases h2 with rfl | rfl
    · exact ⟨by decide +kernel, by decide, T.w_NoGuest⟩
    · exact ⟨by decide +kernel, by decide, T.w_NoName⟩
  · rcases h2 with rfl | rfl
    · exact ⟨by decide +kernel, by decide, T.w_RungError⟩
    · exact ⟨by decide +kernel, by decide, T.w_RungMissing⟩
theorem why_ok (T : Tx K mg base fd) {k : Nat} : Gives P w K mg base k 2 (He.fAd K ("_law_why", none)) (TWhy K) :=
  why_gives T.F25 sc__law_why T.b25 (fun Z hN hst hfr hva hne hnm tl hask => why_try hN hst hfr hne tl (fun W pn xe E tk hW => pss_one (ps_ret (pe_tup (pa_cons pe_str (pa_cons (hask W pn xe E _ _ tk hW) pa_nil)))))
      (.cons (tst_name (hn_of hnm "NotWhole" ["NotWhole"] (by simp [whyNs]) (by simp))) (fun a oe cls d pn hz hf => pss_one (ps_ret (pe_tup (pa_cons (pe_fld hz hf (pe_var (i := 1) (by show Z.N[1]? = _; rw [hN]; rfl) (Or.inl hne) (by decide) (by decide))) (pa_cons (pe_fld hz hf (pe_var (i := 1) (by show Z.N[1]? = _; rw [hN]; rfl) (Or.inl hne) (by decide) (by decide))) pa_nil)))))
      (.cons (tst_name (hn_of hnm "TooTall" ["TooTall"] (by simp [whyNs]) (by simp))) (fun a oe cls d pn hz hf => pss_one (ps_ret (pe_tup (pa_cons (pe_fld hz hf (pe_var (i := 1) (by show Z.N[1]? = _; rw [hN]; rfl) (Or.inl hne) (by decide) (by decide))) (pa_cons (pe_fld hz hf (pe_var (i := 1) (by show Z.N[1]? = _; rw [hN]; rfl) (Or.inl hne) (by decide) (by decide))) pa_nil)))))
      (.cons (tst_two (hn_of hnm "BadTable" ["BadTable", "BadText"] (by simp [whyNs]) (by simp)) (hn_of hnm "BadText" ["BadTable", "BadText"] (by simp [whyNs]) (by simp))) (fun a oe cls d pn hz hf => pss_one (ps_ret (pe_tup (pa_cons (pe_fld hz hf (pe_var (i := 1) (by show Z.N[1]? = _; rw [hN]; rfl) (Or.inl hne) (by decide) (by decide))) (pa_cons (pe_fld hz hf (pe_var (i := 1) (by show Z.N[1]? = _; rw [hN]; rfl) (Or.inl hne) (by decide) (by decide))) pa_nil)))))
      (.cons (tst_name (hn_of hnm "BadPage" ["BadPage"] (by simp [whyNs]) (by simp))) (fun a oe cls d pn hz hf => pss_one (ps_ret (pe_tup (pa_cons (pe_fld hz hf (pe_var (i := 1) (by show Z.N[1]? = _; rw [hN]; rfl) (Or.inl hne) (by decide) (by decide))) (pa_cons (pe_fld hz hf (pe_var (i := 1) (by show Z.N[1]? = _; rw [hN]; rfl) (Or.inl hne) (by decide) (by decide))) pa_nil)))))
      (.cons (tst_name (hn_of hnm "Stopped" ["Stopped"] (by simp [whyNs]) (by simp))) (fun a oe cls d pn hz hf => pss_one (ps_ret (pe_tup (pa_cons (pe_fld hz hf (pe_var (i := 1) (by show Z.N[1]? = _; rw [hN]; rfl) (Or.inl hne) (by decide) (by decide))) (pa_cons (pe_tup (pa_cons (pe_fld hz hf (pe_var (i := 1) (by show Z.N[1]? = _; rw [hN]; rfl) (Or.inl hne) (by decide) (by decide))) (pa_cons (pe_fld hz hf (pe_var (i := 1) (by show Z.N[1]? = _; rw [hN]; rfl) (Or.inl hne) (by decide) (by decide))) pa_nil))) pa_nil)))))
      (.cons (tst_two (hn_of hnm "Used" ["Used", "Held"] (by simp [whyNs]) (by simp)) (hn_of hnm "Held" ["Used", "Held"] (by simp [whyNs]) (by simp))) (fun a oe cls d pn hz hf => pss_one (ps_ret (pe_tup (pa_cons (pe_fld hz hf (pe_var (i := 1) (by show Z.N[1]? = _; rw [hN]; rfl) (Or.inl hne) (by decide) (by decide))) (pa_cons (pe_fld hz hf (pe_var (i := 1) (by show Z.N[1]? = _; rw [hN]; rfl) (Or.inl hne) (by decide) (by decide))) pa_nil)))))
      (.cons (tst_two (hn_of hnm "NoGuest" ["NoGuest", "NoName"] (by simp [whyNs]) (by simp)) (hn_of hnm "NoName" ["NoGuest", "NoName"] (by simp [whyNs]) (by simp))) (fun a oe cls d pn hz hf => pss_one (ps_ret (pe_tup (pa_cons (pe_fld hz hf (pe_var (i := 1) (by show Z.N[1]? = _; rw [hN]; rfl) (Or.inl hne) (by decide) (by decide))) (pa_cons (pe_fld hz hf (pe_var (i := 1) (by show Z.N[1]? = _; rw [hN]; rfl) (Or.inl hne) (by decide) (by decide))) pa_nil)))))
      (.cons (tst_two (hn_of hnm "RungError" ["RungError", "RungMissing"] (by simp [whyNs]) (by simp)) (hn_of hnm "RungMissing" ["RungError", "RungMissing"] (by simp [whyNs]) (by simp))) (fun a oe cls d pn hz hf => pss_one (ps_ret (pe_tup (pa_cons (pe_fld hz hf (pe_var (i := 1) (by show Z.N[1]? = _; rw [hN]; rfl) (Or.inl hne) (by decide) (by decide))) (pa_cons pe_non pa_nil)))))
      Hds.nil))))))))) (Or.inl rfl) rfl (why_names T)
theorem word_ok (T : Tx K mg base fd) {k : Nat} : Gives P w K mg base k 3 (He.fAd K ("_law_word", none)) (TWord K) :=
  word_gives (why_ok T) T.F26 sc__law_word T.b26 (fun Z g h1 h2 h3 t h4 => pss_one (ps_ret (pe_ix ix_seq (h4 _ _ _) pe_int fun _ _ => rfl))) (Or.inl rfl) rfl T.g25 T.F25.kp
theorem ok_is_prime (T : Tx K mg base fd) : FnOk P w K mg base (L2.CX P w) 1 (He.fAd K ("is_prime", none)) (fd 0) ["number"] (spP K mg 1 M_is_prime) := by
  obtain ⟨u_PRIMES, c_PRIMES, d_PRIMES⟩ := T.t_PRIMES
  refine fn_PD T.F0 sc_is_prime rfl rfl fun cdv A outer s H E hr tk => ?_
  have nd := sc_is_prime.nd
  exact (ss_one (ss_ret (sx_cmp os_in (sx_name 0) (sx_globT (ns := k_PRIMES) (by rfl) c_PRIMES d_PRIMES) rfl)))
theorem ok_need_prime (T : Tx K mg base fd) : FnOk P w K mg base (L2.CX P w) 4 (He.fAd K ("need_prime", none)) (fd 1) ["prime"] (spP K mg 1 M_need_prime) := by
  refine fn_PD T.F1 sc_need_prime rfl rfl fun cdv A outer s H E hr tk => ?_
  have nd := sc_need_prime.nd
  exact (ss_one (ss_if (st_not (st_val (sx_call (ok_is_prime T) fin_len (hr.mono (by decide)) T.g0 T.F0.kp T.b0 tk (sa_cons (sx_name 0) sa_nil)))) (ss_one (ss_raise0 rfl tk (xc_BadPrime T) (hr.mono (by decide)) (by rfl))) ss_nil))
theorem ok_is_rest (T : Tx K mg base fd) : FnOk P w K mg base (L2.CX P w) 1 (He.fAd K ("is_rest", none)) (fd 2) ["number", "prime"] (spP K mg 2 M_is_rest) := by
  refine fn_PD T.F2 sc_is_rest rfl rfl fun cdv A outer s H E hr tk => ?_
  have nd := sc_is_rest.nd
  exact (ss_one (ss_ret (sx_chain op_le op_lt sx_int (sx_name 0) (sx_name 1))))
theorem ok_raised (T : Tx K mg base fd) : FnOk P w K mg base (L2.CX P w) 1 (He.fAd K ("raised", none)) (fd 3) ["number", "exponent", "prime"] (spP K mg 3 M_raised) := by
  refine fn_PD T.F3 sc_raised rfl rfl fun cdv A outer s H E hr tk => ?_
  have nd := sc_raised.nd
  exact (ss_cons (ss_set 3 nd sx_int)
      (ss_cons (ss_set 4 nd (sx_name 0))
      (ss_cons (ss_while FUEL (passes_of rfl) (st_cmp os_gt (sx_name 1) sx_int (nomark _)) (ss_cons (ss_if (st_cmp (os_eq hr.units) (sx_bin os_mod (sx_name 1) sx_int) sx_int (nomark _)) (ss_one (ss_set 3 nd (sx_bin os_mod (sx_bin os_mul (sx_name 3) (sx_name 4)) (sx_name 2)))) ss_nil)
      (ss_cons (ss_set 4 nd (sx_bin os_mod (sx_bin os_mul (sx_name 4) (sx_name 4)) (sx_name 2)))
      (ss_one (ss_aug 1 nd is_div sx_int)))))
      (ss_one (ss_ret (sx_name 3))))))
theorem ok_turned_over (T : Tx K mg base fd) : FnOk P w K mg base (L2.CX P w) 2 (He.fAd K ("turned_over", none)) (fd 4) ["number", "prime"] (spP K mg 2 M_turned_over) := by
  refine fn_PD T.F4 sc_turned_over rfl rfl fun cdv A outer s H E hr tk => ?_
  have nd := sc_turned_over.nd
  exact (ss_one (ss_ret (sx_call (ok_raised T) fin_len (hr.mono (by decide)) T.g3 T.F3.kp T.b3 tk (sa_cons (sx_name 0) (sa_cons (sx_bin os_sub (sx_name 1) sx_int) (sa_cons (sx_name 1) sa_nil))))))
theorem ok_is_poly (T : Tx K mg base fd) : FnOk P w K mg base (L2.CX P w) 2 (He.fAd K ("is_poly", none)) (fd 5) ["thing", "prime"] (spP K mg 2 M_is_poly) := by
  obtain ⟨t_MOST_PLACES, c_MOST_PLACES⟩ := T.t_MOST_PLACES
  refine fn_PD T.F5 sc_is_poly rfl rfl fun cdv A outer s H E hr tk => ?_
  have nd := sc_is_poly.nd
  exact (ss_cons (ss_if (SW.t (sw_or (st_cmp os_gt (sx_callB cs_len (by rfl) T.n_len bt_len (sa_cons (sx_name 0) sa_nil)) (sx_globI (by rfl) c_MOST_PLACES) (nomark _)) (sw_or1 (st_not (st_val (sx_callB (cs_all rfl) (by rfl) T.n_all bt_all (sa_cons (sx_lc0 [("part", 2)] rfl nd (si_seq (sx_name 0)) (blkOk_by (own := [("part", 2)]) (N := N_is_poly) (sc := defScope s_is_poly) (by decide +kernel)) (by decide) (fun _ _ _ _ _ => (sg_name 2 nd)) (fun _ _ _ _ _ => (sx_call (ok_is_rest T) fin_len (hr.mono (by decide)) T.g2 T.F2.kp T.b2 takes0 (sa_cons (sx_name 2) (sa_cons (sx_name 1) sa_nil))))) sa_nil))))))) (ss_one (ss_ret sx_bl)) ss_nil)
      (ss_one (ss_ret (sx_or (sx_cmp (os_eq hr.units) (sx_name 0) (sx_tup sa_nil) (nomark _)) (sx_one (sx_cmp (os_ne hr.units) (sx_ix (sx_name 0) (sx_neg sx_int)) sx_int (nomark _)))))))
theorem ok_need_polys (T : Tx K mg base fd) : FnOk P w K mg base (L2.CX P w) 5 (He.fAd K ("need_polys", none)) (fd 6) ["some", "prime"] (spP K mg 2 M_need_polys) := by
  refine fn_PD T.F6 sc_need_polys rfl rfl fun cdv A outer s H E hr tk => ?_
  have nd := sc_need_polys.nd
  exact (ss_cons (ss_expr (sx_call (ok_need_prime T) fin_len (hr.mono (by decide)) T.g1 T.F1.kp T.b1 tk (sa_cons (sx_name 1) sa_nil)))
      (ss_one (ss_if (st_not (st_val (sx_callB (cs_all rfl) (by rfl) T.n_all bt_all (sa_cons (sx_lc0 [("one", 2)] rfl nd (si_seq (sx_name 0)) (blkOk_by (own := [("one", 2)]) (N := N_need_polys) (sc := defScope s_need_polys) (by decide +kernel)) (by decide) (fun _ _ _ _ _ => (sg_name 2 nd)) (fun _ _ _ _ _ => (sx_call (ok_is_poly T) fin_len (hr.mono (by decide)) T.g5 T.F5.kp T.b5 takes0 (sa_cons (sx_name 2) (sa_cons (sx_name 1) sa_nil))))) sa_nil)))) (ss_one (ss_raise0 rfl tk (xc_BadPoly T) (hr.mono (by decide)) (by rfl))) ss_nil)))
theorem ok_cut (T : Tx K mg base fd) : FnOk P w K mg base (L2.CX P w) 1 (He.fAd K ("cut", none)) (fd 7) ["numbers"] (spP K mg 1 M_cut) := by
  refine fn_PD T.F7 sc_cut rfl rfl fun cdv A outer s H E hr tk => ?_
  have nd := sc_cut.nd
  exact (ss_cons (ss_set 1 nd (sx_callB cs_len (by rfl) T.n_len bt_len (sa_cons (sx_name 0) sa_nil)))
      (ss_cons (ss_while FUEL (passes_of rfl) (SW.t (sw_and (st_cmp os_gt (sx_name 1) sx_int (nomark _)) (sw_and1 (st_cmp (os_eq hr.units) (sx_ix (sx_name 0) (sx_bin os_sub (sx_name 1) sx_int)) sx_int (nomark _))))) (ss_one (ss_aug 1 nd is_sub sx_int)))
      (ss_one (ss_ret (sx_callTy cs_tuple (by rfl) T.n_tuple bt_tuple (sa_cons (sx_slH (sx_name 0) (sx_name 1)) sa_nil))))))
theorem ok_widened (T : Tx K mg base fd) : FnOk P w K mg base (L2.CX P w) 1 (He.fAd K ("widened", none)) (fd 8) ["one", "many"] (spP K mg 2 M_widened) := by
  refine fn_PD T.F8 sc_widened rfl rfl fun cdv A outer s H E hr tk => ?_
  have nd := sc_widened.nd
  exact (ss_one (ss_ret (sx_bin os_add (sx_callTy cs_list (by rfl) T.n_list bt_list (sa_cons (sx_name 0) sa_nil)) (sx_bin os_mul (sx_lst (sa_cons sx_int sa_nil)) (sx_bin os_sub (sx_name 1) (sx_callB cs_len (by rfl) T.n_len bt_len (sa_cons (sx_name 0) sa_nil)))))))
theorem ok_blended (T : Tx K mg base fd) : FnOk P w K mg base (L2.CX P w) 2 (He.fAd K ("blended", none)) (fd 9) ["one", "other", "weight", "prime"] (spP K mg 4 M_blended) := by
  refine fn_PD T.F9 sc_blended rfl rfl fun cdv A outer s H E hr tk => ?_
  have nd := sc_blended.nd
  exact (ss_cons (ss_set 4 nd (sx_callB (cs_max rfl) (by rfl) T.n_max bt_max (sa_cons (sx_callB cs_len (by rfl) T.n_len bt_len (sa_cons (sx_name 0) sa_nil)) (sa_cons (sx_callB cs_len (by rfl) T.n_len bt_len (sa_cons (sx_name 1) sa_nil)) sa_nil))))
      (ss_one (ss_ret (sx_call (ok_cut T) fin_len (hr.mono (by decide)) T.g7 T.F7.kp T.b7 tk (sa_cons (sx_lc0 [("a", 5), ("b", 6)] rfl nd (si_za (by rfl) T.n_zip (sa_cons (sx_call (ok_widened T) fin_len (hr.mono (by decide)) T.g8 T.F8.kp T.b8 tk (sa_cons (sx_name 0) (sa_cons (sx_name 4) sa_nil))) (sa_cons (sx_call (ok_widened T) fin_len (hr.mono (by decide)) T.g8 T.F8.kp T.b8 tk (sa_cons (sx_name 1) (sa_cons (sx_name 4) sa_nil))) sa_nil))) (blkOk_by (own := [("a", 5), ("b", 6)]) (N := N_blended) (sc := defScope s_blended) (by decide +kernel)) (by decide) (fun _ _ _ _ _ => (sg_tup rfl (sgs_cons (sg_name 5 nd) (sgs_cons (sg_name 6 nd) sgs_nil)))) (fun _ _ _ _ _ => (sx_bin os_mod (sx_bin os_add (sx_name 5) (sx_bin os_mul (sx_name 2) (sx_name 6))) (sx_name 3)))) sa_nil)))))
theorem ok_multiplied (T : Tx K mg base fd) : FnOk P w K mg base (L2.CX P w) 2 (He.fAd K ("multiplied", none)) (fd 10) ["one", "other", "prime"] (spP K mg 3 M_multiplied) := by
  refine fn_PD T.F10 sc_multiplied rfl rfl fun cdv A outer s H E hr tk => ?_
  have nd := sc_multiplied.nd
  exact (ss_cons (ss_if (SW.t (sw_or (st_cmp (os_eq hr.units) (sx_name 0) (sx_tup sa_nil) (nomark _)) (sw_or1 (st_cmp (os_eq hr.units) (sx_name 1) (sx_tup sa_nil) (nomark _))))) (ss_one (ss_ret (sx_tup sa_nil))) ss_nil)
      (ss_cons (ss_set 3 nd (sx_bin os_mul (sx_lst (sa_cons sx_int sa_nil)) (sx_bin os_sub (sx_bin os_add (sx_callB cs_len (by rfl) T.n_len bt_len (sa_cons (sx_name 0) sa_nil)) (sx_callB cs_len (by rfl) T.n_len bt_len (sa_cons (sx_name 1) sa_nil))) sx_int)))
      (ss_cons (ss_for (passes_of rfl) rfl (si_en (by rfl) T.n_enumerate (sa_cons (sx_name 0) sa_nil)) (sg_tup rfl (sgs_cons (sg_name 4 nd) (sgs_cons (sg_name 5 nd) sgs_nil))) (ss_one (ss_if (st_cmp (os_ne hr.units) (sx_name 5) sx_int (nomark _)) (ss_one (ss_for (passes_of rfl) rfl (si_en (by rfl) T.n_enumerate (sa_cons (sx_name 1) sa_nil)) (sg_tup rfl (sgs_cons (sg_name 6 nd) (sgs_cons (sg_name 7 nd) sgs_nil))) (ss_one (ss_augIx 3 is_add (sx_bin os_add (sx_name 4) (sx_name 6)) (sx_bin os_mul (sx_name 5) (sx_name 7)))))) ss_nil)))
      (ss_one (ss_ret (sx_call (ok_cut T) fin_len (hr.mono (by decide)) T.g7 T.F7.kp T.b7 tk (sa_cons (sx_lc0 [("number", 8)] rfl nd (si_seq (sx_name 3)) (blkOk_by (own := [("number", 8)]) (N := N_multiplied) (sc := defScope s_multiplied) (by decide +kernel)) (by decide) (fun _ _ _ _ _ => (sg_name 8 nd)) (fun _ _ _ _ _ => (sx_bin os_mod (sx_name 8) (sx_name 2)))) sa_nil)))))))
theorem ok_divided (T : Tx K mg base fd) : FnOk P w K mg base (L2.CX P w) 3 (He.fAd K ("divided", none)) (fd 11) ["one", "other", "prime"] (spP K mg 3 M_divided) := by
  refine fn_PD T.F11 sc_divided rfl rfl fun cdv A outer s H E hr tk => ?_
  have nd := sc_divided.nd
  exact (ss_cons (ss_set 3 nd (sx_callTy cs_list (by rfl) T.n_list bt_list (sa_cons (sx_name 0) sa_nil)))
      (ss_cons (ss_set 4 nd (sx_callB cs_len (by rfl) T.n_len bt_len (sa_cons (sx_name 1) sa_nil)))
      (ss_cons (ss_set 5 nd (sx_call (ok_turned_over T) fin_len (hr.mono (by decide)) T.g4 T.F4.kp T.b4 tk (sa_cons (sx_ix (sx_name 1) (sx_neg sx_int)) (sa_cons (sx_name 2) sa_nil))))
      (ss_cons (ss_set 6 nd (sx_bin os_mul (sx_lst (sa_cons sx_int sa_nil)) (sx_callB (cs_max rfl) (by rfl) T.n_max bt_max (sa_cons sx_int (sa_cons (sx_bin os_add (sx_bin os_sub (sx_callB cs_len (by rfl) T.n_len bt_len (sa_cons (sx_name 0) sa_nil)) (sx_name 4)) sx_int) sa_nil)))))
      (ss_cons (ss_for (passes_of rfl) rfl (si_r3 (by rfl) T.n_range (sa_cons (sx_bin os_sub (sx_callB cs_len (by rfl) T.n_len bt_len (sa_cons (sx_name 0) sa_nil)) (sx_name 4)) (sa_cons (sx_neg sx_int) (sa_cons (sx_neg sx_int) sa_nil)))) (sg_name 7 nd) (ss_cons (ss_set 8 nd (sx_bin os_mod (sx_bin os_mul (sx_ix (sx_name 3) (sx_bin os_sub (sx_bin os_add (sx_name 7) (sx_name 4)) sx_int)) (sx_name 5)) (sx_name 2)))
      (ss_cons (ss_setIx 6 (sx_name 8) (sx_name 7))
      (ss_one (ss_if (st_cmp (os_ne hr.units) (sx_name 8) sx_int (nomark _)) (ss_one (ss_for (passes_of rfl) rfl (si_en (by rfl) T.n_enumerate (sa_cons (sx_name 1) sa_nil)) (sg_tup rfl (sgs_cons (sg_name 9 nd) (sgs_cons (sg_name 10 nd) sgs_nil))) (ss_one (ss_setIx 3 (sx_bin os_mod (sx_bin os_sub (sx_ix (sx_name 3) (sx_bin os_add (sx_name 7) (sx_name 9))) (sx_bin os_mul (sx_name 8) (sx_name 10))) (sx_name 2)) (sx_bin os_add (sx_name 7) (sx_name 9)))))) ss_nil)))))
      (ss_one (ss_ret (sx_tup (sa_cons (sx_call (ok_cut T) fin_len (hr.mono (by decide)) T.g7 T.F7.kp T.b7 tk (sa_cons (sx_name 6) sa_nil)) (sa_cons (sx_call (ok_cut T) fin_len (hr.mono (by decide)) T.g7 T.F7.kp T.b7 tk (sa_cons (sx_slH (sx_name 3) (sx_bin os_sub (sx_name 4) sx_int)) sa_nil)) sa_nil))))))))))
theorem ok_left_by (T : Tx K mg base fd) : FnOk P w K mg base (L2.CX P w) 4 (He.fAd K ("left_by", none)) (fd 12) ["one", "rule", "prime"] (spP K mg 3 M_left_by) := by
  refine fn_PD T.F12 sc_left_by rfl rfl fun cdv A outer s H E hr tk => ?_
  have nd := sc_left_by.nd
  exact (ss_one (ss_ret (sx_ix (sx_call (ok_divided T) fin_len (hr.mono (by decide)) T.g11 T.F11.kp T.b11 tk (sa_cons (sx_name 0) (sa_cons (sx_name 1) (sa_cons (sx_name 2) sa_nil)))) sx_int)))
theorem ok_left_raised (T : Tx K mg base fd) : FnOk P w K mg base (L2.CX P w) 5 (He.fAd K ("left_raised", none)) (fd 13) ["one", "exponent", "rule", "prime"] (spP K mg 4 M_left_raised) := by
  refine fn_PD T.F13 sc_left_raised rfl rfl fun cdv A outer s H E hr tk => ?_
  have nd := sc_left_raised.nd
  exact (ss_cons (ss_set 4 nd (sx_call (ok_left_by T) fin_len (hr.mono (by decide)) T.g12 T.F12.kp T.b12 tk (sa_cons (sx_tup (sa_cons sx_int sa_nil)) (sa_cons (sx_name 2) (sa_cons (sx_name 3) sa_nil)))))
      (ss_cons (ss_set 5 nd (sx_call (ok_left_by T) fin_len (hr.mono (by decide)) T.g12 T.F12.kp T.b12 tk (sa_cons (sx_name 0) (sa_cons (sx_name 2) (sa_cons (sx_name 3) sa_nil)))))
      (ss_cons (ss_while FUEL (passes_of rfl) (st_cmp os_gt (sx_name 1) sx_int (nomark _)) (ss_cons (ss_if (st_cmp (os_eq hr.units) (sx_bin os_mod (sx_name 1) sx_int) sx_int (nomark _)) (ss_one (ss_set 4 nd (sx_call (ok_left_by T) fin_len (hr.mono (by decide)) T.g12 T.F12.kp T.b12 tk (sa_cons (sx_call (ok_multiplied T) fin_len (hr.mono (by decide)) T.g10 T.F10.kp T.b10 tk (sa_cons (sx_name 4) (sa_cons (sx_name 5) (sa_cons (sx_name 3) sa_nil)))) (sa_cons (sx_name 2) (sa_cons (sx_name 3) sa_nil)))))) ss_nil)
      (ss_cons (ss_set 5 nd (sx_call (ok_left_by T) fin_len (hr.mono (by decide)) T.g12 T.F12.kp T.b12 tk (sa_cons (sx_call (ok_multiplied T) fin_len (hr.mono (by decide)) T.g10 T.F10.kp T.b10 tk (sa_cons (sx_name 5) (sa_cons (sx_name 5) (sa_cons (sx_name 3) sa_nil)))) (sa_cons (sx_name 2) (sa_cons (sx_name 3) sa_nil)))))
      (ss_one (ss_aug 1 nd is_div sx_int)))))
      (ss_one (ss_ret (sx_name 4))))))
theorem ok_put_through (T : Tx K mg base fd) : FnOk P w K mg base (L2.CX P w) 5 (He.fAd K ("put_through", none)) (fd 14) ["one", "other", "rule", "prime"] (spP K mg 4 M_put_through) := by
  refine fn_PD T.F14 sc_put_through rfl rfl fun cdv A outer s H E hr tk => ?_
  have nd := sc_put_through.nd
  exact (ss_cons (ss_set 4 nd (sx_tup sa_nil))
      (ss_cons (ss_for (passes_of rfl) rfl (si_seq (sx_rev (sx_name 0))) (sg_name 5 nd) (ss_one (ss_set 4 nd (sx_call (ok_left_by T) fin_len (hr.mono (by decide)) T.g12 T.F12.kp T.b12 tk (sa_cons (sx_call (ok_blended T) fin_len (hr.mono (by decide)) T.g9 T.F9.kp T.b9 tk (sa_cons (sx_call (ok_multiplied T) fin_len (hr.mono (by decide)) T.g10 T.F10.kp T.b10 tk (sa_cons (sx_name 4) (sa_cons (sx_name 1) (sa_cons (sx_name 3) sa_nil)))) (sa_cons (sx_call (ok_cut T) fin_len (hr.mono (by decide)) T.g7 T.F7.kp T.b7 tk (sa_cons (sx_lst (sa_cons (sx_name 5) sa_nil)) sa_nil)) (sa_cons sx_int (sa_cons (sx_name 3) sa_nil))))) (sa_cons (sx_name 2) (sa_cons (sx_name 3) sa_nil)))))))
      (ss_one (ss_ret (sx_name 4)))))
theorem ok_worth_at (T : Tx K mg base fd) : FnOk P w K mg base (L2.CX P w) 1 (He.fAd K ("worth_at", none)) (fd 15) ["one", "number", "prime"] (spP K mg 3 M_worth_at) := by
  refine fn_PD T.F15 sc_worth_at rfl rfl fun cdv A outer s H E hr tk => ?_
  have nd := sc_worth_at.nd
  exact (ss_cons (ss_set 3 nd sx_int)
      (ss_cons (ss_for (passes_of rfl) rfl (si_seq (sx_rev (sx_name 0))) (sg_name 4 nd) (ss_one (ss_set 3 nd (sx_bin os_mod (sx_bin os_add (sx_bin os_mul (sx_name 3) (sx_name 1)) (sx_name 4)) (sx_name 2)))))
      (ss_one (ss_ret (sx_name 3)))))
theorem ok_sloped (T : Tx K mg base fd) : FnOk P w K mg base (L2.CX P w) 2 (He.fAd K ("sloped", none)) (fd 16) ["one", "prime"] (spP K mg 2 M_sloped) := by
  refine fn_PD T.F16 sc_sloped rfl rfl fun cdv A outer s H E hr tk => ?_
  have nd := sc_sloped.nd
  exact (ss_one (ss_ret (sx_call (ok_cut T) fin_len (hr.mono (by decide)) T.g7 T.F7.kp T.b7 tk (sa_cons (sx_slL (sx_lc0 [("at", 2), ("part", 3)] rfl nd (si_en (by rfl) T.n_enumerate (sa_cons (sx_name 0) sa_nil)) (blkOk_by (own := [("at", 2), ("part", 3)]) (N := N_sloped) (sc := defScope s_sloped) (by decide +kernel)) (by decide) (fun _ _ _ _ _ => (sg_tup rfl (sgs_cons (sg_name 2 nd) (sgs_cons (sg_name 3 nd) sgs_nil)))) (fun _ _ _ _ _ => (sx_bin os_mod (sx_bin os_mul (sx_name 2) (sx_name 3)) (sx_name 1)))) sx_int) sa_nil))))
theorem ok_poly_value (T : Tx K mg base fd) : FnOk P w K mg base (L2.CX P w) 6 (He.fAd K ("poly_value", none)) (fd 17) ["one", "number", "prime"] (spP K mg 3 M_poly_value) := by
  refine fn_PD T.F17 sc_poly_value rfl rfl fun cdv A outer s H E hr tk => ?_
  have nd := sc_poly_value.nd
  exact (ss_cons (ss_expr (sx_call (ok_need_polys T) fin_len (hr.mono (by decide)) T.g6 T.F6.kp T.b6 tk (sa_cons (sx_tup (sa_cons (sx_name 0) sa_nil)) (sa_cons (sx_name 2) sa_nil))))
      (ss_cons (ss_if (st_not (st_val (sx_call (ok_is_rest T) fin_len (hr.mono (by decide)) T.g2 T.F2.kp T.b2 tk (sa_cons (sx_name 1) (sa_cons (sx_name 2) sa_nil))))) (ss_one (ss_raise0 rfl tk (xc_BadRest T) (hr.mono (by decide)) (by rfl))) ss_nil)
      (ss_one (ss_ret (sx_call (ok_worth_at T) fin_len (hr.mono (by decide)) T.g15 T.F15.kp T.b15 tk (sa_cons (sx_name 0) (sa_cons (sx_name 1) (sa_cons (sx_name 2) sa_nil))))))))
theorem ok_poly_put (T : Tx K mg base fd) : FnOk P w K mg base (L2.CX P w) 6 (He.fAd K ("poly_put", none)) (fd 18) ["one", "other", "rule", "prime"] (spP K mg 4 M_poly_put) := by
  refine fn_PD T.F18 sc_poly_put rfl rfl fun cdv A outer s H E hr tk => ?_
  have nd := sc_poly_put.nd
  exact (ss_cons (ss_expr (sx_call (ok_need_polys T) fin_len (hr.mono (by decide)) T.g6 T.F6.kp T.b6 tk (sa_cons (sx_tup (sa_cons (sx_name 0) (sa_cons (sx_name 1) (sa_cons (sx_name 2) sa_nil)))) (sa_cons (sx_name 3) sa_nil))))
      (ss_cons (ss_if (st_cmp (os_eq hr.units) (sx_name 2) (sx_tup sa_nil) (nomark _)) (ss_one (ss_raise0 rfl tk (xc_NoInverse T) (hr.mono (by decide)) (by rfl))) ss_nil)
      (ss_one (ss_ret (sx_call (ok_put_through T) fin_len (hr.mono (by decide)) T.g14 T.F14.kp T.b14 tk (sa_cons (sx_name 0) (sa_cons (sx_name 1) (sa_cons (sx_name 2) (sa_cons (sx_name 3) sa_nil)))))))))
theorem ok_poly_left (T : Tx K mg base fd) : FnOk P w K mg base (L2.CX P w) 6 (He.fAd K ("poly_left", none)) (fd 19) ["one", "exponent", "rule", "prime"] (spP K mg 4 M_poly_left) := by
  refine fn_PD T.F19 sc_poly_left rfl rfl fun cdv A outer s H E hr tk => ?_
  have nd := sc_poly_left.nd
  exact (ss_cons (ss_expr (sx_call (ok_need_polys T) fin_len (hr.mono (by decide)) T.g6 T.F6.kp T.b6 tk (sa_cons (sx_tup (sa_cons (sx_name 0) (sa_cons (sx_name 2) sa_nil))) (sa_cons (sx_name 3) sa_nil))))
      (ss_cons (ss_if (st_cmp os_lt (sx_name 1) sx_int (nomark _)) (ss_one (ss_raise0 rfl tk (xc_BadNumber T) (hr.mono (by decide)) (by rfl))) ss_nil)
      (ss_cons (ss_if (st_cmp (os_eq hr.units) (sx_name 2) (sx_tup sa_nil) (nomark _)) (ss_one (ss_raise0 rfl tk (xc_NoInverse T) (hr.mono (by decide)) (by rfl))) ss_nil)
      (ss_one (ss_ret (sx_call (ok_left_raised T) fin_len (hr.mono (by decide)) T.g13 T.F13.kp T.b13 tk (sa_cons (sx_name 0) (sa_cons (sx_name 1) (sa_cons (sx_name 2) (sa_cons (sx_name 3) sa_nil))))))))))
theorem ok_poly_slope (T : Tx K mg base fd) : FnOk P w K mg base (L2.CX P w) 6 (He.fAd K ("poly_slope", none)) (fd 20) ["one", "prime"] (spP K mg 2 M_poly_slope) := by
  refine fn_PD T.F20 sc_poly_slope rfl rfl fun cdv A outer s H E hr tk => ?_
  have nd := sc_poly_slope.nd
  exact (ss_cons (ss_expr (sx_call (ok_need_polys T) fin_len (hr.mono (by decide)) T.g6 T.F6.kp T.b6 tk (sa_cons (sx_tup (sa_cons (sx_name 0) sa_nil)) (sa_cons (sx_name 1) sa_nil))))
      (ss_one (ss_ret (sx_call (ok_sloped T) fin_len (hr.mono (by decide)) T.g16 T.F16.kp T.b16 tk (sa_cons (sx_name 0) (sa_cons (sx_name 1) sa_nil))))))
theorem ok__law_begin (T : Tx K mg base fd) : FnOk P w K mg base (L2.CX P w) 1 (He.fAd K ("_law_begin", none)) (fd 21) ["_law_script"] (spP K mg 1 M__law_begin) := by
  refine fn_PD T.F21 sc__law_begin rfl rfl fun cdv A outer s H E hr tk => ?_
  have nd := sc__law_begin.nd
  exact (ss_one (ss_ret (sx_lst (sa_cons (sx_callTy cs_list (by rfl) T.n_list bt_list (sa_cons (sx_slH (sx_name 0) sx_int) sa_nil)) (sa_cons sx_int (sa_cons sx_int (sa_cons sx_int sa_nil)))))))
theorem ok__law_take (T : Tx K mg base fd) : FnOk P w K mg base (L2.CX P w) 1 (He.fAd K ("_law_take", none)) (fd 22) ["_law_draw", "_law_sides"] (spI K mg 1 M__law_take) := by
  refine fn_ID T.F22 sc__law_take rfl rfl fun cdv A outer s H E hr tk => ?_
  have nd := sc__law_take.nd
  exact (ss_cons (ss_if (SW.t (sw_and (st_cmp os_lt (sx_ix (sx_name 0) sx_int) (sx_name 1) (nomark _)) (sw_and1 (st_cmp os_lt (sx_ix (sx_name 0) sx_int) (sx_callB cs_len (by rfl) T.n_len bt_len (sa_cons (sx_ix (sx_name 0) sx_int) sa_nil)) (nomark _))))) (ss_cons (ss_set 2 nd (sx_ix (sx_ix (sx_name 0) sx_int) (sx_ix (sx_name 0) sx_int)))
      (ss_cons (ss_setIx 0 (sx_bin os_add (sx_ix (sx_name 0) sx_int) sx_int) sx_int)
      (ss_cons (ss_setIx 0 sx_int sx_int)
      (ss_one (ss_if (st_cmp os_ge (sx_callB cs_abs (by rfl) T.n_abs bt_abs (sa_cons (sx_name 2) sa_nil)) (sx_bin os_pow sx_int sx_int) (nomark _)) (ss_one (ss_setIx 0 (sx_callB cs_abs (by rfl) T.n_abs bt_abs (sa_cons (sx_name 2) sa_nil)) sx_int)) (ss_one (ss_setIx 0 (sx_bin os_mod (sx_bin os_add (sx_bin os_add (sx_bin os_mul (sx_ix (sx_name 0) sx_int) sx_int) (sx_bin os_mul (sx_bin os_mod (sx_name 2) sx_int) sx_int)) sx_int) sx_int) sx_int))))))) ss_nil)
      (ss_cons (ss_if (st_cmp os_ge (sx_ix (sx_name 0) sx_int) (sx_name 1) (nomark _)) (ss_cons (ss_set 3 nd (sx_bin os_mod (sx_ix (sx_name 0) sx_int) (sx_name 1)))
      (ss_cons (ss_setIx 0 (sx_bin os_div (sx_ix (sx_name 0) sx_int) (sx_name 1)) sx_int)
      (ss_one (ss_ret (sx_name 3))))) ss_nil)
      (ss_cons (ss_setIx 0 (sx_bin os_mod (sx_bin os_add (sx_bin os_add (sx_bin os_mul (sx_bin os_mod (sx_bin os_mul (sx_ix (sx_name 0) sx_int) (sx_ix (sx_name 0) sx_int)) sx_int) sx_int) (sx_bin os_mul (sx_ix (sx_name 0) sx_int) sx_int)) sx_int) sx_int) sx_int)
      (ss_one (ss_ret (sx_bin os_mod (sx_bin os_add (sx_bin os_div (sx_ix (sx_name 0) sx_int) sx_int) (sx_bin os_mul (sx_bin os_mod (sx_ix (sx_name 0) sx_int) sx_int) sx_int)) (sx_name 1)))))))
theorem ok__law_of (T : Tx K mg base fd) : FnOk P w K mg base (L2.CX P w) 2 (He.fAd K ("_law_of", none)) (fd 23) ["_law_draw", "_law_row"] (spI K mg 1 M__law_of) := by
  refine fn_ID T.F23 sc__law_of rfl rfl fun cdv A outer s H E hr tk => ?_
  have nd := sc__law_of.nd
  exact (ss_one (ss_ret (sx_ix (sx_name 1) (sx_callI (ok__law_take T) finI_len (hr.mono (by decide)) T.g22 T.F22.kp T.b22 tk (sa_cons (sx_name 0) (sa_cons (sx_callB cs_len (by rfl) T.n_len bt_len (sa_cons (sx_name 1) sa_nil)) sa_nil))))))
theorem ok__law_same_ (T : Tx K mg base fd) : ∀ k : Nat, FnOk P w K mg base (L2.CX P w) (k + 1) (He.fAd K ("_law_same", none)) (fd 24) ["_law_found", "_law_due"] (spP K mg 2 (M__law_same_ k))
  | 0 => ⟨fun vs H Q E h => (by obtain ⟨F, G, ds, _, _, _, z⟩ := h; exact z.elim), fun A outer s H args us vs Q E _ _ _ _ h => (by obtain ⟨F, G, ds, _, _, _, z⟩ := h; exact z.elim)⟩
  | k + 1 => by
    have ih : FnOk P w K mg base (L2.CX P w) (k + 1) (He.fAd K ("_law_same", none)) (fd 24) ["_law_found", "_law_due"] (spP K mg 2 (M__law_same_ k)) := ok__law_same_ T k
    have hl : ∀ ds, ds.length ≠ 2 → M__law_same_ k ds = .bad := fun ds h => by
      cases k with
      | zero => rfl
      | succ k => exact fin_len ds h
    refine fn_PD T.F24 sc__law_same rfl rfl fun cdv A outer s H E hr tk => ?_
    have nd := sc__law_same.nd
    exact (ss_cons (ss_if (st_val (sx_isi2 (by rfl) T.n_isinstance (sx_name 1) (by rfl) T.n_list bt_list (by rfl) T.n_tuple bt_tuple)) (ss_cons (ss_if (SW.t (sw_or (st_cmp (os_ne hr.units) (sx_callB cs_isi (by rfl) T.n_isinstance bt_isinstance (sa_cons (sx_name 0) (sa_cons (sx_ty (by rfl) T.n_list bt_list) sa_nil))) (sx_callB cs_isi (by rfl) T.n_isinstance bt_isinstance (sa_cons (sx_name 1) (sa_cons (sx_ty (by rfl) T.n_list bt_list) sa_nil))) (nomark _)) (sw_or1 (st_not (st_val (sx_isi2 (by rfl) T.n_isinstance (sx_name 0) (by rfl) T.n_list bt_list (by rfl) T.n_tuple bt_tuple)))))) (ss_one (ss_ret sx_bl)) ss_nil)
      (ss_one (ss_ret (sx_and (sx_cmp (os_eq hr.units) (sx_callB cs_len (by rfl) T.n_len bt_len (sa_cons (sx_name 0) sa_nil)) (sx_callB cs_len (by rfl) T.n_len bt_len (sa_cons (sx_name 1) sa_nil)) (nomark _)) (sx_one (sx_callB (cs_all rfl) (by rfl) T.n_all bt_all (sa_cons (sx_lc0 [("_law_one", 2), ("_law_other", 3)] rfl nd (si_za (by rfl) T.n_zip (sa_cons (sx_name 0) (sa_cons (sx_name 1) sa_nil))) (blkOk_by (own := [("_law_one", 2), ("_law_other", 3)]) (N := N__law_same) (sc := defScope s__law_same) (by decide +kernel)) (by decide) (fun _ _ _ _ _ => (sg_tup rfl (sgs_cons (sg_name 2 nd) (sgs_cons (sg_name 3 nd) sgs_nil)))) (fun _ _ _ _ _ => (sx_call ih hl (hr.mono (by omega)) T.g24 T.F24.kp T.b24 takes0 (sa_cons (sx_name 2) (sa_cons (sx_name 3) sa_nil))))) sa_nil))))))) ss_nil)
      (ss_cons (ss_if (st_cmp os_is (sx_name 1) sx_non (nomark _)) (ss_one (ss_ret (sx_cmp os_is (sx_name 0) sx_non (nomark _)))) ss_nil)
      (ss_cons (ss_if (SW.t (sw_or (st_cmp (os_ne hr.units) (sx_callB cs_isi (by rfl) T.n_isinstance bt_isinstance (sa_cons (sx_name 0) (sa_cons (sx_ty (by rfl) T.n_bool bt_bool) sa_nil))) (sx_callB cs_isi (by rfl) T.n_isinstance bt_isinstance (sa_cons (sx_name 1) (sa_cons (sx_ty (by rfl) T.n_bool bt_bool) sa_nil))) (nomark _)) (sw_or1 (st_cmp (os_ne hr.units) (sx_callB cs_isi (by rfl) T.n_isinstance bt_isinstance (sa_cons (sx_name 0) (sa_cons (sx_ty (by rfl) T.n_int bt_int) sa_nil))) (sx_callB cs_isi (by rfl) T.n_isinstance bt_isinstance (sa_cons (sx_name 1) (sa_cons (sx_ty (by rfl) T.n_int bt_int) sa_nil))) (nomark _))))) (ss_one (ss_ret sx_bl)) ss_nil)
      (ss_one (ss_ret (sx_and (sx_cmp (os_eq hr.units) (sx_callB cs_isi (by rfl) T.n_isinstance bt_isinstance (sa_cons (sx_name 0) (sa_cons (sx_ty (by rfl) T.n_str bt_str) sa_nil))) (sx_callB cs_isi (by rfl) T.n_isinstance bt_isinstance (sa_cons (sx_name 1) (sa_cons (sx_ty (by rfl) T.n_str bt_str) sa_nil))) (nomark _)) (sx_one (sx_cmp (os_eq hr.units) (sx_name 0) (sx_name 1) (nomark _)))))))))
theorem ok__law_same (T : Tx K mg base fd) : FnOk P w K mg base (L2.CX P w) 9 (He.fAd K ("_law_same", none)) (fd 24) ["_law_found", "_law_due"] (spP K mg 2 M__law_same) := ok__law_same_ T 8
theorem ok__law_primes (T : Tx K mg base fd) : FnOk P w K mg base (L2.CX P w) 1 (He.fAd K ("_law_primes", none)) (fd 27) [] (spP K mg 0 M__law_primes) := by
  refine fn_PD T.F27 sc__law_primes rfl rfl fun cdv A outer s H E hr tk => ?_
  have nd := sc__law_primes.nd
  exact (ss_one (ss_ret (sx_lst (sa_cons sx_int (sa_cons sx_int (sa_cons sx_int (sa_cons sx_int (sa_cons sx_int (sa_cons sx_int (sa_cons sx_int (sa_cons sx_int (sa_cons sx_int (sa_cons sx_int (sa_cons sx_int (sa_cons sx_int (sa_cons sx_int (sa_cons sx_int (sa_cons sx_int (sa_cons sx_int (sa_cons sx_int (sa_cons sx_int (sa_cons sx_int (sa_cons sx_int (sa_cons sx_int (sa_cons sx_int (sa_cons sx_int (sa_cons sx_int (sa_cons sx_int sa_nil))))))))))))))))))))))))))))
theorem ok__law_any_prime (T : Tx K mg base fd) : FnOk P w K mg base (L2.CX P w) 3 (He.fAd K ("_law_any_prime", none)) (fd 28) ["_law_draw"] (spI K mg 0 M__law_any_prime) := by
  refine fn_ID T.F28 sc__law_any_prime rfl rfl fun cdv A outer s H E hr tk => ?_
  have nd := sc__law_any_prime.nd
  exact (ss_one (ss_ret (sx_callI (ok__law_of T) finI_len (hr.mono (by decide)) T.g23 T.F23.kp T.b23 tk (sa_cons (sx_name 0) (sa_cons (sx_callI (ok__law_of T) finI_len (hr.mono (by decide)) T.g23 T.F23.kp T.b23 tk (sa_cons (sx_name 0) (sa_cons (sx_lst (sa_cons (sx_lst (sa_cons sx_int sa_nil)) (sa_cons (sx_lst (sa_cons sx_int (sa_cons sx_int (sa_cons sx_int sa_nil)))) (sa_cons (sx_lst (sa_cons sx_int (sa_cons sx_int sa_nil))) (sa_cons (sx_call0 (ok__law_primes T) fin_len (hr.mono (by decide)) T.g27 T.F27.kp T.b27 tk) sa_nil))))) sa_nil))) sa_nil)))))
theorem ok__law_far (T : Tx K mg base fd) : FnOk P w K mg base (L2.CX P w) 3 (He.fAd K ("_law_far", none)) (fd 29) ["_law_draw", "_law_p"] (spI K mg 1 M__law_far) := by
  refine fn_ID T.F29 sc__law_far rfl rfl fun cdv A outer s H E hr tk => ?_
  have nd := sc__law_far.nd
  exact (ss_one (ss_ret (sx_callI (ok__law_of T) finI_len (hr.mono (by decide)) T.g23 T.F23.kp T.b23 tk (sa_cons (sx_name 0) (sa_cons (sx_lst (sa_cons (sx_name 1) (sa_cons (sx_neg sx_int) (sa_cons (sx_bin os_pow sx_int sx_int) (sa_cons (sx_bin os_add (sx_name 1) (sx_callI (ok__law_take T) finI_len (hr.mono (by decide)) T.g22 T.F22.kp T.b22 tk (sa_cons (sx_name 0) (sa_cons (sx_bin os_pow sx_int sx_int) sa_nil)))) (sa_cons (sx_neg (sx_name 1)) sa_nil)))))) sa_nil)))))
theorem ok__law_trim (T : Tx K mg base fd) : FnOk P w K mg base (L2.CX P w) 1 (He.fAd K ("_law_trim", none)) (fd 30) ["_law_numbers"] (spP K mg 1 M__law_trim) := by
  refine fn_PD T.F30 sc__law_trim rfl rfl fun cdv A outer s H E hr tk => ?_
  have nd := sc__law_trim.nd
  exact (ss_cons (ss_set 1 nd (sx_callB cs_len (by rfl) T.n_len bt_len (sa_cons (sx_name 0) sa_nil)))
      (ss_cons (ss_for (passes_of rfl) rfl (si_r1 (by rfl) T.n_range (sa_cons (sx_callB cs_len (by rfl) T.n_len bt_len (sa_cons (sx_name 0) sa_nil)) sa_nil)) (sg_name 2 nd) (ss_one (ss_if (SW.t (sw_and (st_cmp os_gt (sx_name 1) sx_int (nomark _)) (sw_and1 (st_cmp (os_eq hr.units) (sx_ix (sx_name 0) (sx_bin os_sub (sx_name 1) sx_int)) sx_int (nomark _))))) (ss_one (ss_set 1 nd (sx_bin os_sub (sx_name 1) sx_int))) ss_nil)))
      (ss_one (ss_ret (sx_callTy cs_tuple (by rfl) T.n_tuple bt_tuple (sa_cons (sx_slH (sx_name 0) (sx_name 1)) sa_nil))))))
theorem ok__law_rests (T : Tx K mg base fd) : FnOk P w K mg base (L2.CX P w) 2 (He.fAd K ("_law_rests", none)) (fd 31) ["_law_draw", "_law_many", "_law_p"] (spI K mg 2 M__law_rests) := by
  refine fn_ID T.F31 sc__law_rests rfl rfl fun cdv A outer s H E hr tk => ?_
  have nd := sc__law_rests.nd
  exact (ss_one (ss_ret (sx_lc0 [("_law_k", 3)] rfl nd (si_r1 (by rfl) T.n_range (sa_cons (sx_name 1) sa_nil)) (blkOk_by (own := [("_law_k", 3)]) (N := N__law_rests) (sc := defScope s__law_rests) (by decide +kernel)) (by decide) (fun _ _ _ _ _ => (sg_name 3 nd)) (fun _ _ _ _ _ => (sx_callI (ok__law_take T) finI_len (hr.mono (by decide)) T.g22 T.F22.kp T.b22 takes0 (sa_cons (sx_name 0) (sa_cons (sx_name 2) sa_nil)))))))
theorem ok__law_poly (T : Tx K mg base fd) : FnOk P w K mg base (L2.CX P w) 3 (He.fAd K ("_law_poly", none)) (fd 32) ["_law_draw", "_law_most", "_law_p"] (spI K mg 2 M__law_poly) := by
  refine fn_ID T.F32 sc__law_poly rfl rfl fun cdv A outer s H E hr tk => ?_
  have nd := sc__law_poly.nd
  exact (ss_cons (ss_set 3 nd (sx_callI (ok__law_rests T) finI_len (hr.mono (by decide)) T.g31 T.F31.kp T.b31 tk (sa_cons (sx_name 0) (sa_cons (sx_callI (ok__law_take T) finI_len (hr.mono (by decide)) T.g22 T.F22.kp T.b22 tk (sa_cons (sx_name 0) (sa_cons (sx_bin os_add (sx_name 1) sx_int) sa_nil))) (sa_cons (sx_name 2) sa_nil)))))
      (ss_cons (ss_if (st_cmp (os_eq hr.units) (sx_callI (ok__law_take T) finI_len (hr.mono (by decide)) T.g22 T.F22.kp T.b22 tk (sa_cons (sx_name 0) (sa_cons sx_int sa_nil))) sx_int (nomark _)) (ss_one (ss_lc0 3 [("_law_number", 4)] rfl nd (si_seq (sx_name 3)) (blkOk_by (own := [("_law_number", 4)]) (N := N__law_poly) (sc := defScope s__law_poly) (by decide +kernel)) (by decide) (fun _ _ _ _ _ => (sg_name 4 nd)) (fun _ _ _ _ _ => (sx_bin os_mul (sx_name 4) (sx_callTy cs_int (by rfl) T.n_int bt_int (sa_cons (sx_cmp (os_eq hr.units) (sx_callI (ok__law_take T) finI_len (hr.mono (by decide)) T.g22 T.F22.kp T.b22 takes0 (sa_cons (sx_name 0) (sa_cons sx_int sa_nil))) sx_int (nomark _)) sa_nil)))) (sw_true rfl rfl rfl (by decide +kernel)))) ss_nil)
      (ss_one (ss_ret (sx_call (ok__law_trim T) fin_len (hr.mono (by decide)) T.g30 T.F30.kp T.b30 tk (sa_cons (sx_name 3) sa_nil))))))
theorem ok__law_blend (T : Tx K mg base fd) : FnOk P w K mg base (L2.CX P w) 2 (He.fAd K ("_law_blend", none)) (fd 33) ["_law_one", "_law_other", "_law_weight", "_law_p"] (spP K mg 4 M__law_blend) := by
  refine fn_PD T.F33 sc__law_blend rfl rfl fun cdv A outer s H E hr tk => ?_
  have nd := sc__law_blend.nd
  exact (ss_cons (ss_set 4 nd (sx_callB (cs_max rfl) (by rfl) T.n_max bt_max (sa_cons (sx_callB cs_len (by rfl) T.n_len bt_len (sa_cons (sx_name 0) sa_nil)) (sa_cons (sx_callB cs_len (by rfl) T.n_len bt_len (sa_cons (sx_name 1) sa_nil)) sa_nil))))
      (ss_cons (ss_lc0 5 [("_law_row", 6)] rfl nd (si_seq (sx_tup (sa_cons (sx_name 0) (sa_cons (sx_name 1) sa_nil)))) (blkOk_by (own := [("_law_row", 6)]) (N := N__law_blend) (sc := defScope s__law_blend) (by decide +kernel)) (by decide) (fun _ _ _ _ _ => (sg_name 6 nd)) (fun _ _ _ _ _ => (sx_bin os_add (sx_callTy cs_list (by rfl) T.n_list bt_list (sa_cons (sx_name 6) sa_nil)) (sx_bin os_mul (sx_lst (sa_cons sx_int sa_nil)) (sx_bin os_sub (sx_name 4) (sx_callB cs_len (by rfl) T.n_len bt_len (sa_cons (sx_name 6) sa_nil)))))) (sw_true rfl rfl rfl (by decide +kernel)))
      (ss_one (ss_ret (sx_call (ok__law_trim T) fin_len (hr.mono (by decide)) T.g30 T.F30.kp T.b30 tk (sa_cons (sx_lc0 [("_law_a", 7), ("_law_b", 8)] rfl nd (si_za (by rfl) T.n_zip (sa_cons (sx_ix (sx_name 5) sx_int) (sa_cons (sx_ix (sx_name 5) sx_int) sa_nil))) (blkOk_by (own := [("_law_a", 7), ("_law_b", 8)]) (N := N__law_blend) (sc := defScope s__law_blend) (by decide +kernel)) (by decide) (fun _ _ _ _ _ => (sg_tup rfl (sgs_cons (sg_name 7 nd) (sgs_cons (sg_name 8 nd) sgs_nil)))) (fun _ _ _ _ _ => (sx_bin os_mod (sx_bin os_add (sx_name 7) (sx_bin os_mul (sx_name 2) (sx_name 8))) (sx_name 3)))) sa_nil))))))
theorem ok__law_conv (T : Tx K mg base fd) : FnOk P w K mg base (L2.CX P w) 1 (He.fAd K ("_law_conv", none)) (fd 34) ["_law_one", "_law_other", "_law_p"] (spP K mg 3 M__law_conv) := by
  refine fn_PD T.F34 sc__law_conv rfl rfl fun cdv A outer s H E hr tk => ?_
  have nd := sc__law_conv.nd
  exact (ss_cons (ss_set 3 nd (sx_bin os_mul (sx_lst (sa_cons sx_int sa_nil)) (sx_bin os_add (sx_callB cs_len (by rfl) T.n_len bt_len (sa_cons (sx_name 0) sa_nil)) (sx_callB cs_len (by rfl) T.n_len bt_len (sa_cons (sx_name 1) sa_nil)))))
      (ss_cons (ss_for (passes_of rfl) rfl (si_en (by rfl) T.n_enumerate (sa_cons (sx_name 0) sa_nil)) (sg_tup rfl (sgs_cons (sg_name 4 nd) (sgs_cons (sg_name 5 nd) sgs_nil))) (ss_one (ss_for (passes_of rfl) rfl (si_en (by rfl) T.n_enumerate (sa_cons (sx_name 1) sa_nil)) (sg_tup rfl (sgs_cons (sg_name 6 nd) (sgs_cons (sg_name 7 nd) sgs_nil))) (ss_one (ss_setIx 3 (sx_bin os_mod (sx_bin os_add (sx_ix (sx_name 3) (sx_bin os_add (sx_name 4) (sx_name 6))) (sx_bin os_mul (sx_name 5) (sx_name 7))) (sx_name 2)) (sx_bin os_add (sx_name 4) (sx_name 6)))))))
      (ss_one (ss_ret (sx_name 3)))))
theorem ok__law_mul (T : Tx K mg base fd) : FnOk P w K mg base (L2.CX P w) 2 (He.fAd K ("_law_mul", none)) (fd 35) ["_law_one", "_law_other", "_law_p"] (spP K mg 3 M__law_mul) := by
  refine fn_PD T.F35 sc__law_mul rfl rfl fun cdv A outer s H E hr tk => ?_
  have nd := sc__law_mul.nd
  exact (ss_one (ss_ret (sx_call (ok__law_trim T) fin_len (hr.mono (by decide)) T.g30 T.F30.kp T.b30 tk (sa_cons (sx_call (ok__law_conv T) fin_len (hr.mono (by decide)) T.g34 T.F34.kp T.b34 tk (sa_cons (sx_name 0) (sa_cons (sx_name 1) (sa_cons (sx_name 2) sa_nil)))) sa_nil))))
theorem ok__law_back (T : Tx K mg base fd) : FnOk P w K mg base (L2.CX P w) 1 (He.fAd K ("_law_back", none)) (fd 36) ["_law_number", "_law_p"] (spP K mg 2 M__law_back) := by
  refine fn_PD T.F36 sc__law_back rfl rfl fun cdv A outer s H E hr tk => ?_
  have nd := sc__law_back.nd
  exact (ss_one (ss_ret (sx_ix (sx_lc1 [("_law_k", 2)] rfl nd (si_r2 (by rfl) T.n_range (sa_cons sx_int (sa_cons (sx_name 1) sa_nil))) (blkOk_by (own := [("_law_k", 2)]) (N := N__law_back) (sc := defScope s__law_back) (by decide +kernel)) (by decide) (fun _ _ _ _ _ => (sg_name 2 nd)) (fun _ _ _ _ _ => (st_cmp (os_eq hr.units) (sx_bin os_mod (sx_bin os_mul (sx_name 2) (sx_name 0)) (sx_name 1)) sx_int (nomark _))) (fun _ _ _ _ _ => (sx_name 2))) sx_int)))
theorem ok__law_cut_by (T : Tx K mg base fd) : FnOk P w K mg base (L2.CX P w) 2 (He.fAd K ("_law_cut_by", none)) (fd 37) ["_law_one", "_law_other", "_law_p"] (spP K mg 3 M__law_cut_by) := by
  refine fn_PD T.F37 sc__law_cut_by rfl rfl fun cdv A outer s H E hr tk => ?_
  have nd := sc__law_cut_by.nd
  exact (ss_cons (ss_set 3 nd (sx_callTy cs_list (by rfl) T.n_list bt_list (sa_cons (sx_name 0) sa_nil)))
      (ss_cons (ss_set 4 nd (sx_bin os_sub (sx_callB cs_len (by rfl) T.n_len bt_len (sa_cons (sx_name 1) sa_nil)) sx_int))
      (ss_cons (ss_set 5 nd (sx_call (ok__law_back T) fin_len (hr.mono (by decide)) T.g36 T.F36.kp T.b36 tk (sa_cons (sx_ix (sx_name 1) (sx_neg sx_int)) (sa_cons (sx_name 2) sa_nil))))
      (ss_cons (ss_set 6 nd (sx_bin os_mul (sx_lst (sa_cons sx_int sa_nil)) (sx_callB (cs_max rfl) (by rfl) T.n_max bt_max (sa_cons sx_int (sa_cons (sx_bin os_sub (sx_callB cs_len (by rfl) T.n_len bt_len (sa_cons (sx_name 0) sa_nil)) (sx_name 4)) sa_nil)))))
      (ss_cons (ss_for (passes_of rfl) rfl (si_r3 (by rfl) T.n_range (sa_cons (sx_bin os_sub (sx_callB cs_len (by rfl) T.n_len bt_len (sa_cons (sx_name 0) sa_nil)) sx_int) (sa_cons (sx_bin os_sub (sx_name 4) sx_int) (sa_cons (sx_neg sx_int) sa_nil)))) (sg_name 7 nd) (ss_cons (ss_set 8 nd (sx_bin os_mod (sx_bin os_mul (sx_ix (sx_name 3) (sx_name 7)) (sx_name 5)) (sx_name 2)))
      (ss_cons (ss_setIx 6 (sx_name 8) (sx_bin os_sub (sx_name 7) (sx_name 4)))
      (ss_one (ss_for (passes_of rfl) rfl (si_en (by rfl) T.n_enumerate (sa_cons (sx_name 1) sa_nil)) (sg_tup rfl (sgs_cons (sg_name 9 nd) (sgs_cons (sg_name 10 nd) sgs_nil))) (ss_cons (ss_set 11 nd (sx_bin os_add (sx_bin os_sub (sx_name 7) (sx_name 4)) (sx_name 9)))
      (ss_one (ss_setIx 3 (sx_bin os_mod (sx_bin os_sub (sx_ix (sx_name 3) (sx_name 11)) (sx_bin os_mul (sx_name 8) (sx_name 10))) (sx_name 2)) (sx_name 11)))))))))
      (ss_one (ss_ret (sx_tup (sa_cons (sx_call (ok__law_trim T) fin_len (hr.mono (by decide)) T.g30 T.F30.kp T.b30 tk (sa_cons (sx_name 6) sa_nil)) (sa_cons (sx_call (ok__law_trim T) fin_len (hr.mono (by decide)) T.g30 T.F30.kp T.b30 tk (sa_cons (sx_slH (sx_name 3) (sx_name 4)) sa_nil)) sa_nil))))))))))
theorem ok__law_rem (T : Tx K mg base fd) : FnOk P w K mg base (L2.CX P w) 3 (He.fAd K ("_law_rem", none)) (fd 38) ["_law_one", "_law_other", "_law_p"] (spP K mg 3 M__law_rem) := by
  refine fn_PD T.F38 sc__law_rem rfl rfl fun cdv A outer s H E hr tk => ?_
  have nd := sc__law_rem.nd
  exact (ss_one (ss_ret (sx_ix (sx_call (ok__law_cut_by T) fin_len (hr.mono (by decide)) T.g37 T.F37.kp T.b37 tk (sa_cons (sx_name 0) (sa_cons (sx_name 1) (sa_cons (sx_name 2) sa_nil)))) sx_int)))
theorem ok__law_lift (T : Tx K mg base fd) : FnOk P w K mg base (L2.CX P w) 4 (He.fAd K ("_law_lift", none)) (fd 39) ["_law_one", "_law_exponent", "_law_rule", "_law_p"] (spP K mg 4 M__law_lift) := by
  refine fn_PD T.F39 sc__law_lift rfl rfl fun cdv A outer s H E hr tk => ?_
  have nd := sc__law_lift.nd
  exact (ss_cons (ss_set 4 nd (sx_call (ok__law_rem T) fin_len (hr.mono (by decide)) T.g38 T.F38.kp T.b38 tk (sa_cons (sx_tup (sa_cons sx_int sa_nil)) (sa_cons (sx_name 2) (sa_cons (sx_name 3) sa_nil)))))
      (ss_cons (ss_set 5 nd (sx_call (ok__law_rem T) fin_len (hr.mono (by decide)) T.g38 T.F38.kp T.b38 tk (sa_cons (sx_name 0) (sa_cons (sx_name 2) (sa_cons (sx_name 3) sa_nil)))))
      (ss_cons (ss_set 6 nd (sx_name 1))
      (ss_cons (ss_for (passes_of rfl) rfl (si_r1 (by rfl) T.n_range (sa_cons sx_int sa_nil)) (sg_name 7 nd) (ss_cons (ss_if (st_cmp (os_eq hr.units) (sx_bin os_mod (sx_name 6) sx_int) sx_int (nomark _)) (ss_one (ss_set 4 nd (sx_call (ok__law_rem T) fin_len (hr.mono (by decide)) T.g38 T.F38.kp T.b38 tk (sa_cons (sx_call (ok__law_mul T) fin_len (hr.mono (by decide)) T.g35 T.F35.kp T.b35 tk (sa_cons (sx_name 4) (sa_cons (sx_name 5) (sa_cons (sx_name 3) sa_nil)))) (sa_cons (sx_name 2) (sa_cons (sx_name 3) sa_nil)))))) ss_nil)
      (ss_cons (ss_set 6 nd (sx_bin os_div (sx_name 6) sx_int))
      (ss_one (ss_if (st_cmp os_gt (sx_name 6) sx_int (nomark _)) (ss_one (ss_set 5 nd (sx_call (ok__law_rem T) fin_len (hr.mono (by decide)) T.g38 T.F38.kp T.b38 tk (sa_cons (sx_call (ok__law_mul T) fin_len (hr.mono (by decide)) T.g35 T.F35.kp T.b35 tk (sa_cons (sx_name 5) (sa_cons (sx_name 5) (sa_cons (sx_name 3) sa_nil)))) (sa_cons (sx_name 2) (sa_cons (sx_name 3) sa_nil)))))) ss_nil)))))
      (ss_one (ss_ret (sx_name 4)))))))
theorem ok__law_put (T : Tx K mg base fd) : FnOk P w K mg base (L2.CX P w) 4 (He.fAd K ("_law_put", none)) (fd 40) ["_law_one", "_law_other", "_law_rule", "_law_p"] (spP K mg 4 M__law_put) := by
  refine fn_PD T.F40 sc__law_put rfl rfl fun cdv A outer s H E hr tk => ?_
  have nd := sc__law_put.nd
  exact (ss_cons (ss_set 4 nd (sx_tup sa_nil))
      (ss_cons (ss_for (passes_of rfl) rfl (si_seq (sx_rev (sx_name 0))) (sg_name 5 nd) (ss_one (ss_set 4 nd (sx_call (ok__law_rem T) fin_len (hr.mono (by decide)) T.g38 T.F38.kp T.b38 tk (sa_cons (sx_call (ok__law_blend T) fin_len (hr.mono (by decide)) T.g33 T.F33.kp T.b33 tk (sa_cons (sx_call (ok__law_mul T) fin_len (hr.mono (by decide)) T.g35 T.F35.kp T.b35 tk (sa_cons (sx_name 4) (sa_cons (sx_name 1) (sa_cons (sx_name 3) sa_nil)))) (sa_cons (sx_tup (sa_cons sx_int sa_nil)) (sa_cons (sx_name 5) (sa_cons (sx_name 3) sa_nil))))) (sa_cons (sx_name 2) (sa_cons (sx_name 3) sa_nil)))))))
      (ss_one (ss_ret (sx_name 4)))))
theorem ok__law_worth (T : Tx K mg base fd) : FnOk P w K mg base (L2.CX P w) 1 (He.fAd K ("_law_worth", none)) (fd 41) ["_law_one", "_law_number", "_law_p"] (spP K mg 3 M__law_worth) := by
  refine fn_PD T.F41 sc__law_worth rfl rfl fun cdv A outer s H E hr tk => ?_
  have nd := sc__law_worth.nd
  exact (ss_cons (ss_set 3 nd sx_int)
      (ss_cons (ss_set 4 nd sx_int)
      (ss_cons (ss_for (passes_of rfl) rfl (si_seq (sx_name 0)) (sg_name 5 nd) (ss_cons (ss_set 3 nd (sx_bin os_mod (sx_bin os_add (sx_name 3) (sx_bin os_mul (sx_name 5) (sx_name 4))) (sx_name 2)))
      (ss_one (ss_set 4 nd (sx_bin os_mod (sx_bin os_mul (sx_name 4) (sx_name 1)) (sx_name 2))))))
      (ss_one (ss_ret (sx_name 3))))))
theorem ok_law (T : Tx K mg base fd) : FnOk P w K mg base (L2.CX P w) 10 (He.fAd K ("law", none)) (fd 42) ["_law_script"] (spP K mg 1 M_law) := by
  refine fn_PM T.F42 sc_law rfl rfl T.tb_law T.un (by decide) fun cdv A outer s H E hr tk mk => ?_
  have nd := sc_law.nd
  exact (ss_cons (ss_set 8 nd (sx_call (ok__law_begin T) fin_len (hr.mono (by decide)) T.g21 T.F21.kp T.b21 tk (sa_cons (sx_name 0) sa_nil)))
      (ss_cons (ss_for (passes_of rfl) rfl (si_r1 (by rfl) T.n_range (sa_cons sx_int sa_nil)) (sg_name 1 nd) (ss_cons (ss_set 13 nd (sx_callI (ok__law_any_prime T) finI_len (hr.mono (by decide)) T.g28 T.F28.kp T.b28 tk (sa_cons (sx_name 8) sa_nil)))
      (ss_cons (ss_asg (sx_lc0 [("_law_k", 15)] rfl nd (si_r1 (by rfl) T.n_range (sa_cons sx_int sa_nil)) (blkOk_by (own := [("_law_k", 15)]) (N := N_law) (sc := defScope s_law) (by decide +kernel)) (by decide) (fun _ _ _ _ _ => (sg_name 15 nd)) (fun _ _ _ _ _ => (sx_callI (ok__law_poly T) finI_len (hr.mono (by decide)) T.g32 T.F32.kp T.b32 takes0 (sa_cons (sx_name 8) (sa_cons sx_int (sa_cons (sx_name 13) sa_nil)))))) (sg_lst rfl (sgs_cons (sg_name 11 nd) (sgs_cons (sg_name 12 nd) (sgs_cons (sg_name 14 nd) sgs_nil)))))
      (ss_cons (ss_set 2 nd (sx_callI (ok__law_take T) finI_len (hr.mono (by decide)) T.g22 T.F22.kp T.b22 tk (sa_cons (sx_name 8) (sa_cons (sx_name 13) sa_nil))))
      (ss_cons (ss_set 3 nd (sx_call (ok__law_trim T) fin_len (hr.mono (by decide)) T.g30 T.F30.kp T.b30 tk (sa_cons (sx_slL (sx_lc0 [("_law_at", 16), ("_law_rest", 17)] rfl nd (si_en (by rfl) T.n_enumerate (sa_cons (sx_name 11) sa_nil)) (blkOk_by (own := [("_law_at", 16), ("_law_rest", 17)]) (N := N_law) (sc := defScope s_law) (by decide +kernel)) (by decide) (fun _ _ _ _ _ => (sg_tup rfl (sgs_cons (sg_name 16 nd) (sgs_cons (sg_name 17 nd) sgs_nil)))) (fun _ _ _ _ _ => (sx_bin os_mod (sx_bin os_mul (sx_name 16) (sx_name 17)) (sx_name 13)))) sx_int) sa_nil)))
      (ss_cons (ss_set 4 nd (sx_lst (sa_cons (sx_callK (ok_poly_value T) fin_len (hr.mono (by decide)) T.g17 T.F17.kp T.k17 tk (sa_cons (sx_name 11) (sa_cons (sx_name 2) sa_nil)) (nA_cons (nA_cons nA_nil)) (sk_cons (sx_name 13) sk_nil) (nA_cons nA_nil)) (sa_cons (sx_callK (ok_poly_slope T) fin_len (hr.mono (by decide)) T.g20 T.F20.kp T.k20 tk (sa_cons (sx_name 11) sa_nil) (nA_cons nA_nil) (sk_cons (sx_name 13) sk_nil) (nA_cons nA_nil)) sa_nil))))
      (ss_cons (ss_if (st_not (st_val (sx_call (ok__law_same T) M__law_same_len (hr.mono (by decide)) T.g24 T.F24.kp T.b24 tk (sa_cons (sx_name 4) (sa_cons (sx_lst (sa_cons (sx_call (ok__law_worth T) fin_len (hr.mono (by decide)) T.g41 T.F41.kp T.b41 tk (sa_cons (sx_name 11) (sa_cons (sx_name 2) (sa_cons (sx_name 13) sa_nil)))) (sa_cons (sx_name 3) sa_nil))) sa_nil))))) (ss_one (ss_ret sx_bl)) ss_nil)
      (ss_cons (ss_set 9 nd (sx_callI (ok__law_of T) finI_len (hr.mono (by decide)) T.g23 T.F23.kp T.b23 tk (sa_cons (sx_name 8) (sa_cons (sx_lst (sa_cons sx_int (sa_cons sx_int (sa_cons sx_int (sa_cons (sx_name 13) (sa_cons (sx_callI (ok__law_take T) finI_len (hr.mono (by decide)) T.g22 T.F22.kp T.b22 tk (sa_cons (sx_name 8) (sa_cons (sx_bin os_pow sx_int sx_int) sa_nil))) (sa_cons (sx_bin os_add (sx_bin os_pow sx_int sx_int) (sx_callI (ok__law_take T) finI_len (hr.mono (by decide)) T.g22 T.F22.kp T.b22 tk (sa_cons (sx_name 8) (sa_cons (sx_bin os_pow sx_int sx_int) sa_nil)))) sa_nil))))))) sa_nil))))
      (ss_cons (ss_set 5 nd (sx_why' (k := 6) (why_ok T) (kn_ok T) (hr.mono (by decide)) (by rfl) T.g25 T.F25.kp mk (LamX.lamS_by (sc := defScope s_law) (by decide +kernel)) (fun A outer s H E f c hr' => (fun tk' => (sx_callK (ok_poly_put T) fin_len (hr'.mono (by decide)) T.g18 T.F18.kp T.k18 tk' (sa_cons (sx_name 11) (sa_cons (sx_name 12) (sa_cons (sx_name 14) sa_nil))) (nA_cons (nA_cons (nA_cons nA_nil))) (sk_cons (sx_name 13) sk_nil) (nA_cons nA_nil))) (takes_of rfl rfl rfl rfl))))
      (ss_cons (ss_set 6 nd (sx_why' (k := 6) (why_ok T) (kn_ok T) (hr.mono (by decide)) (by rfl) T.g25 T.F25.kp mk (LamX.lamS_by (sc := defScope s_law) (by decide +kernel)) (fun A outer s H E f c hr' => (fun tk' => (sx_callK (ok_poly_left T) fin_len (hr'.mono (by decide)) T.g19 T.F19.kp T.k19 tk' (sa_cons (sx_name 11) (sa_cons (sx_name 9) (sa_cons (sx_name 14) sa_nil))) (nA_cons (nA_cons (nA_cons nA_nil))) (sk_cons (sx_name 13) sk_nil) (nA_cons nA_nil))) (takes_of rfl rfl rfl rfl))))
      (ss_cons (ss_if (st_cmp (os_eq hr.units) (sx_name 14) (sx_tup sa_nil) (nomark _)) (ss_one (ss_if (SW.t (sw_or (st_cmp (os_ne hr.units) (sx_name 5) (sx_tup (sa_cons sx_str (sa_cons sx_non sa_nil))) (nomark _)) (sw_or1 (st_cmp (os_ne hr.units) (sx_name 6) (sx_tup (sa_cons sx_str (sa_cons sx_non sa_nil))) (nomark _))))) (ss_one (ss_ret sx_bl)) ss_nil)) (ss_cons (ss_if (st_not (st_val (sx_call (ok__law_same T) M__law_same_len (hr.mono (by decide)) T.g24 T.F24.kp T.b24 tk (sa_cons (sx_name 5) (sa_cons (sx_tup (sa_cons sx_str (sa_cons (sx_call (ok__law_put T) fin_len (hr.mono (by decide)) T.g40 T.F40.kp T.b40 tk (sa_cons (sx_name 11) (sa_cons (sx_name 12) (sa_cons (sx_name 14) (sa_cons (sx_name 13) sa_nil))))) sa_nil))) sa_nil))))) (ss_one (ss_ret sx_bl)) ss_nil)
      (ss_one (ss_if (st_not (st_val (sx_call (ok__law_same T) M__law_same_len (hr.mono (by decide)) T.g24 T.F24.kp T.b24 tk (sa_cons (sx_name 6) (sa_cons (sx_tup (sa_cons sx_str (sa_cons (sx_call (ok__law_lift T) fin_len (hr.mono (by decide)) T.g39 T.F39.kp T.b39 tk (sa_cons (sx_name 11) (sa_cons (sx_name 9) (sa_cons (sx_name 14) (sa_cons (sx_name 13) sa_nil))))) sa_nil))) sa_nil))))) (ss_one (ss_ret sx_bl)) ss_nil))))
      (ss_cons (ss_set 10 nd (sx_callI (ok__law_far T) finI_len (hr.mono (by decide)) T.g29 T.F29.kp T.b29 tk (sa_cons (sx_name 8) (sa_cons (sx_name 13) sa_nil))))
      (ss_cons (ss_set 7 nd (sx_lst (sa_cons (sx_word' (k := 6) (word_ok T) (kn_ok T) (hr.mono (by decide)) (by rfl) T.g26 T.F26.kp mk (LamX.lamS_by (sc := defScope s_law) (by decide +kernel)) (fun A outer s H E f c hr' => (fun tk' => (sx_callK (ok_poly_value T) fin_len (hr'.mono (by decide)) T.g17 T.F17.kp T.k17 tk' (sa_cons (sx_name 11) (sa_cons (sx_name 10) sa_nil)) (nA_cons (nA_cons nA_nil)) (sk_cons (sx_name 13) sk_nil) (nA_cons nA_nil))) (takes_of rfl rfl rfl rfl))) sa_nil)))
      (ss_cons (ss_expr (sx_me 7 PySem.F.slot_list_append PySem.F.type_list_append ms_append (sa_cons (sx_word2 (k := 6) (word_ok T) (kn_ok T) (hr.mono (by decide)) (by rfl) T.g26 T.F26.kp mk (LamX.lamS_by (sc := defScope s_law) (by decide +kernel)) (fun A outer s H E f c hr' => (fun tk' => (s2_callK (ok_poly_left T) fin_len (hr'.mono (by decide)) T.g19 T.F19.kp T.k19 tk' (sa_cons (sx_name 11) (sa_cons (sx_bin os_sub (sx_neg sx_int) (sx_callI (ok__law_take T) finI_len (hr'.mono (by decide)) T.g22 T.F22.kp T.b22 tk' (sa_cons (sx_name 8) (sa_cons sx_int sa_nil)))) (sa_cons (sx_tup sa_nil) sa_nil))) (nA_cons (nA_cons (nA_cons nA_nil))) (sk_cons (sx_name 13) sk_nil) (nA_cons nA_nil))) (takes_of rfl rfl rfl rfl))) sa_nil)))
      (ss_one (ss_if (st_cmp (os_ne hr.units) (sx_name 7) (sx_lst (sa_cons sx_str (sa_cons sx_str sa_nil))) (nomark _)) (ss_one (ss_ret sx_bl)) ss_nil))))))))))))))))
      (ss_one (ss_ret (sx_and (sx_cmp (os_eq hr.units) (sx_callD (ok_poly_value T) fin_len (hr.mono (by decide)) T.g17 T.F17.kp T.e17 tk (sa_cons (sx_tup (sa_cons sx_int (sa_cons sx_int sa_nil))) (sa_cons sx_int sa_nil))) sx_int (nomark _)) (sx_one (sx_cmp (os_eq hr.units) (sx_callD (ok_poly_put T) fin_len (hr.mono (by decide)) T.g18 T.F18.kp T.e18 tk (sa_cons (sx_tup (sa_cons sx_int (sa_cons sx_int sa_nil))) (sa_cons (sx_tup (sa_cons sx_int (sa_cons sx_int sa_nil))) (sa_cons (sx_tup (sa_cons sx_int (sa_cons sx_int (sa_cons sx_int sa_nil)))) sa_nil)))) (sx_tup (sa_cons sx_int (sa_cons sx_int sa_nil))) (nomark _))))))))
end
end K05
namespace Mn
open PySem Rg Rm
def pe (n : Int) : List Int → Int
  | [] => 0
  | c :: a => c + n * pe n a
theorem w_worth (n p : Int) (hp : 0 < p) (hp2 : p ≤ 1000) (hn : 0 ≤ n ∧ n < p) (S0 : Sl) : ∀ (a w : List Int) (s4 : Sl), ∃ s4', mForL (gN 4) Fb_worth_at_1 (a.map D.int) [S0, .v (.int n), .v (.int p), .v (.int (pe n w % p)), s4] = .ok (.nx [S0, .v (.int n), .v (.int p), .v (.int (pe n (a.reverse ++ w) % p)), s4'])
  | [], w, s4 => ⟨s4, rfl⟩
  | c :: a, w, s4 => by
    obtain ⟨s4', ih⟩ := w_worth n p hp hp2 hn S0 a (c :: w) (.v (.int c))
    refine ⟨s4', ?_⟩
    have hm := fMul_sm (i := pe n w % p) (j := n) (by omega) (by omega)
    have e : (pe n w % p * n + c) % p = pe n (c :: w) % p := by
      rw [pe, Int.add_emod, Int.mul_emod, Int.emod_emod_of_dvd _ (Int.dvd_refl p), ← Int.mul_emod, ← Int.add_emod]
      congr 1
      grind
    have hb : Fb_worth_at_1 [S0, .v (.int n), .v (.int p), .v (.int (pe n w % p)), .v (.int c)] = .ok (.nx [S0, .v (.int n), .v (.int p), .v (.int (pe n (c :: w) % p)), .v (.int c)]) := by
      simp only [Fb_worth_at_1, Nw.lf, lf, lfA_ints, SZ, Nat.reduceLeDiff, z1, z2, z3, z4, z5, z6, z7, z8, z9, z10, z11, z12, z13, z14, z15, z16, z17, z18, z19, z20, z21, z22, z23, z24, Nat.zero_le, fin, finI, mSeq, mIf, mRet, mRetN, mDrop, mSet, mAsg, mPar, mAug, mSetIx, mMe, mFor, mIs, mEn, mZa, mN, mK, mA0, mA1, mB, mT, mAnd, mOr, mNot, mAndV, mOrV, mNotV, mIfE, mCh, mTup, mLst, mFz1, mFzA, fzL, fz1, mCall, mCallI, mAp, mAd, mNeg, mYes, mLc, mNx, mBad, mRaise, mBk, mCt, stB, gN, gs0, gs1, gT, rsA, rs, allV, BV.fz, Nw.bv, R.bind, nox, gt, two, fAdd_int, fSub, fCmp, fLen, fList, fTuple, fInt, fAbs, fMax, fMin, fIx, fSlH, fSlL, fSl, fRev, fIs, fNeg, isNon, Option.bind_some, Option.map_some, List.set_cons_zero, List.set_cons_succ, List.map_cons, List.map_nil, List.cons_append, List.nil_append, List.replicate, List.length_cons, List.length_nil, Nat.zero_add, Nat.reduceAdd, if_true, ite_true, reduceIte, wipeE, Bool.true_or, Bool.false_or, Bool.true_and, Bool.false_and, Bool.not_true, Bool.not_false, Bool.false_eq_true, if_false, hm, fMod_pos hp, e]
    rw [List.map_cons, mForL_cons (Γ1 := [S0, .v (.int n), .v (.int p), .v (.int (pe n w % p)), .v (.int c)]) rfl hb, ih]
    simp
theorem e_worth_at (a : List Int) (n p : Int) (hp : 0 < p) (hp2 : p ≤ 1000) (hn : 0 ≤ n ∧ n < p) : M_worth_at [.tup (a.map D.int), .int n, .int p] = .ok (.v (.int (pe n a % p))) := by
  obtain ⟨s4', hw⟩ := w_worth n p hp hp2 hn (.v (.tup (a.map D.int))) a.reverse [] .no
  rw [List.reverse_reverse, List.append_nil, List.map_reverse] at hw
  have e0 : pe n [] % p = 0 := by simp [pe]
  rw [e0] at hw
  simp only [M_worth_at, B_worth_at, Nw.lf, lf, lfA_ints, SZ, Nat.reduceLeDiff, z1, z2, z3, z4, z5, z6, z7, z8, z9, z10, z11, z12, z13, z14, z15, z16, z17, z18, z19, z20, z21, z22, z23, z24, Nat.zero_le, fin, finI, mSeq, mIf, mRet, mRetN, mDrop, mSet, mAsg, mPar, mAug, mSetIx, mMe, mFor, mIs, mEn, mZa, mN, mK, mA0, mA1, mB, mT, mAnd, mOr, mNot, mAndV, mOrV, mNotV, mIfE, mCh, mTup, mLst, mFz1, mFzA, fzL, fz1, mCall, mCallI, mAp, mAd, mNeg, mYes, mLc, mNx, mBad, mRaise, mBk, mCt, stB, gN, gs0, gs1, gT, rsA, rs, allV, BV.fz, Nw.bv, R.bind, nox, gt, two, fAdd_int, fSub, fCmp, fLen, fList, fTuple, fInt, fAbs, fMax, fMin, fIx, fSlH, fSlL, fSl, fRev, fIs, fNeg, isNon, Option.bind_some, Option.map_some, List.set_cons_zero, List.set_cons_succ, List.map_cons, List.map_nil, List.cons_append, List.nil_append, List.replicate, List.length_cons, List.length_nil, Nat.zero_add, Nat.reduceAdd, if_true, ite_true, reduceIte, wipeE, Bool.true_or, Bool.false_or, Bool.true_and, Bool.false_and, Bool.not_true, Bool.not_false, Bool.false_eq_true, if_false, hw]
theorem w_lworth (n p : Int) (hp : 0 < p) (hp2 : p ≤ 1000) (hn : 0 ≤ n ∧ n < p) (S0 : Sl) : ∀ (a : List Int) (f w : Int) (s5 : Sl), 0 ≤ w ∧ w ≤ p → ∃ s4' s5', mForL (gN 5) Fb__law_worth_1 (a.map D.int) [S0, .v (.int n), .v (.int p), .v (.int (f % p)), .v (.int w), s5] = .ok (.nx [S0, .v (.int n), .v (.int p), .v (.int ((f + w * pe n a) % p)), s4', s5'])
  | [], f, w, s5, hw => ⟨_, s5, by simp [pe, mForL]; rfl⟩
  | c :: a, f, w, s5, hw => by
    have hb0 := mod_bd hp (w * n)
    obtain ⟨s4', s5', ih⟩ := w_lworth n p hp hp2 hn S0 a (f + c * w) (w * n % p) (.v (.int c)) (by omega)
    refine ⟨s4', s5', ?_⟩
    have h1 := fMul_sm (i := c) (j := w) (by omega) (by omega)
    have h2 := fMul_sm (i := w) (j := n) (by omega) (by omega)
    have e : (f % p + c * w) % p = (f + c * w) % p := by rw [Int.emod_add_emod]
    have hb : Fb__law_worth_1 [S0, .v (.int n), .v (.int p), .v (.int (f % p)), .v (.int w), .v (.int c)] = .ok (.nx [S0, .v (.int n), .v (.int p), .v (.int ((f + c * w) % p)), .v (.int (w * n % p)), .v (.int c)]) := by
      simp only [Fb__law_worth_1, Nw.lf, lf, lfA_ints, SZ, Nat.reduceLeDiff, z1, z2, z3, z4, z5, z6, z7, z8, z9, z10, z11, z12, z13, z14, z15, z16, z17, z18, z19, z20, z21, z22, z23, z24, Nat.zero_le, fin, finI, mSeq, mIf, mRet, mRetN, mDrop, mSet, mAsg, mPar, mAug, mSetIx, mMe, mFor, mIs, mEn, mZa, mN, mK, mA0, mA1, mB, mT, mAnd, mOr, mNot, mAndV, mOrV, mNotV, mIfE, mCh, mTup, mLst, mFz1, mFzA, fzL, fz1, mCall, mCallI, mAp, mAd, mNeg, mYes, mLc, mNx, mBad, mRaise, mBk, mCt, stB, gN, gs0, gs1, gT, rsA, rs, allV, BV.fz, Nw.bv, R.bind, nox, gt, two, fAdd_int, fSub, fCmp, fLen, fList, fTuple, fInt, fAbs, fMax, fMin, fIx, fSlH, fSlL, fSl, fRev, fIs, fNeg, isNon, Option.bind_some, Option.map_some, List.set_cons_zero, List.set_cons_succ, List.map_cons, List.map_nil, List.cons_append, List.nil_append, List.replicate, List.length_cons, List.length_nil, Nat.zero_add, Nat.reduceAdd, if_true, ite_true, reduceIte, wipeE, Bool.true_or, Bool.false_or, Bool.true_and, Bool.false_and, Bool.not_true, Bool.not_false, Bool.false_eq_true, if_false, h1, h2, fMod_pos hp, e]
    rw [List.map_cons, mForL_cons (Γ1 := [S0, .v (.int n), .v (.int p), .v (.int (f % p)), .v (.int w), .v (.int c)]) rfl hb, ih]
    have e2 : (f + c * w + w * n % p * pe n a) % p = (f + w * pe n (c :: a)) % p := by
      rw [pe, Int.add_emod, Int.mul_emod, Int.emod_emod_of_dvd _ (Int.dvd_refl p), ← Int.mul_emod, ← Int.add_emod]
      congr 1
      grind
    rw [e2]
theorem e__law_worth (a : List Int) (n p : Int) (hp : 0 < p) (hp2 : p ≤ 1000) (hn : 0 ≤ n ∧ n < p) : M__law_worth [.tup (a.map D.int), .int n, .int p] = .ok (.v (.int (pe n a % p))) := by
  obtain ⟨s4', s5', hw⟩ := w_lworth n p hp hp2 hn (.v (.tup (a.map D.int))) a 0 1 .no (by omega)
  have e0 : (0 : Int) % p = 0 := by simp
  have e1 : (0 + 1 * pe n a) % p = pe n a % p := by simp
  rw [e0, e1] at hw
  simp only [M__law_worth, B__law_worth, Nw.lf, lf, lfA_ints, SZ, Nat.reduceLeDiff, z1, z2, z3, z4, z5, z6, z7, z8, z9, z10, z11, z12, z13, z14, z15, z16, z17, z18, z19, z20, z21, z22, z23, z24, Nat.zero_le, fin, finI, mSeq, mIf, mRet, mRetN, mDrop, mSet, mAsg, mPar, mAug, mSetIx, mMe, mFor, mIs, mEn, mZa, mN, mK, mA0, mA1, mB, mT, mAnd, mOr, mNot, mAndV, mOrV, mNotV, mIfE, mCh, mTup, mLst, mFz1, mFzA, fzL, fz1, mCall, mCallI, mAp, mAd, mNeg, mYes, mLc, mNx, mBad, mRaise, mBk, mCt, stB, gN, gs0, gs1, gT, rsA, rs, allV, BV.fz, Nw.bv, R.bind, nox, gt, two, fAdd_int, fSub, fCmp, fLen, fList, fTuple, fInt, fAbs, fMax, fMin, fIx, fSlH, fSlL, fSl, fRev, fIs, fNeg, isNon, Option.bind_some, Option.map_some, List.set_cons_zero, List.set_cons_succ, List.map_cons, List.map_nil, List.cons_append, List.nil_append, List.replicate, List.length_cons, List.length_nil, Nat.zero_add, Nat.reduceAdd, if_true, ite_true, reduceIte, wipeE, Bool.true_or, Bool.false_or, Bool.true_and, Bool.false_and, Bool.not_true, Bool.not_false, Bool.false_eq_true, if_false, hw]
theorem e_poly_value (a : List Int) (n p : Int) (hp : p ∈ k_PRIMES) (ha : Po p a) (la : a.length ≤ 25) (hn : 0 ≤ n ∧ n < p) : M_poly_value [.tup (a.map D.int), .int n, .int p] = .ok (.v (.int (pe n a % p))) := by
  have h2 := pr_le p hp
  have h1 := e_need_polys [a] p hp (by simp) (by simp; exact ⟨ha, la⟩)
  simp only [List.map_cons, List.map_nil] at h1
  have hr := e_is_rest n p
  have hd : (decide (0 ≤ n) && decide (n < p)) = true := by simp; omega
  simp only [M_poly_value, B_poly_value, Nw.lf, lf, lfA_ints, SZ, Nat.reduceLeDiff, z1, z2, z3, z4, z5, z6, z7, z8, z9, z10, z11, z12, z13, z14, z15, z16, z17, z18, z19, z20, z21, z22, z23, z24, Nat.zero_le, fin, finI, mSeq, mIf, mRet, mRetN, mDrop, mSet, mAsg, mPar, mAug, mSetIx, mMe, mFor, mIs, mEn, mZa, mN, mK, mA0, mA1, mB, mT, mAnd, mOr, mNot, mAndV, mOrV, mNotV, mIfE, mCh, mTup, mLst, mFz1, mFzA, fzL, fz1, mCall, mCallI, mAp, mAd, mNeg, mYes, mLc, mNx, mBad, mRaise, mBk, mCt, stB, gN, gs0, gs1, gT, rsA, rs, allV, BV.fz, Nw.bv, R.bind, nox, gt, two, fAdd_int, fSub, fCmp, fLen, fList, fTuple, fInt, fAbs, fMax, fMin, fIx, fSlH, fSlL, fSl, fRev, fIs, fNeg, isNon, Option.bind_some, Option.map_some, List.set_cons_zero, List.set_cons_succ, List.map_cons, List.map_nil, List.cons_append, List.nil_append, List.replicate, List.length_cons, List.length_nil, Nat.zero_add, Nat.reduceAdd, if_true, ite_true, reduceIte, wipeE, Bool.true_or, Bool.false_or, Bool.true_and, Bool.false_and, Bool.not_true, Bool.not_false, Bool.false_eq_true, if_false, h1, hr, hd, e_worth_at a n p (by omega) (by omega) hn]
theorem y_poly_value (a : List Int) (n p : Int) (hp : p ∈ k_PRIMES) (ha : Po p a) (la : a.length ≤ 25) (hn : ¬ (0 ≤ n ∧ n < p)) : M_poly_value [.tup (a.map D.int), .int n, .int p] = .exc "BadRest" [("word", .str "BadRest")] := by
  have h1 := e_need_polys [a] p hp (by simp) (by simp; exact ⟨ha, la⟩)
  simp only [List.map_cons, List.map_nil] at h1
  have hr := e_is_rest n p
  have hd : (decide (0 ≤ n) && decide (n < p)) = false := by
    cases q : (decide (0 ≤ n) && decide (n < p)) with
    | false => rfl
    | true => simp at q; exact absurd q hn
  simp only [M_poly_value, B_poly_value, Nw.lf, lf, lfA_ints, SZ, Nat.reduceLeDiff, z1, z2, z3, z4, z5, z6, z7, z8, z9, z10, z11, z12, z13, z14, z15, z16, z17, z18, z19, z20, z21, z22, z23, z24, Nat.zero_le, fin, finI, mSeq, mIf, mRet, mRetN, mDrop, mSet, mAsg, mPar, mAug, mSetIx, mMe, mFor, mIs, mEn, mZa, mN, mK, mA0, mA1, mB, mT, mAnd, mOr, mNot, mAndV, mOrV, mNotV, mIfE, mCh, mTup, mLst, mFz1, mFzA, fzL, fz1, mCall, mCallI, mAp, mAd, mNeg, mYes, mLc, mNx, mBad, mRaise, mBk, mCt, stB, gN, gs0, gs1, gT, rsA, rs, allV, BV.fz, Nw.bv, R.bind, nox, gt, two, fAdd_int, fSub, fCmp, fLen, fList, fTuple, fInt, fAbs, fMax, fMin, fIx, fSlH, fSlL, fSl, fRev, fIs, fNeg, isNon, Option.bind_some, Option.map_some, List.set_cons_zero, List.set_cons_succ, List.map_cons, List.map_nil, List.cons_append, List.nil_append, List.replicate, List.length_cons, List.length_nil, Nat.zero_add, Nat.reduceAdd, if_true, ite_true, reduceIte, wipeE, Bool.true_or, Bool.false_or, Bool.true_and, Bool.false_and, Bool.not_true, Bool.not_false, Bool.false_eq_true, if_false, h1, hr, hd]
  rfl
theorem cutD_drop (xs : List D) : cutD xs (some 1) none = xs.drop 1 := by
  cases xs with
  | nil => rfl
  | cons x xs =>
    have e : HT.sIx (x :: xs).length 0 (some 1) = 1 := by simp [HT.sIx]
    have e2 : HT.sIx (x :: xs).length (x :: xs).length none = (x :: xs).length := rfl
    unfold cutD
    rw [e, e2]
    simp
def slp (p : Int) (a : List Int) : List Int := ((a.zipIdx).map fun x => ((x.2 : Int) * x.1 % p)).drop 1
theorem e_sloped (a : List Int) (p : Int) (hp : 0 < p) (la : a.length ≤ 500) : M_sloped [.tup (a.map D.int), .int p] = .ok (.v (.tup ((trim (slp p a)).map D.int))) := by
  have hc := e_cutL (slp p a) (by simp [slp]; omega)
  have hl := mLc_map (fun x : Int × Nat => .tup [.int (x.2 : Int), .int x.1]) (fun x => .int ((x.2 : Int) * x.1 % p)) a.zipIdx (mi := mEn (mA1 (mN 0) mA0)) (f := gT 2 (gs1 (gN 2) (gs1 (gN 3) gs0))) (e := Le_sloped_1) (vs := [2, 3])
    (Γ := [.v (.tup (a.map D.int)), .v (.int p), .no, .no]) (Γ1 := [.v (.tup (a.map D.int)), .v (.int p), .no, .no])
    (by simp only [Nw.lf, lf, lfA_ints, SZ, Nat.reduceLeDiff, z1, z2, z3, z4, z5, z6, z7, z8, z9, z10, z11, z12, z13, z14, z15, z16, z17, z18, z19, z20, z21, z22, z23, z24, Nat.zero_le, fin, finI, mSeq, mIf, mRet, mRetN, mDrop, mSet, mAsg, mPar, mAug, mSetIx, mMe, mFor, mIs, mEn, mZa, mN, mK, mA0, mA1, mB, mT, mAnd, mOr, mNot, mAndV, mOrV, mNotV, mIfE, mCh, mTup, mLst, mFz1, mFzA, fzL, fz1, mCall, mCallI, mAp, mAd, mNeg, mYes, mLc, mNx, mBad, mRaise, mBk, mCt, stB, gN, gs0, gs1, gT, rsA, rs, allV, BV.fz, Nw.bv, R.bind, nox, gt, two, fAdd_int, fSub, fCmp, fLen, fList, fTuple, fInt, fAbs, fMax, fMin, fIx, fSlH, fSlL, fSl, fRev, fIs, fNeg, isNon, Option.bind_some, Option.map_some, List.set_cons_zero, List.set_cons_succ, List.map_cons, List.map_nil, List.cons_append, List.nil_append, List.replicate, List.length_cons, List.length_nil, Nat.zero_add, Nat.reduceAdd, if_true, ite_true, reduceIte, wipeE, Bool.true_or, Bool.false_or, Bool.true_and, Bool.false_and, Bool.not_true, Bool.not_false, Bool.false_eq_true, if_false, enumD_map]) (by simp; omega)
    (fun x hx => by
      have hb : x.2 < a.length := by
        have := List.snd_lt_of_mem_zipIdx hx
        simpa using this
      have hm := fMul_sml (i := (x.2 : Int)) (j := x.1) (by omega) (by omega)
      exact ⟨_, _, rfl, by simp only [Le_sloped_1, Nw.lf, lf, lfA_ints, SZ, Nat.reduceLeDiff, z1, z2, z3, z4, z5, z6, z7, z8, z9, z10, z11, z12, z13, z14, z15, z16, z17, z18, z19, z20, z21, z22, z23, z24, Nat.zero_le, fin, finI, mSeq, mIf, mRet, mRetN, mDrop, mSet, mAsg, mPar, mAug, mSetIx, mMe, mFor, mIs, mEn, mZa, mN, mK, mA0, mA1, mB, mT, mAnd, mOr, mNot, mAndV, mOrV, mNotV, mIfE, mCh, mTup, mLst, mFz1, mFzA, fzL, fz1, mCall, mCallI, mAp, mAd, mNeg, mYes, mLc, mNx, mBad, mRaise, mBk, mCt, stB, gN, gs0, gs1, gT, rsA, rs, allV, BV.fz, Nw.bv, R.bind, nox, gt, two, fAdd_int, fSub, fCmp, fLen, fList, fTuple, fInt, fAbs, fMax, fMin, fIx, fSlH, fSlL, fSl, fRev, fIs, fNeg, isNon, Option.bind_some, Option.map_some, List.set_cons_zero, List.set_cons_succ, List.map_cons, List.map_nil, List.cons_append, List.nil_append, List.replicate, List.length_cons, List.length_nil, Nat.zero_add, Nat.reduceAdd, if_true, ite_true, reduceIte, wipeE, Bool.true_or, Bool.false_or, Bool.true_and, Bool.false_and, Bool.not_true, Bool.not_false, Bool.false_eq_true, if_false, hm, fMod_pos hp]; rfl, by rfl⟩)
  have hz : a.zipIdx.map (fun x => D.int ((x.2 : Int) * x.1 % p)) = (a.zipIdx.map fun x => ((x.2 : Int) * x.1 % p)).map D.int := by rw [List.map_map]; rfl
  rw [hz] at hl
  have hd : cutD ((a.zipIdx.map fun x => ((x.2 : Int) * x.1 % p)).map D.int) (some 1) none = (slp p a).map D.int := by rw [cutD_drop, slp, List.map_drop]
  simp only [mLc, Nw.lf, lf, lfA_ints, SZ, Nat.reduceLeDiff, z1, z2, z3, z4, z5, z6, z7, z8, z9, z10, z11, z12, z13, z14, z15, z16, z17, z18, z19, z20, z21, z22, z23, z24, Nat.zero_le, fin, finI, mSeq, mIf, mRet, mRetN, mDrop, mSet, mAsg, mPar, mAug, mSetIx, mMe, mFor, mIs, mEn, mZa, mN, mK, mA0, mA1, mB, mT, mAnd, mOr, mNot, mAndV, mOrV, mNotV, mIfE, mCh, mTup, mLst, mFz1, mFzA, fzL, fz1, mCall, mCallI, mAp, mAd, mNeg, mYes, mLc, mNx, mBad, mRaise, mBk, mCt, stB, gN, gs0, gs1, gT, rsA, rs, allV, BV.fz, Nw.bv, R.bind, nox, gt, two, fAdd_int, fSub, fCmp, fLen, fList, fTuple, fInt, fAbs, fMax, fMin, fIx, fSlH, fSlL, fSl, fRev, fIs, fNeg, isNon, Option.bind_some, Option.map_some, List.set_cons_zero, List.set_cons_succ, List.map_cons, List.map_nil, List.cons_append, List.nil_append, List.replicate, List.length_cons, List.length_nil, Nat.zero_add, Nat.reduceAdd, if_true, ite_true, reduceIte, wipeE, Bool.true_or, Bool.false_or, Bool.true_and, Bool.false_and, Bool.not_true, Bool.not_false, Bool.false_eq_true, if_false] at hl
  simp only [M_sloped, B_sloped, Nw.lf, lf, lfA_ints, SZ, Nat.reduceLeDiff, z1, z2, z3, z4, z5, z6, z7, z8, z9, z10, z11, z12, z13, z14, z15, z16, z17, z18, z19, z20, z21, z22, z23, z24, Nat.zero_le, fin, finI, mSeq, mIf, mRet, mRetN, mDrop, mSet, mAsg, mPar, mAug, mSetIx, mMe, mFor, mIs, mEn, mZa, mN, mK, mA0, mA1, mB, mT, mAnd, mOr, mNot, mAndV, mOrV, mNotV, mIfE, mCh, mTup, mLst, mFz1, mFzA, fzL, fz1, mCall, mCallI, mAp, mAd, mNeg, mYes, mLc, mNx, mBad, mRaise, mBk, mCt, stB, gN, gs0, gs1, gT, rsA, rs, allV, BV.fz, Nw.bv, R.bind, nox, gt, two, fAdd_int, fSub, fCmp, fLen, fList, fTuple, fInt, fAbs, fMax, fMin, fIx, fSlH, fSlL, fSl, fRev, fIs, fNeg, isNon, Option.bind_some, Option.map_some, List.set_cons_zero, List.set_cons_succ, List.map_cons, List.map_nil, List.cons_append, List.nil_append, List.replicate, List.length_cons, List.length_nil, Nat.zero_add, Nat.reduceAdd, if_true, ite_true, reduceIte, wipeE, Bool.true_or, Bool.false_or, Bool.true_and, Bool.false_and, Bool.not_true, Bool.not_false, Bool.false_eq_true, if_false, hl, hd, hc]
theorem e_poly_slope (a : List Int) (p : Int) (hp : p ∈ k_PRIMES) (ha : Po p a) (la : a.length ≤ 25) : M_poly_slope [.tup (a.map D.int), .int p] = .ok (.v (.tup ((trim (slp p a)).map D.int))) := by
  have h2 := pr_le p hp
  have h1 := e_need_polys [a] p hp (by simp) (by simp; exact ⟨ha, la⟩)
  simp only [List.map_cons, List.map_nil] at h1
  simp only [M_poly_slope, B_poly_slope, Nw.lf, lf, lfA_ints, SZ, Nat.reduceLeDiff, z1, z2, z3, z4, z5, z6, z7, z8, z9, z10, z11, z12, z13, z14, z15, z16, z17, z18, z19, z20, z21, z22, z23, z24, Nat.zero_le, fin, finI, mSeq, mIf, mRet, mRetN, mDrop, mSet, mAsg, mPar, mAug, mSetIx, mMe, mFor, mIs, mEn, mZa, mN, mK, mA0, mA1, mB, mT, mAnd, mOr, mNot, mAndV, mOrV, mNotV, mIfE, mCh, mTup, mLst, mFz1, mFzA, fzL, fz1, mCall, mCallI, mAp, mAd, mNeg, mYes, mLc, mNx, mBad, mRaise, mBk, mCt, stB, gN, gs0, gs1, gT, rsA, rs, allV, BV.fz, Nw.bv, R.bind, nox, gt, two, fAdd_int, fSub, fCmp, fLen, fList, fTuple, fInt, fAbs, fMax, fMin, fIx, fSlH, fSlL, fSl, fRev, fIs, fNeg, isNon, Option.bind_some, Option.map_some, List.set_cons_zero, List.set_cons_succ, List.map_cons, List.map_nil, List.cons_append, List.nil_append, List.replicate, List.length_cons, List.length_nil, Nat.zero_add, Nat.reduceAdd, if_true, ite_true, reduceIte, wipeE, Bool.true_or, Bool.false_or, Bool.true_and, Bool.false_and, Bool.not_true, Bool.not_false, Bool.false_eq_true, if_false, h1, e_sloped a p (by omega) (by omega)]
theorem z_poly_put (a b : List Int) (p : Int) (hp : p ∈ k_PRIMES) (ha : Po p a) (hb : Po p b) (la : a.length ≤ 25) (lb : b.length ≤ 25) : M_poly_put [.tup (a.map D.int), .tup (b.map D.int), .tup [], .int p] = .exc "NoInverse" [("word", .str "NoInverse")] := by
  have h1 := e_need_polys [a, b, []] p hp (by simp) (by simp; exact ⟨⟨ha, la⟩, ⟨hb, lb⟩, Rq.po_nil⟩)
  simp only [List.map_cons, List.map_nil] at h1
  simp only [M_poly_put, B_poly_put, Nw.lf, lf, lfA_ints, SZ, Nat.reduceLeDiff, z1, z2, z3, z4, z5, z6, z7, z8, z9, z10, z11, z12, z13, z14, z15, z16, z17, z18, z19, z20, z21, z22, z23, z24, Nat.zero_le, fin, finI, mSeq, mIf, mRet, mRetN, mDrop, mSet, mAsg, mPar, mAug, mSetIx, mMe, mFor, mIs, mEn, mZa, mN, mK, mA0, mA1, mB, mT, mAnd, mOr, mNot, mAndV, mOrV, mNotV, mIfE, mCh, mTup, mLst, mFz1, mFzA, fzL, fz1, mCall, mCallI, mAp, mAd, mNeg, mYes, mLc, mNx, mBad, mRaise, mBk, mCt, stB, gN, gs0, gs1, gT, rsA, rs, allV, BV.fz, Nw.bv, R.bind, nox, gt, two, fAdd_int, fSub, fCmp, fLen, fList, fTuple, fInt, fAbs, fMax, fMin, fIx, fSlH, fSlL, fSl, fRev, fIs, fNeg, isNon, Option.bind_some, Option.map_some, List.set_cons_zero, List.set_cons_succ, List.map_cons, List.map_nil, List.cons_append, List.nil_append, List.replicate, List.length_cons, List.length_nil, Nat.zero_add, Nat.reduceAdd, if_true, ite_true, reduceIte, wipeE, Bool.true_or, Bool.false_or, Bool.true_and, Bool.false_and, Bool.not_true, Bool.not_false, Bool.false_eq_true, if_false, h1, fEq_nn]
  rfl
theorem z_poly_left (a : List Int) (p e : Int) (hp : p ∈ k_PRIMES) (ha : Po p a) (la : a.length ≤ 25) (he : 0 ≤ e) : M_poly_left [.tup (a.map D.int), .int e, .tup [], .int p] = .exc "NoInverse" [("word", .str "NoInverse")] := by
  have h1 := e_need_polys [a, []] p hp (by simp) (by simp; exact ⟨⟨ha, la⟩, Rq.po_nil⟩)
  simp only [List.map_cons, List.map_nil] at h1
  have hd : decide (e < 0) = false := decide_eq_false (by omega)
  simp only [M_poly_left, B_poly_left, Nw.lf, lf, lfA_ints, SZ, Nat.reduceLeDiff, z1, z2, z3, z4, z5, z6, z7, z8, z9, z10, z11, z12, z13, z14, z15, z16, z17, z18, z19, z20, z21, z22, z23, z24, Nat.zero_le, fin, finI, mSeq, mIf, mRet, mRetN, mDrop, mSet, mAsg, mPar, mAug, mSetIx, mMe, mFor, mIs, mEn, mZa, mN, mK, mA0, mA1, mB, mT, mAnd, mOr, mNot, mAndV, mOrV, mNotV, mIfE, mCh, mTup, mLst, mFz1, mFzA, fzL, fz1, mCall, mCallI, mAp, mAd, mNeg, mYes, mLc, mNx, mBad, mRaise, mBk, mCt, stB, gN, gs0, gs1, gT, rsA, rs, allV, BV.fz, Nw.bv, R.bind, nox, gt, two, fAdd_int, fSub, fCmp, fLen, fList, fTuple, fInt, fAbs, fMax, fMin, fIx, fSlH, fSlL, fSl, fRev, fIs, fNeg, isNon, Option.bind_some, Option.map_some, List.set_cons_zero, List.set_cons_succ, List.map_cons, List.map_nil, List.cons_append, List.nil_append, List.replicate, List.length_cons, List.length_nil, Nat.zero_add, Nat.reduceAdd, if_true, ite_true, reduceIte, wipeE, Bool.true_or, Bool.false_or, Bool.true_and, Bool.false_and, Bool.not_true, Bool.not_false, Bool.false_eq_true, if_false, h1, hd, fEq_nn]
  rfl
theorem y_poly_left (a : List Int) (p e : Int) (hp : p ∈ k_PRIMES) (ha : Po p a) (la : a.length ≤ 25) (he : e < 0) : M_poly_left [.tup (a.map D.int), .int e, .tup [], .int p] = .exc "BadNumber" [("word", .str "BadNumber")] := by
  have h1 := e_need_polys [a, []] p hp (by simp) (by simp; exact ⟨⟨ha, la⟩, Rq.po_nil⟩)
  simp only [List.map_cons, List.map_nil] at h1
  have hd : decide (e < 0) = true := decide_eq_true he
  simp only [M_poly_left, B_poly_left, Nw.lf, lf, lfA_ints, SZ, Nat.reduceLeDiff, z1, z2, z3, z4, z5, z6, z7, z8, z9, z10, z11, z12, z13, z14, z15, z16, z17, z18, z19, z20, z21, z22, z23, z24, Nat.zero_le, fin, finI, mSeq, mIf, mRet, mRetN, mDrop, mSet, mAsg, mPar, mAug, mSetIx, mMe, mFor, mIs, mEn, mZa, mN, mK, mA0, mA1, mB, mT, mAnd, mOr, mNot, mAndV, mOrV, mNotV, mIfE, mCh, mTup, mLst, mFz1, mFzA, fzL, fz1, mCall, mCallI, mAp, mAd, mNeg, mYes, mLc, mNx, mBad, mRaise, mBk, mCt, stB, gN, gs0, gs1, gT, rsA, rs, allV, BV.fz, Nw.bv, R.bind, nox, gt, two, fAdd_int, fSub, fCmp, fLen, fList, fTuple, fInt, fAbs, fMax, fMin, fIx, fSlH, fSlL, fSl, fRev, fIs, fNeg, isNon, Option.bind_some, Option.map_some, List.set_cons_zero, List.set_cons_succ, List.map_cons, List.map_nil, List.cons_append, List.nil_append, List.replicate, List.length_cons, List.length_nil, Nat.zero_add, Nat.reduceAdd, if_true, ite_true, reduceIte, wipeE, Bool.true_or, Bool.false_or, Bool.true_and, Bool.false_and, Bool.not_true, Bool.not_false, Bool.false_eq_true, if_false, h1, hd]
  rfl
theorem w_lift (r : List Int) (p : Int) (hp : p ∈ k_PRIMES) (hr : Po p r) (hr0 : r ≠ []) (lr : r.length ≤ 100) (S0 S1 : Sl) : ∀ (n e : Nat) (ds : List D) (f b : List Int) (F B : Rq.Sr p) (s7 : Sl), e < 2 ^ n → ds.length = n → Lf p r F f → Lf p r B b →
    ∃ t s5 s6 s7', Lf p r (F * B ^ e) t ∧ mForL (gN 7) Fb__law_lift_1 ds [S0, S1, .v (.tup (r.map D.int)), .v (.int p), .v (.tup (f.map D.int)), .v (.tup (b.map D.int)), .v (.int e), s7] = .ok (.nx [S0, S1, .v (.tup (r.map D.int)), .v (.int p), .v (.tup (t.map D.int)), s5, s6, s7']) := by
  have h2 := pr_le p hp
  intro n
  induction n with
  | zero =>
    intro e ds f b F B s7 he hl h1 h3
    have : e = 0 := by simpa using he
    subst this
    have : ds = [] := List.eq_nil_of_length_eq_zero hl
    subst this
    refine ⟨f, _, _, s7, ?_, rfl⟩
    have : F * B ^ 0 = F := by rw [Rq.pow_z]; grind
    rw [this]; exact h1
  | succ n ih =>
    intro e ds f b F B s7 he hl h1 h3
    match ds, hl with
    | d :: ds, hl =>
      have hl : ds.length = n := by simpa using hl
      have lf := h1.l
      have lb := h3.l
      have mf := e__law_mul f b p (by omega) (fun x hx => by have := h1.po.r x hx; omega) (by omega) (by omega)
      have mb := e__law_mul b b p (by omega) (fun x hx => by have := h3.po.r x hx; omega) (by omega) (by omega)
      have rf := e__law_rem (mulP p f b) r p hp (Po.mulP (by omega) ..) hr hr0 (by have := mulP_length_le p f b; omega) (by omega)
      have rb := e__law_rem (mulP p b b) r p hp (Po.mulP (by omega) ..) hr hr0 (by have := mulP_length_le p b b; omega) (by omega)
      have Lb := Lf.mul hp hr hr0 h3 h3
      have hdv : fDiv [.int e, .int 2] = some (.v (.int ((e / 2 : Nat) : Int))) := by rw [fDiv_pos (by omega) (by omega)]; rfl
      have hmd : fMod [.int e, .int 2] = some (.v (.int ((e % 2 : Nat) : Int))) := by rw [fMod_pos (by omega)]; rfl
      have step : ∃ f' F' b' B', Lf p r F' f' ∧ Lf p r B' b' ∧ F * B ^ e = F' * B' ^ (e / 2) ∧ Fb__law_lift_1 [S0, S1, .v (.tup (r.map D.int)), .v (.int p), .v (.tup (f.map D.int)), .v (.tup (b.map D.int)), .v (.int e), .v d] = .ok (.nx [S0, S1, .v (.tup (r.map D.int)), .v (.int p), .v (.tup (f'.map D.int)), .v (.tup (b'.map D.int)), .v (.int ((e / 2 : Nat) : Int)), .v d]) := by
        by_cases od : e % 2 = 1
        · have Lf' := Lf.mul hp hr hr0 h1 h3
          have hd : decide (((e % 2 : Nat) : Int) = 1) = true := by simp; omega
          have e1 : F * B ^ e = F * B * (B * B) ^ (e / 2) := by
            rw [Rq.pow_sq]
            conv => lhs; rw [show e = 2 * (e / 2) + 1 by omega, Rq.pow_s]
            grind
          by_cases z : e / 2 = 0
          · refine ⟨_, _, b, B, Lf', h3, ?_, ?_⟩
            · rw [e1, z, Rq.pow_z, Rq.pow_z]
            · have hz : decide ((0 : Int) < ((e / 2 : Nat) : Int)) = false := decide_eq_false (by omega)
              simp only [Fb__law_lift_1, Nw.lf, lf, lfA_ints, SZ, Nat.reduceLeDiff, z1, z2, z3, z4, z5, z6, z7, z8, z9, z10, z11, z12, z13, z14, z15, z16, z17, z18, z19, z20, z21, z22, z23, z24, Nat.zero_le, fin, finI, mSeq, mIf, mRet, mRetN, mDrop, mSet, mAsg, mPar, mAug, mSetIx, mMe, mFor, mIs, mEn, mZa, mN, mK, mA0, mA1, mB, mT, mAnd, mOr, mNot, mAndV, mOrV, mNotV, mIfE, mCh, mTup, mLst, mFz1, mFzA, fzL, fz1, mCall, mCallI, mAp, mAd, mNeg, mYes, mLc, mNx, mBad, mRaise, mBk, mCt, stB, gN, gs0, gs1, gT, rsA, rs, allV, BV.fz, Nw.bv, R.bind, nox, gt, two, fAdd_int, fSub, fCmp, fLen, fList, fTuple, fInt, fAbs, fMax, fMin, fIx, fSlH, fSlL, fSl, fRev, fIs, fNeg, isNon, Option.bind_some, Option.map_some, List.set_cons_zero, List.set_cons_succ, List.map_cons, List.map_nil, List.cons_append, List.nil_append, List.replicate, List.length_cons, List.length_nil, Nat.zero_add, Nat.reduceAdd, if_true, ite_true, reduceIte, wipeE, Bool.true_or, Bool.false_or, Bool.true_and, Bool.false_and, Bool.not_true, Bool.not_false, Bool.false_eq_true, if_false, hmd, fEq_int, hd, mf, rf, hdv, hz]
          · refine ⟨_, _, _, _, Lf', Lb, e1, ?_⟩
            have hz : decide ((0 : Int) < ((e / 2 : Nat) : Int)) = true := decide_eq_true (by omega)
            simp only [Fb__law_lift_1, Nw.lf, lf, lfA_ints, SZ, Nat.reduceLeDiff, z1, z2, z3, z4, z5, z6, z7, z8, z9, z10, z11, z12, z13, z14, z15, z16, z17, z18, z19, z20, z21, z22, z23, z24, Nat.zero_le, fin, finI, mSeq, mIf, mRet, mRetN, mDrop, mSet, mAsg, mPar, mAug, mSetIx, mMe, mFor, mIs, mEn, mZa, mN, mK, mA0, mA1, mB, mT, mAnd, mOr, mNot, mAndV, mOrV, mNotV, mIfE, mCh, mTup, mLst, mFz1, mFzA, fzL, fz1, mCall, mCallI, mAp, mAd, mNeg, mYes, mLc, mNx, mBad, mRaise, mBk, mCt, stB, gN, gs0, gs1, gT, rsA, rs, allV, BV.fz, Nw.bv, R.bind, nox, gt, two, fAdd_int, fSub, fCmp, fLen, fList, fTuple, fInt, fAbs, fMax, fMin, fIx, fSlH, fSlL, fSl, fRev, fIs, fNeg, isNon, Option.bind_some, Option.map_some, List.set_cons_zero, List.set_cons_succ, List.map_cons, List.map_nil, List.cons_append, List.nil_append, List.replicate, List.length_cons, List.length_nil, Nat.zero_add, Nat.reduceAdd, if_true, ite_true, reduceIte, wipeE, Bool.true_or, Bool.false_or, Bool.true_and, Bool.false_and, Bool.not_true, Bool.not_false, Bool.false_eq_true, if_false, hmd, fEq_int, hd, mf, rf, mb, rb, hdv, hz]
        · have hd : decide (((e % 2 : Nat) : Int) = 1) = false := by simp; omega
          have e1 : F * B ^ e = F * (B * B) ^ (e / 2) := by
            rw [Rq.pow_sq]
            conv => lhs; rw [show e = 2 * (e / 2) by omega]
          by_cases z : e / 2 = 0
          · refine ⟨f, F, b, B, h1, h3, ?_, ?_⟩
            · rw [e1, z, Rq.pow_z, Rq.pow_z]
            · have hz : decide ((0 : Int) < ((e / 2 : Nat) : Int)) = false := decide_eq_false (by omega)
              simp only [Fb__law_lift_1, Nw.lf, lf, lfA_ints, SZ, Nat.reduceLeDiff, z1, z2, z3, z4, z5, z6, z7, z8, z9, z10, z11, z12, z13, z14, z15, z16, z17, z18, z19, z20, z21, z22, z23, z24, Nat.zero_le, fin, finI, mSeq, mIf, mRet, mRetN, mDrop, mSet, mAsg, mPar, mAug, mSetIx, mMe, mFor, mIs, mEn, mZa, mN, mK, mA0, mA1, mB, mT, mAnd, mOr, mNot, mAndV, mOrV, mNotV, mIfE, mCh, mTup, mLst, mFz1, mFzA, fzL, fz1, mCall, mCallI, mAp, mAd, mNeg, mYes, mLc, mNx, mBad, mRaise, mBk, mCt, stB, gN, gs0, gs1, gT, rsA, rs, allV, BV.fz, Nw.bv, R.bind, nox, gt, two, fAdd_int, fSub, fCmp, fLen, fList, fTuple, fInt, fAbs, fMax, fMin, fIx, fSlH, fSlL, fSl, fRev, fIs, fNeg, isNon, Option.bind_some, Option.map_some, List.set_cons_zero, List.set_cons_succ, List.map_cons, List.map_nil, List.cons_append, List.nil_append, List.replicate, List.length_cons, List.length_nil, Nat.zero_add, Nat.reduceAdd, if_true, ite_true, reduceIte, wipeE, Bool.true_or, Bool.false_or, Bool.true_and, Bool.false_and, Bool.not_true, Bool.not_false, Bool.false_eq_true, if_false, hmd, fEq_int, hd, hdv, hz]
          · refine ⟨f, F, _, _, h1, Lb, e1, ?_⟩
            have hz : decide ((0 : Int) < ((e / 2 : Nat) : Int)) = true := decide_eq_true (by omega)
            simp only [Fb__law_lift_1, Nw.lf, lf, lfA_ints, SZ, Nat.reduceLeDiff, z1, z2, z3, z4, z5, z6, z7, z8, z9, z10, z11, z12, z13, z14, z15, z16, z17, z18, z19, z20, z21, z22, z23, z24, Nat.zero_le, fin, finI, mSeq, mIf, mRet, mRetN, mDrop, mSet, mAsg, mPar, mAug, mSetIx, mMe, mFor, mIs, mEn, mZa, mN, mK, mA0, mA1, mB, mT, mAnd, mOr, mNot, mAndV, mOrV, mNotV, mIfE, mCh, mTup, mLst, mFz1, mFzA, fzL, fz1, mCall, mCallI, mAp, mAd, mNeg, mYes, mLc, mNx, mBad, mRaise, mBk, mCt, stB, gN, gs0, gs1, gT, rsA, rs, allV, BV.fz, Nw.bv, R.bind, nox, gt, two, fAdd_int, fSub, fCmp, fLen, fList, fTuple, fInt, fAbs, fMax, fMin, fIx, fSlH, fSlL, fSl, fRev, fIs, fNeg, isNon, Option.bind_some, Option.map_some, List.set_cons_zero, List.set_cons_succ, List.map_cons, List.map_nil, List.cons_append, List.nil_append, List.replicate, List.length_cons, List.length_nil, Nat.zero_add, Nat.reduceAdd, if_true, ite_true, reduceIte, wipeE, Bool.true_or, Bool.false_or, Bool.true_and, Bool.false_and, Bool.not_true, Bool.not_false, Bool.false_eq_true, if_false, hmd, fEq_int, hd, mb, rb, hdv, hz]
      obtain ⟨f', F', b', B', l1, l2, eq, hb⟩ := step
      obtain ⟨t, s5, s6, s7', ht, hw⟩ := ih (e / 2) ds f' b' F' B' (.v d) (by rw [Nat.pow_succ] at he; omega) hl l1 l2
      refine ⟨t, s5, s6, s7', by rw [eq]; exact ht, ?_⟩
      rw [mForL_cons (Γ1 := [S0, S1, .v (.tup (r.map D.int)), .v (.int p), .v (.tup (f.map D.int)), .v (.tup (b.map D.int)), .v (.int e), .v d]) rfl hb]
      exact hw
theorem e__law_lift (a r : List Int) (p : Int) (e : Nat) (hp : p ∈ k_PRIMES) (ha : Po p a) (hr : Po p r) (hr0 : r ≠ []) (la : a.length ≤ 100) (lr : r.length ≤ 100) (he : e < 2 ^ 140) : ∃ t, M__law_lift [.tup (a.map D.int), .int e, .tup (r.map D.int), .int p] = .ok (.v (.tup (t.map D.int))) ∧ Lf p r (Rq.s p a ^ e) t := by
  have h1 := e__law_rem [1] r p hp (po_one hp) hr hr0 (by simp) (by omega)
  have h2 := e__law_rem a r p hp ha hr hr0 (by omega) (by omega)
  have L1 := Lf.rs hp (po_one hp) hr hr0
  have L2 := Lf.rs hp ha hr hr0
  obtain ⟨t, s5, s6, s7, ht, hw⟩ := w_lift r p hp hr hr0 lr (.v (.tup (a.map D.int))) (.v (.int e)) 140 e (rngD 0 1 140) _ _ _ _ .no he (rngD_len ..) L1 L2
  have hr1 := mR1_n (ma := mA1 (mK (.int 140)) mA0) (Γ := [.v (.tup (a.map D.int)), .v (.int e), .v (.tup (r.map D.int)), .v (.int p), .v (.tup ((rs' p [1] r).map D.int)), .v (.tup ((rs' p a r).map D.int)), .v (.int e), .no]) (Γ1 := [.v (.tup (a.map D.int)), .v (.int e), .v (.tup (r.map D.int)), .v (.int p), .v (.tup ((rs' p [1] r).map D.int)), .v (.tup ((rs' p a r).map D.int)), .v (.int e), .no]) (n := 140) (by simp only [Nw.lf, lf, lfA_ints, SZ, Nat.reduceLeDiff, z1, z2, z3, z4, z5, z6, z7, z8, z9, z10, z11, z12, z13, z14, z15, z16, z17, z18, z19, z20, z21, z22, z23, z24, Nat.zero_le, fin, finI, mSeq, mIf, mRet, mRetN, mDrop, mSet, mAsg, mPar, mAug, mSetIx, mMe, mFor, mIs, mEn, mZa, mN, mK, mA0, mA1, mB, mT, mAnd, mOr, mNot, mAndV, mOrV, mNotV, mIfE, mCh, mTup, mLst, mFz1, mFzA, fzL, fz1, mCall, mCallI, mAp, mAd, mNeg, mYes, mLc, mNx, mBad, mRaise, mBk, mCt, stB, gN, gs0, gs1, gT, rsA, rs, allV, BV.fz, Nw.bv, R.bind, nox, gt, two, fAdd_int, fSub, fCmp, fLen, fList, fTuple, fInt, fAbs, fMax, fMin, fIx, fSlH, fSlL, fSl, fRev, fIs, fNeg, isNon, Option.bind_some, Option.map_some, List.set_cons_zero, List.set_cons_succ, List.map_cons, List.map_nil, List.cons_append, List.nil_append, List.replicate, List.length_cons, List.length_nil, Nat.zero_add, Nat.reduceAdd, if_true, ite_true, reduceIte, wipeE, Bool.true_or, Bool.false_or, Bool.true_and, Bool.false_and, Bool.not_true, Bool.not_false, Bool.false_eq_true, if_false]; rfl) (by omega)
  simp only [List.map_cons, List.map_nil] at h1
  refine ⟨t, by simp only [M__law_lift, B__law_lift, Nw.lf, lf, lfA_ints, SZ, Nat.reduceLeDiff, z1, z2, z3, z4, z5, z6, z7, z8, z9, z10, z11, z12, z13, z14, z15, z16, z17, z18, z19, z20, z21, z22, z23, z24, Nat.zero_le, fin, finI, mSeq, mIf, mRet, mRetN, mDrop, mSet, mAsg, mPar, mAug, mSetIx, mMe, mFor, mIs, mEn, mZa, mN, mK, mA0, mA1, mB, mT, mAnd, mOr, mNot, mAndV, mOrV, mNotV, mIfE, mCh, mTup, mLst, mFz1, mFzA, fzL, fz1, mCall, mCallI, mAp, mAd, mNeg, mYes, mLc, mNx, mBad, mRaise, mBk, mCt, stB, gN, gs0, gs1, gT, rsA, rs, allV, BV.fz, Nw.bv, R.bind, nox, gt, two, fAdd_int, fSub, fCmp, fLen, fList, fTuple, fInt, fAbs, fMax, fMin, fIx, fSlH, fSlL, fSl, fRev, fIs, fNeg, isNon, Option.bind_some, Option.map_some, List.set_cons_zero, List.set_cons_succ, List.map_cons, List.map_nil, List.cons_append, List.nil_append, List.replicate, List.length_cons, List.length_nil, Nat.zero_add, Nat.reduceAdd, if_true, ite_true, reduceIte, wipeE, Bool.true_or, Bool.false_or, Bool.true_and, Bool.false_and, Bool.not_true, Bool.not_false, Bool.false_eq_true, if_false, h1, h2, hr1, hw], ?_⟩
  rw [Rq.s_one, Rq.ic_one] at ht
  have : (1 : Rq.Sr p) * Rq.s p a ^ e = Rq.s p a ^ e := by grind
  rwa [this] at ht
theorem b_lput (b r f : List Int) (c p : Int) (hp : p ∈ k_PRIMES) (hr : Po p r) (hr0 : r ≠ []) (hf : Po p f) (lb : b.length ≤ 100) (lr : r.length ≤ 100) (lf : f.length ≤ 100) (hc : 0 ≤ c ∧ c < p) (S0 : Sl) : Fb__law_put_1 [S0, .v (.tup (b.map D.int)), .v (.tup (r.map D.int)), .v (.int p), .v (.tup (f.map D.int)), .v (.int c)] = .ok (.nx [S0, .v (.tup (b.map D.int)), .v (.tup (r.map D.int)), .v (.int p), .v (.tup ((rs' p (bl p c (mulP p f b) [1]) r).map D.int)), .v (.int c)]) := by
  have h2 := pr_le p hp
  have hm := e__law_mul f b p (by omega) (fun x hx => by have := hf.r x hx; omega) (by omega) (by omega)
  have lm := mulP_length_le p f b
  have hb := e__law_blend (mulP p f b) [1] c p (by omega) (by omega) (by omega) (by omega) (by simp)
  have l3 := bl_length p c (mulP p f b) [1]
  simp only [List.length_cons, List.length_nil] at l3
  have hl := e__law_rem (bl p c (mulP p f b) [1]) r p hp (Po.bl (by omega) ..) hr hr0 (by omega) (by omega)
  simp only [List.map_cons, List.map_nil] at hb
  simp only [Fb__law_put_1, Nw.lf, lf, lfA_ints, SZ, Nat.reduceLeDiff, z1, z2, z3, z4, z5, z6, z7, z8, z9, z10, z11, z12, z13, z14, z15, z16, z17, z18, z19, z20, z21, z22, z23, z24, Nat.zero_le, fin, finI, mSeq, mIf, mRet, mRetN, mDrop, mSet, mAsg, mPar, mAug, mSetIx, mMe, mFor, mIs, mEn, mZa, mN, mK, mA0, mA1, mB, mT, mAnd, mOr, mNot, mAndV, mOrV, mNotV, mIfE, mCh, mTup, mLst, mFz1, mFzA, fzL, fz1, mCall, mCallI, mAp, mAd, mNeg, mYes, mLc, mNx, mBad, mRaise, mBk, mCt, stB, gN, gs0, gs1, gT, rsA, rs, allV, BV.fz, Nw.bv, R.bind, nox, gt, two, fAdd_int, fSub, fCmp, fLen, fList, fTuple, fInt, fAbs, fMax, fMin, fIx, fSlH, fSlL, fSl, fRev, fIs, fNeg, isNon, Option.bind_some, Option.map_some, List.set_cons_zero, List.set_cons_succ, List.map_cons, List.map_nil, List.cons_append, List.nil_append, List.replicate, List.length_cons, List.length_nil, Nat.zero_add, Nat.reduceAdd, if_true, ite_true, reduceIte, wipeE, Bool.true_or, Bool.false_or, Bool.true_and, Bool.false_and, Bool.not_true, Bool.not_false, Bool.false_eq_true, if_false, hm, hb, hl]
theorem lput_step {p : Int} {b r f : List Int} {c : Int} {X : Rq.Sr p} (hp : p ∈ k_PRIMES) (hb : Po p b) (hr : Po p r) (hr0 : r ≠ []) (hf : Lf p r X f) : Lf p r (Rq.icst c + Rq.s p b * X) (rs' p (bl p c (mulP p f b) [1]) r) := by
  have h2 := pr_le p hp
  have := Lf.rs hp (Po.bl (p := p) (by omega) c (mulP p f b) [1]) hr hr0
  rw [Rq.s_bl, Rq.s_mulP, Rq.s_one, Rq.ic_one] at this
  refine this.of hp ?_
  have e : Rq.icst c + Rq.s p b * X = X * Rq.s p b + Rq.icst c * 1 := by grind
  rw [e]
  exact Rq.Cg.add (by omega) (Rq.Cg.mul (by omega) ⟨r, hr, rfl⟩ ⟨f, hf.po, rfl⟩ ⟨b, hb, rfl⟩ hf.c (Rq.Cg.rfl' ..)) (Rq.Cg.rfl' ..)
theorem w_lput (b r : List Int) (p : Int) (hp : p ∈ k_PRIMES) (hb : Po p b) (hr : Po p r) (hr0 : r ≠ []) (lb : b.length ≤ 100) (lr : r.length ≤ 100) (S0 : Sl) : ∀ (a f : List Int) (w : List Int) (s5 : Sl), (∀ c ∈ a, 0 ≤ c ∧ c < p) → Lf p r (Rq.comp (Rq.s p b) w) f →
    ∃ t s5', mForL (gN 5) Fb__law_put_1 (a.map D.int) [S0, .v (.tup (b.map D.int)), .v (.tup (r.map D.int)), .v (.int p), .v (.tup (f.map D.int)), s5] = .ok (.nx [S0, .v (.tup (b.map D.int)), .v (.tup (r.map D.int)), .v (.int p), .v (.tup (t.map D.int)), s5']) ∧ Lf p r (Rq.comp (Rq.s p b) (a.reverse ++ w)) t
  | [], f, w, s5, _, h => ⟨f, s5, rfl, by simpa using h⟩
  | c :: a, f, w, s5, hc, h => by
    have hs := lput_step (c := c) hp hb hr hr0 h
    obtain ⟨t, s5', hw, ht⟩ := w_lput b r p hp hb hr hr0 lb lr S0 a _ (c :: w) (.v (.int c)) (fun x hx => hc x (List.mem_cons_of_mem _ hx)) hs
    refine ⟨t, s5', ?_, by simpa using ht⟩
    have hb' := b_lput b r f c p hp hr hr0 h.po lb lr (by have := h.l; omega) (hc c (List.mem_cons_self ..)) S0
    rw [List.map_cons, mForL_cons (Γ1 := [S0, .v (.tup (b.map D.int)), .v (.tup (r.map D.int)), .v (.int p), .v (.tup (f.map D.int)), .v (.int c)]) rfl hb']
    exact hw
theorem e__law_put (a b r : List Int) (p : Int) (hp : p ∈ k_PRIMES) (ha : Po p a) (hb : Po p b) (hr : Po p r) (hr0 : r ≠ []) (la : a.length ≤ 100) (lb : b.length ≤ 100) (lr : r.length ≤ 100) : ∃ t, M__law_put [.tup (a.map D.int), .tup (b.map D.int), .tup (r.map D.int), .int p] = .ok (.v (.tup (t.map D.int))) ∧ Lf p r (Rq.comp (Rq.s p b) a) t := by
  obtain ⟨t, s5', hw, ht⟩ := w_lput b r p hp hb hr hr0 lb lr (.v (.tup (a.map D.int))) a.reverse [] [] .no (fun c hc => ha.r c (List.mem_reverse.mp hc)) (by rw [Rq.comp]; exact lf_nil hr0)
  rw [List.reverse_reverse, List.append_nil] at ht
  rw [List.map_reverse] at hw
  simp only [List.map_nil] at hw
  exact ⟨t, by simp only [M__law_put, B__law_put, Nw.lf, lf, lfA_ints, SZ, Nat.reduceLeDiff, z1, z2, z3, z4, z5, z6, z7, z8, z9, z10, z11, z12, z13, z14, z15, z16, z17, z18, z19, z20, z21, z22, z23, z24, Nat.zero_le, fin, finI, mSeq, mIf, mRet, mRetN, mDrop, mSet, mAsg, mPar, mAug, mSetIx, mMe, mFor, mIs, mEn, mZa, mN, mK, mA0, mA1, mB, mT, mAnd, mOr, mNot, mAndV, mOrV, mNotV, mIfE, mCh, mTup, mLst, mFz1, mFzA, fzL, fz1, mCall, mCallI, mAp, mAd, mNeg, mYes, mLc, mNx, mBad, mRaise, mBk, mCt, stB, gN, gs0, gs1, gT, rsA, rs, allV, BV.fz, Nw.bv, R.bind, nox, gt, two, fAdd_int, fSub, fCmp, fLen, fList, fTuple, fInt, fAbs, fMax, fMin, fIx, fSlH, fSlL, fSl, fRev, fIs, fNeg, isNon, Option.bind_some, Option.map_some, List.set_cons_zero, List.set_cons_succ, List.map_cons, List.map_nil, List.cons_append, List.nil_append, List.replicate, List.length_cons, List.length_nil, Nat.zero_add, Nat.reduceAdd, if_true, ite_true, reduceIte, wipeE, Bool.true_or, Bool.false_or, Bool.true_and, Bool.false_and, Bool.not_true, Bool.not_false, Bool.false_eq_true, if_false, hw], ht⟩
end Mn
namespace K05
open PySem Rg Rm Mn
theorem kn1 : kn.contains ("NoInverse" : Str) = true := by decide
theorem kn2 : kn.contains ("BadRest" : Str) = true := by decide
theorem kn3 : kn.contains ("BadNumber" : Str) = true := by decide
theorem ix1 : whyIx "NoInverse" = 7 := by decide
theorem ix2 : whyIx "BadRest" = 7 := by decide
theorem ix3 : whyIx "BadNumber" = 7 := by decide
theorem ok1 : PyData.strOk ("NoInverse" : Str) = true := by decide +kernel
theorem ok2 : PyData.strOk ("told" : Str) = true := by decide +kernel
theorem ne1 : fNe [.tup [.str "NoInverse", .non], .tup [.str "NoInverse", .non]] = some (.v (.bl false)) := by
  simp [fNe, shp, eqD, toP, toPA, SeqAt.shaped, PyData.canLay0, PyData.canLayAll0, PyData.depth, PyData.depthAll, PyData.eqv, PyData.eqvAll, ok1]
theorem ne2 : fNe [.lst [.str "BadRest", .str "BadNumber"], .lst [.str "BadRest", .str "BadNumber"]] = some (.v (.bl false)) := by
  have h1 : PyData.strOk ("BadRest" : Str) = true := by decide +kernel
  have h2 : PyData.strOk ("BadNumber" : Str) = true := by decide +kernel
  simp [fNe, shp, eqD, toP, toPA, SeqAt.shaped, PyData.canLay0, PyData.canLayAll0, PyData.depth, PyData.depthAll, PyData.eqv, PyData.eqvAll, h1, h2]
theorem app1 (a d : D) : fApp [a] [d] = some (.non, [a, d]) := by simp [fApp, SZ]
theorem same2 (a : List Int) (ha : a.length ≤ 1000) : M__law_same [.tup [.str "told", .tup (a.map D.int)], .tup [.str "told", .tup (a.map D.int)]] = .ok (.v (.bl true)) :=
  e__law_same _ (Pl.mono (k := 4) (.tup (by simp) fun d hd => by
    simp only [List.mem_cons, List.not_mem_nil, or_false] at hd
    rcases hd with rfl | rfl
    · exact .str ok2
    · exact Pl.mono (Pl.tI (by omega)) (by omega)) (by omega))
theorem same1 (n : Int) (a : List Int) (ha : a.length ≤ 1000) : M__law_same [.lst [.int n, .tup (a.map D.int)], .lst [.int n, .tup (a.map D.int)]] = .ok (.v (.bl true)) :=
  e__law_same _ (Pl.mono (k := 4) (.lst (by simp) fun d hd => by
    simp only [List.mem_cons, List.not_mem_nil, or_false] at hd
    rcases hd with rfl | rfl
    · exact .int _
    · exact Pl.mono (Pl.tI (by omega)) (by omega)) (by omega))
section
variable {a b r : List Int} {p e f : Int}
theorem p_put (hp : p ∈ k_PRIMES) (t : List Int) (ht : M_poly_put [.tup (a.map D.int), .tup (b.map D.int), .tup (r.map D.int), .int p] = .ok (.v (.tup (t.map D.int)))) (A0 A1 A2 A3 A4 A5 A6 A7 A8 A9 A10 A15 A16 A17 : Sl) : mPair kn La_law_4 [A0, A1, A2, A3, A4, A5, A6, A7, A8, A9, A10, .v (.tup (a.map D.int)), .v (.tup (b.map D.int)), .v (.int p), .v (.tup (r.map D.int)), A15, A16, A17] = .ok (.str "told", .tup (t.map D.int)) := by
  have h6 : ∀ Γ : Env, gt Γ 11 = .v (.tup (a.map D.int)) → gt Γ 12 = .v (.tup (b.map D.int)) → gt Γ 13 = .v (.int p) → gt Γ 14 = .v (.tup (r.map D.int)) → La_law_4 Γ = .ok (.v (.tup (t.map D.int)), Γ) := by
    intro Γ g1 g2 g3 g4
    simp only [La_law_4, Nw.lf, lf, lfA_ints, SZ, Nat.reduceLeDiff, z1, z2, z3, z4, z5, z6, z7, z8, z9, z10, z11, z12, z13, z14, z15, z16, z17, z18, z19, z20, z21, z22, z23, z24, Nat.zero_le, fin, finI, mSeq, mIf, mRet, mRetN, mDrop, mSet, mAsg, mPar, mAug, mSetIx, mMe, mFor, mIs, mEn, mZa, mN, mK, mA0, mA1, mB, mT, mAnd, mOr, mNot, mAndV, mOrV, mNotV, mIfE, mCh, mTup, mLst, mFz1, mFzA, fzL, fz1, mCall, mCallI, mAp, mAd, mNeg, mYes, mLc, mNx, mBad, mRaise, mBk, mCt, stB, gN, gs0, gs1, gT, rsA, rs, allV, BV.fz, Nw.bv, R.bind, nox, gt, two, fAdd_int, fSub, fCmp, fLen, fList, fTuple, fInt, fAbs, fMax, fMin, fIx, fSlH, fSlL, fSl, fRev, fIs, fNeg, isNon, Option.bind_some, Option.map_some, List.set_cons_zero, List.set_cons_succ, List.map_cons, List.map_nil, List.cons_append, List.nil_append, List.replicate, List.length_cons, List.length_nil, Nat.zero_add, Nat.reduceAdd, if_true, ite_true, reduceIte, wipeE, Bool.true_or, Bool.false_or, Bool.true_and, Bool.false_and, Bool.not_true, Bool.not_false, Bool.false_eq_true, if_false, g1, g2, g3, g4, ht]
  exact pair_ok (mFz1_v (h6 _ (gt_hv rfl) (gt_hv rfl) (gt_hv rfl) (gt_hv rfl)))
theorem z_put (ht : M_poly_put [.tup (a.map D.int), .tup (b.map D.int), .tup [], .int p] = .exc "NoInverse" [("word", .str "NoInverse")]) (A0 A1 A2 A3 A4 A5 A6 A7 A8 A9 A10 A15 A16 A17 : Sl) : mPair kn La_law_4 [A0, A1, A2, A3, A4, A5, A6, A7, A8, A9, A10, .v (.tup (a.map D.int)), .v (.tup (b.map D.int)), .v (.int p), .v (.tup []), A15, A16, A17] = .ok (.str "NoInverse", .non) := by
  have h6 : ∀ Γ : Env, gt Γ 11 = .v (.tup (a.map D.int)) → gt Γ 12 = .v (.tup (b.map D.int)) → gt Γ 13 = .v (.int p) → gt Γ 14 = .v (.tup []) → La_law_4 Γ = .exc "NoInverse" [("word", .str "NoInverse")] := by
    intro Γ g1 g2 g3 g4
    simp only [La_law_4, Nw.lf, lf, lfA_ints, SZ, Nat.reduceLeDiff, z1, z2, z3, z4, z5, z6, z7, z8, z9, z10, z11, z12, z13, z14, z15, z16, z17, z18, z19, z20, z21, z22, z23, z24, Nat.zero_le, fin, finI, mSeq, mIf, mRet, mRetN, mDrop, mSet, mAsg, mPar, mAug, mSetIx, mMe, mFor, mIs, mEn, mZa, mN, mK, mA0, mA1, mB, mT, mAnd, mOr, mNot, mAndV, mOrV, mNotV, mIfE, mCh, mTup, mLst, mFz1, mFzA, fzL, fz1, mCall, mCallI, mAp, mAd, mNeg, mYes, mLc, mNx, mBad, mRaise, mBk, mCt, stB, gN, gs0, gs1, gT, rsA, rs, allV, BV.fz, Nw.bv, R.bind, nox, gt, two, fAdd_int, fSub, fCmp, fLen, fList, fTuple, fInt, fAbs, fMax, fMin, fIx, fSlH, fSlL, fSl, fRev, fIs, fNeg, isNon, Option.bind_some, Option.map_some, List.set_cons_zero, List.set_cons_succ, List.map_cons, List.map_nil, List.cons_append, List.nil_append, List.replicate, List.length_cons, List.length_nil, Nat.zero_add, Nat.reduceAdd, if_true, ite_true, reduceIte, wipeE, Bool.true_or, Bool.false_or, Bool.true_and, Bool.false_and, Bool.not_true, Bool.not_false, Bool.false_eq_true, if_false, g1, g2, g3, g4, ht]
  exact pair_exc (mFz1_x (h6 _ (gt_hv rfl) (gt_hv rfl) (gt_hv rfl) (gt_hv rfl))) kn1 ix1
theorem p_left (t : List Int) (ht : M_poly_left [.tup (a.map D.int), .int e, .tup (r.map D.int), .int p] = .ok (.v (.tup (t.map D.int)))) (A0 A1 A2 A3 A4 A5 A6 A7 A8 A10 A12 A15 A16 A17 : Sl) : mPair kn La_law_5 [A0, A1, A2, A3, A4, A5, A6, A7, A8, .v (.int e), A10, .v (.tup (a.map D.int)), A12, .v (.int p), .v (.tup (r.map D.int)), A15, A16, A17] = .ok (.str "told", .tup (t.map D.int)) := by
  have h6 : ∀ Γ : Env, gt Γ 11 = .v (.tup (a.map D.int)) → gt Γ 9 = .v (.int e) → gt Γ 13 = .v (.int p) → gt Γ 14 = .v (.tup (r.map D.int)) → La_law_5 Γ = .ok (.v (.tup (t.map D.int)), Γ) := by
    intro Γ g1 g2 g3 g4
    simp only [La_law_5, Nw.lf, lf, lfA_ints, SZ, Nat.reduceLeDiff, z1, z2, z3, z4, z5, z6, z7, z8, z9, z10, z11, z12, z13, z14, z15, z16, z17, z18, z19, z20, z21, z22, z23, z24, Nat.zero_le, fin, finI, mSeq, mIf, mRet, mRetN, mDrop, mSet, mAsg, mPar, mAug, mSetIx, mMe, mFor, mIs, mEn, mZa, mN, mK, mA0, mA1, mB, mT, mAnd, mOr, mNot, mAndV, mOrV, mNotV, mIfE, mCh, mTup, mLst, mFz1, mFzA, fzL, fz1, mCall, mCallI, mAp, mAd, mNeg, mYes, mLc, mNx, mBad, mRaise, mBk, mCt, stB, gN, gs0, gs1, gT, rsA, rs, allV, BV.fz, Nw.bv, R.bind, nox, gt, two, fAdd_int, fSub, fCmp, fLen, fList, fTuple, fInt, fAbs, fMax, fMin, fIx, fSlH, fSlL, fSl, fRev, fIs, fNeg, isNon, Option.bind_some, Option.map_some, List.set_cons_zero, List.set_cons_succ, List.map_cons, List.map_nil, List.cons_append, List.nil_append, List.replicate, List.length_cons, List.length_nil, Nat.zero_add, Nat.reduceAdd, if_true, ite_true, reduceIte, wipeE, Bool.true_or, Bool.false_or, Bool.true_and, Bool.false_and, Bool.not_true, Bool.not_false, Bool.false_eq_true, if_false, g1, g2, g3, g4, ht]
  exact pair_ok (mFz1_v (h6 _ (gt_hv rfl) (gt_hv rfl) (gt_hv rfl) (gt_hv rfl)))
theorem z_left (ht : M_poly_left [.tup (a.map D.int), .int e, .tup [], .int p] = .exc "NoInverse" [("word", .str "NoInverse")]) (A0 A1 A2 A3 A4 A5 A6 A7 A8 A10 A12 A15 A16 A17 : Sl) : mPair kn La_law_5 [A0, A1, A2, A3, A4, A5, A6, A7, A8, .v (.int e), A10, .v (.tup (a.map D.int)), A12, .v (.int p), .v (.tup []), A15, A16, A17] = .ok (.str "NoInverse", .non) := by
  have h6 : ∀ Γ : Env, gt Γ 11 = .v (.tup (a.map D.int)) → gt Γ 9 = .v (.int e) → gt Γ 13 = .v (.int p) → gt Γ 14 = .v (.tup []) → La_law_5 Γ = .exc "NoInverse" [("word", .str "NoInverse")] := by
    intro Γ g1 g2 g3 g4
    simp only [La_law_5, Nw.lf, lf, lfA_ints, SZ, Nat.reduceLeDiff, z1, z2, z3, z4, z5, z6, z7, z8, z9, z10, z11, z12, z13, z14, z15, z16, z17, z18, z19, z20, z21, z22, z23, z24, Nat.zero_le, fin, finI, mSeq, mIf, mRet, mRetN, mDrop, mSet, mAsg, mPar, mAug, mSetIx, mMe, mFor, mIs, mEn, mZa, mN, mK, mA0, mA1, mB, mT, mAnd, mOr, mNot, mAndV, mOrV, mNotV, mIfE, mCh, mTup, mLst, mFz1, mFzA, fzL, fz1, mCall, mCallI, mAp, mAd, mNeg, mYes, mLc, mNx, mBad, mRaise, mBk, mCt, stB, gN, gs0, gs1, gT, rsA, rs, allV, BV.fz, Nw.bv, R.bind, nox, gt, two, fAdd_int, fSub, fCmp, fLen, fList, fTuple, fInt, fAbs, fMax, fMin, fIx, fSlH, fSlL, fSl, fRev, fIs, fNeg, isNon, Option.bind_some, Option.map_some, List.set_cons_zero, List.set_cons_succ, List.map_cons, List.map_nil, List.cons_append, List.nil_append, List.replicate, List.length_cons, List.length_nil, Nat.zero_add, Nat.reduceAdd, if_true, ite_true, reduceIte, wipeE, Bool.true_or, Bool.false_or, Bool.true_and, Bool.false_and, Bool.not_true, Bool.not_false, Bool.false_eq_true, if_false, g1, g2, g3, g4, ht]
  exact pair_exc (mFz1_x (h6 _ (gt_hv rfl) (gt_hv rfl) (gt_hv rfl) (gt_hv rfl))) kn1 ix1
theorem y_value (ht : M_poly_value [.tup (a.map D.int), .int f, .int p] = .exc "BadRest" [("word", .str "BadRest")]) (A0 A1 A2 A3 A4 A5 A6 A7 A8 A9 A12 A14 A15 A16 A17 : Sl) : mPair kn La_law_6 [A0, A1, A2, A3, A4, A5, A6, A7, A8, A9, .v (.int f), .v (.tup (a.map D.int)), A12, .v (.int p), A14, A15, A16, A17] = .ok (.str "BadRest", .non) := by
  have h6 : ∀ Γ : Env, gt Γ 11 = .v (.tup (a.map D.int)) → gt Γ 10 = .v (.int f) → gt Γ 13 = .v (.int p) → La_law_6 Γ = .exc "BadRest" [("word", .str "BadRest")] := by
    intro Γ g1 g2 g3
    simp only [La_law_6, Nw.lf, lf, lfA_ints, SZ, Nat.reduceLeDiff, z1, z2, z3, z4, z5, z6, z7, z8, z9, z10, z11, z12, z13, z14, z15, z16, z17, z18, z19, z20, z21, z22, z23, z24, Nat.zero_le, fin, finI, mSeq, mIf, mRet, mRetN, mDrop, mSet, mAsg, mPar, mAug, mSetIx, mMe, mFor, mIs, mEn, mZa, mN, mK, mA0, mA1, mB, mT, mAnd, mOr, mNot, mAndV, mOrV, mNotV, mIfE, mCh, mTup, mLst, mFz1, mFzA, fzL, fz1, mCall, mCallI, mAp, mAd, mNeg, mYes, mLc, mNx, mBad, mRaise, mBk, mCt, stB, gN, gs0, gs1, gT, rsA, rs, allV, BV.fz, Nw.bv, R.bind, nox, gt, two, fAdd_int, fSub, fCmp, fLen, fList, fTuple, fInt, fAbs, fMax, fMin, fIx, fSlH, fSlL, fSl, fRev, fIs, fNeg, isNon, Option.bind_some, Option.map_some, List.set_cons_zero, List.set_cons_succ, List.map_cons, List.map_nil, List.cons_append, List.nil_append, List.replicate, List.length_cons, List.length_nil, Nat.zero_add, Nat.reduceAdd, if_true, ite_true, reduceIte, wipeE, Bool.true_or, Bool.false_or, Bool.true_and, Bool.false_and, Bool.not_true, Bool.not_false, Bool.false_eq_true, if_false, g1, g2, g3, ht]
  exact pair_exc (mFz1_x (h6 _ (gt_hv rfl) (gt_hv rfl) (gt_hv rfl))) kn2 ix2
theorem y_left (xs xs' : List D) (t : Int) (h1 : M__law_take xs [.int 9] = .ok (.v (.int t), xs')) (ht : M_poly_left [.tup (a.map D.int), .int (-1 - t), .tup [], .int p] = .exc "BadNumber" [("word", .str "BadNumber")]) (A0 A1 A2 A3 A4 A5 A6 A7 A9 A10 A12 A14 A15 A16 A17 : Sl) : mPair2 kn La_law_7 [A0, A1, A2, A3, A4, A5, A6, A7, .o xs, A9, A10, .v (.tup (a.map D.int)), A12, .v (.int p), A14, A15, A16, A17] = .ok ((.str "BadNumber", .non), [A0, A1, A2, A3, A4, A5, A6, A7, .o xs', A9, A10, .v (.tup (a.map D.int)), A12, .v (.int p), A14, A15, A16, A17]) := by
  have h6 : La_law_7 [A0, A1, A2, A3, A4, A5, A6, A7, .o xs, A9, A10, .v (.tup (a.map D.int)), A12, .v (.int p), A14, A15, A16, A17] = .exc "BadNumber" [("word", .str "BadNumber")] [A0, A1, A2, A3, A4, A5, A6, A7, .o xs', A9, A10, .v (.tup (a.map D.int)), A12, .v (.int p), A14, A15, A16, A17] := by
    simp only [La_law_7, Nw.lf, lf, lfA_ints, SZ, Nat.reduceLeDiff, z1, z2, z3, z4, z5, z6, z7, z8, z9, z10, z11, z12, z13, z14, z15, z16, z17, z18, z19, z20, z21, z22, z23, z24, Nat.zero_le, fin, finI, mSeq, mIf, mRet, mRetN, mDrop, mSet, mAsg, mPar, mAug, mSetIx, mMe, mFor, mIs, mEn, mZa, mN, mK, mA0, mA1, mB, mT, mAnd, mOr, mNot, mAndV, mOrV, mNotV, mIfE, mCh, mTup, mLst, mFz1, mFzA, fzL, fz1, mCall, mCallI, mAp, mAd, mNeg, mYes, mLc, mNx, mBad, mRaise, mBk, mCt, stB, gN, gs0, gs1, gT, rsA, rs, allV, BV.fz, Nw.bv, R.bind, nox, gt, two, fAdd_int, fSub, fCmp, fLen, fList, fTuple, fInt, fAbs, fMax, fMin, fIx, fSlH, fSlL, fSl, fRev, fIs, fNeg, isNon, Option.bind_some, Option.map_some, List.set_cons_zero, List.set_cons_succ, List.map_cons, List.map_nil, List.cons_append, List.nil_append, List.replicate, List.length_cons, List.length_nil, Nat.zero_add, Nat.reduceAdd, if_true, ite_true, reduceIte, wipeE, Bool.true_or, Bool.false_or, Bool.true_and, Bool.false_and, Bool.not_true, Bool.not_false, Bool.false_eq_true, if_false, mCall2, h1, ht, r2of]
  have hw : whyP [("word", .str "BadNumber")] (whyIx "BadNumber") = some (.str "BadNumber", .non) := by rw [ix3]; rfl
  simp only [mPair2, h6, kn3, if_true, hw]
end
theorem b_law (S0 s1 s2 s3 s4 s5 s6 s7 s9 s10 s11 s12 s13 s14 : Sl) (xs : List D) (h : Dr xs) : ∃ xs' r2 r3 r4 r5 r6 r7 r9 r10 r11 r12 r13 r14, Fb_law_1 [S0, s1, s2, s3, s4, s5, s6, s7, .o xs, s9, s10, s11, s12, s13, s14, .no, .no, .no] = .ok (.nx [S0, s1, r2, r3, r4, r5, r6, r7, .o xs', r9, r10, r11, r12, r13, r14, .no, .no, .no]) ∧ Dr xs' := by
  obtain ⟨p, x1, e1, hp, d1⟩ := e__law_any_prime xs h
  have h2 := pr_le p hp
  obtain ⟨a, x2, e2, la, pa, d2⟩ := e__law_poly x1 d1 8 (by omega) p (by omega) (by omega)
  obtain ⟨b, x3, e3, lb, pb, d3⟩ := e__law_poly x2 d2 8 (by omega) p (by omega) (by omega)
  obtain ⟨r, x4, e4, lr, pr, d4⟩ := e__law_poly x3 d3 8 (by omega) p (by omega) (by omega)
  rw [show ((8 : Nat) : Int) = 8 from rfl] at e2 e3 e4
  obtain ⟨n, x5, e5, n0, n1, d5⟩ := e__law_take x4 d4 p (by omega) (by omega)
  have ev := e_poly_value a n p hp pa (by omega) ⟨n0, n1⟩
  have es := e_poly_slope a p hp pa (by omega)
  have ew := e__law_worth a n p (by omega) (by omega) ⟨n0, n1⟩
  have lsl : (slp p a).length ≤ 500 := by simp [slp]; omega
  have et := e__law_trimL (slp p a) (by omega)
  have lst := trim_length_le (slp p a)
  have hsame := same1 (pe n a % p) (trim (slp p a)) (by omega)
  obtain ⟨t6, x6, e6, t60, t61, d6⟩ := e__law_take x5 d5 1000000 (by omega) (by omega)
  obtain ⟨t7, x7, e7, t70, t71, d7⟩ := e__law_take x6 d6 1000000000 (by omega) (by omega)
  obtain ⟨de, x8, e8, he, d8⟩ := e__law_of x7 d7 (.lst [.int 0, .int 1, .int 2, .int p, .int t6, .int (1000000000000000000000000000000000000000 + t7)]) _ (.inl rfl) (by simp) (by simp)
  obtain ⟨e, rfl, hee⟩ : ∃ e : Nat, de = .int e ∧ e < 2 ^ 140 := by
    obtain ⟨i, rfl⟩ := Int.eq_ofNat_of_zero_le t60
    obtain ⟨j, rfl⟩ := Int.eq_ofNat_of_zero_le t70
    obtain ⟨q, rfl⟩ := Int.eq_ofNat_of_zero_le (show 0 ≤ p by omega)
    simp only [List.mem_cons, List.not_mem_nil, or_false] at he
    rcases he with rfl | rfl | rfl | rfl | rfl | rfl
    · exact ⟨0, rfl, by omega⟩
    · exact ⟨1, rfl, by omega⟩
    · exact ⟨2, rfl, by omega⟩
    · exact ⟨q, rfl, by omega⟩
    · exact ⟨i, rfl, by omega⟩
    · exact ⟨1000000000000000000000000000000000000000 + j, by simp, by omega⟩
  have hee' : e < 2 ^ 200 := Nat.lt_of_lt_of_le hee (Nat.pow_le_pow_right (by omega) (by omega))
  obtain ⟨f, x9, e9, hf, d9⟩ := e__law_far x8 d8 p (by omega) (by omega)
  have yv := y_value (y_poly_value a f p hp pa (by omega) hf)
  obtain ⟨t, x10, e10, t0, t1, d10⟩ := e__law_take x9 d9 9 (by omega) (by omega)
  have yl := y_left x9 x10 t e10 (y_poly_left a p (-1 - t) hp pa (by omega) (by omega))
  have hr3 : rngD 0 1 3 = [.int 0, .int 1, .int 2] := rfl
  have hmr := mR1_n (ma := mA1 (mK (.int 3)) mA0) (Γ := [S0, s1, s2, s3, s4, s5, s6, s7, .o x1, s9, s10, s11, s12, .v (.int p), s14, .no, .no, .no]) (Γ1 := [S0, s1, s2, s3, s4, s5, s6, s7, .o x1, s9, s10, s11, s12, .v (.int p), s14, .no, .no, .no]) (n := 3) (by simp only [Nw.lf, lf, lfA_ints, SZ, Nat.reduceLeDiff, z1, z2, z3, z4, z5, z6, z7, z8, z9, z10, z11, z12, z13, z14, z15, z16, z17, z18, z19, z20, z21, z22, z23, z24, Nat.zero_le, fin, finI, mSeq, mIf, mRet, mRetN, mDrop, mSet, mAsg, mPar, mAug, mSetIx, mMe, mFor, mIs, mEn, mZa, mN, mK, mA0, mA1, mB, mT, mAnd, mOr, mNot, mAndV, mOrV, mNotV, mIfE, mCh, mTup, mLst, mFz1, mFzA, fzL, fz1, mCall, mCallI, mAp, mAd, mNeg, mYes, mLc, mNx, mBad, mRaise, mBk, mCt, stB, gN, gs0, gs1, gT, rsA, rs, allV, BV.fz, Nw.bv, R.bind, nox, gt, two, fAdd_int, fSub, fCmp, fLen, fList, fTuple, fInt, fAbs, fMax, fMin, fIx, fSlH, fSlL, fSl, fRev, fIs, fNeg, isNon, Option.bind_some, Option.map_some, List.set_cons_zero, List.set_cons_succ, List.map_cons, List.map_nil, List.cons_append, List.nil_append, List.replicate, List.length_cons, List.length_nil, Nat.zero_add, Nat.reduceAdd, if_true, ite_true, reduceIte, wipeE, Bool.true_or, Bool.false_or, Bool.true_and, Bool.false_and, Bool.not_true, Bool.not_false, Bool.false_eq_true, if_false]; rfl) (by omega)
  rw [hr3] at hmr
  have hsl := mLc_map (fun x : Int × Nat => .tup [.int (x.2 : Int), .int x.1]) (fun x => .int ((x.2 : Int) * x.1 % p)) a.zipIdx (mi := mEn (mA1 (mN 11) mA0)) (f := gT 2 (gs1 (gN 16) (gs1 (gN 17) gs0))) (e := Le_law_3) (vs := [16, 17])
    (Γ := [S0, s1, .v (.int n), s3, s4, s5, s6, s7, .o x5, s9, s10, .v (.tup (a.map D.int)), .v (.tup (b.map D.int)), .v (.int p), .v (.tup (r.map D.int)), .no, .no, .no]) (Γ1 := [S0, s1, .v (.int n), s3, s4, s5, s6, s7, .o x5, s9, s10, .v (.tup (a.map D.int)), .v (.tup (b.map D.int)), .v (.int p), .v (.tup (r.map D.int)), .no, .no, .no])
    (by simp only [Nw.lf, lf, lfA_ints, SZ, Nat.reduceLeDiff, z1, z2, z3, z4, z5, z6, z7, z8, z9, z10, z11, z12, z13, z14, z15, z16, z17, z18, z19, z20, z21, z22, z23, z24, Nat.zero_le, fin, finI, mSeq, mIf, mRet, mRetN, mDrop, mSet, mAsg, mPar, mAug, mSetIx, mMe, mFor, mIs, mEn, mZa, mN, mK, mA0, mA1, mB, mT, mAnd, mOr, mNot, mAndV, mOrV, mNotV, mIfE, mCh, mTup, mLst, mFz1, mFzA, fzL, fz1, mCall, mCallI, mAp, mAd, mNeg, mYes, mLc, mNx, mBad, mRaise, mBk, mCt, stB, gN, gs0, gs1, gT, rsA, rs, allV, BV.fz, Nw.bv, R.bind, nox, gt, two, fAdd_int, fSub, fCmp, fLen, fList, fTuple, fInt, fAbs, fMax, fMin, fIx, fSlH, fSlL, fSl, fRev, fIs, fNeg, isNon, Option.bind_some, Option.map_some, List.set_cons_zero, List.set_cons_succ, List.map_cons, List.map_nil, List.cons_append, List.nil_append, List.replicate, List.length_cons, List.length_nil, Nat.zero_add, Nat.reduceAdd, if_true, ite_true, reduceIte, wipeE, Bool.true_or, Bool.false_or, Bool.true_and, Bool.false_and, Bool.not_true, Bool.not_false, Bool.false_eq_true, if_false, enumD_map]) (by simp; omega)
    (fun x hx => by
      have hb : x.2 < a.length := by
        have := List.snd_lt_of_mem_zipIdx hx
        simpa using this
      have hm := fMul_sml (i := (x.2 : Int)) (j := x.1) (by omega) (by omega)
      exact ⟨_, _, rfl, by simp only [Le_law_3, Nw.lf, lf, lfA_ints, SZ, Nat.reduceLeDiff, z1, z2, z3, z4, z5, z6, z7, z8, z9, z10, z11, z12, z13, z14, z15, z16, z17, z18, z19, z20, z21, z22, z23, z24, Nat.zero_le, fin, finI, mSeq, mIf, mRet, mRetN, mDrop, mSet, mAsg, mPar, mAug, mSetIx, mMe, mFor, mIs, mEn, mZa, mN, mK, mA0, mA1, mB, mT, mAnd, mOr, mNot, mAndV, mOrV, mNotV, mIfE, mCh, mTup, mLst, mFz1, mFzA, fzL, fz1, mCall, mCallI, mAp, mAd, mNeg, mYes, mLc, mNx, mBad, mRaise, mBk, mCt, stB, gN, gs0, gs1, gT, rsA, rs, allV, BV.fz, Nw.bv, R.bind, nox, gt, two, fAdd_int, fSub, fCmp, fLen, fList, fTuple, fInt, fAbs, fMax, fMin, fIx, fSlH, fSlL, fSl, fRev, fIs, fNeg, isNon, Option.bind_some, Option.map_some, List.set_cons_zero, List.set_cons_succ, List.map_cons, List.map_nil, List.cons_append, List.nil_append, List.replicate, List.length_cons, List.length_nil, Nat.zero_add, Nat.reduceAdd, if_true, ite_true, reduceIte, wipeE, Bool.true_or, Bool.false_or, Bool.true_and, Bool.false_and, Bool.not_true, Bool.not_false, Bool.false_eq_true, if_false, hm, fMod_pos (show 0 < p by omega)]; rfl, by rfl⟩)
  have hz : a.zipIdx.map (fun x => D.int ((x.2 : Int) * x.1 % p)) = (a.zipIdx.map fun x => ((x.2 : Int) * x.1 % p)).map D.int := by rw [List.map_map]; rfl
  rw [hz] at hsl
  have hd : cutD ((a.zipIdx.map fun x => ((x.2 : Int) * x.1 % p)).map D.int) (some 1) none = (slp p a).map D.int := by rw [cutD_drop, slp, List.map_drop]
  simp only [mLc, Nw.lf, lf, lfA_ints, SZ, Nat.reduceLeDiff, z1, z2, z3, z4, z5, z6, z7, z8, z9, z10, z11, z12, z13, z14, z15, z16, z17, z18, z19, z20, z21, z22, z23, z24, Nat.zero_le, fin, finI, mSeq, mIf, mRet, mRetN, mDrop, mSet, mAsg, mPar, mAug, mSetIx, mMe, mFor, mIs, mEn, mZa, mN, mK, mA0, mA1, mB, mT, mAnd, mOr, mNot, mAndV, mOrV, mNotV, mIfE, mCh, mTup, mLst, mFz1, mFzA, fzL, fz1, mCall, mCallI, mAp, mAd, mNeg, mYes, mLc, mNx, mBad, mRaise, mBk, mCt, stB, gN, gs0, gs1, gT, rsA, rs, allV, BV.fz, Nw.bv, R.bind, nox, gt, two, fAdd_int, fSub, fCmp, fLen, fList, fTuple, fInt, fAbs, fMax, fMin, fIx, fSlH, fSlL, fSl, fRev, fIs, fNeg, isNon, Option.bind_some, Option.map_some, List.set_cons_zero, List.set_cons_succ, List.map_cons, List.map_nil, List.cons_append, List.nil_append, List.replicate, List.length_cons, List.length_nil, Nat.zero_add, Nat.reduceAdd, if_true, ite_true, reduceIte, wipeE, Bool.true_or, Bool.false_or, Bool.true_and, Bool.false_and, Bool.not_true, Bool.not_false, Bool.false_eq_true, if_false] at hsl
  have tail : ∃ r5 r6, (mSeq (mSet 5 (mWhy kn La_law_4))
  (mSeq (mSet 6 (mWhy kn La_law_5))
  (mSeq (mIf (mT (mB (two fEq) (mA1 (mN 14) (mA1 (mTup mA0) mA0)))) (mIf (mOr (mT (mB (two fNe) (mA1 (mN 5) (mA1 (mTup (mA1 (mK (.str "NoInverse")) (mA1 (mK .non) mA0))) mA0)))) (mT (mB (two fNe) (mA1 (mN 6) (mA1 (mTup (mA1 (mK (.str "NoInverse")) (mA1 (mK .non) mA0))) mA0))))) (mRet (mK (.bl false))) mNx) (mSeq (mIf (mNot (mT (mCall M__law_same (mA1 (mN 5) (mA1 (mTup (mA1 (mK (.str "told")) (mA1 (mCall M__law_put (mA1 (mN 11) (mA1 (mN 12) (mA1 (mN 14) (mA1 (mN 13) mA0))))) mA0))) mA0))))) (mRet (mK (.bl false))) mNx)
  (mIf (mNot (mT (mCall M__law_same (mA1 (mN 6) (mA1 (mTup (mA1 (mK (.str "told")) (mA1 (mCall M__law_lift (mA1 (mN 11) (mA1 (mN 9) (mA1 (mN 14) (mA1 (mN 13) mA0))))) mA0))) mA0))))) (mRet (mK (.bl false))) mNx)))
  (mSeq (mSet 10 (mCallI M__law_far (mA1 (mN 8) (mA1 (mN 13) mA0))))
  (mSeq (mSet 7 (mLst (mA1 (mWord kn La_law_6) mA0)))
  (mSeq (mDrop (mMe 7 fApp (mA1 (mWord2 kn La_law_7) mA0)))
  (mIf (mT (mB (two fNe) (mA1 (mN 7) (mA1 (mLst (mA1 (mK (.str "BadRest")) (mA1 (mK (.str "BadNumber")) mA0))) mA0)))) (mRet (mK (.bl false))) mNx))))))) [S0, s1, .v (.int n), .v (.tup ((trim (slp p a)).map D.int)), .o [.int (pe n a % p), .tup ((trim (slp p a)).map D.int)], s5, s6, s7, .o x8, .v (.int e), s10, .v (.tup (a.map D.int)), .v (.tup (b.map D.int)), .v (.int p), .v (.tup (r.map D.int)), .no, .no, .no] = .ok (.nx [S0, s1, .v (.int n), .v (.tup ((trim (slp p a)).map D.int)), .o [.int (pe n a % p), .tup ((trim (slp p a)).map D.int)], r5, r6, .o [.str "BadRest", .str "BadNumber"], .o x10, .v (.int e), .v (.int f), .v (.tup (a.map D.int)), .v (.tup (b.map D.int)), .v (.int p), .v (.tup (r.map D.int)), .no, .no, .no]) := by
    by_cases hr0 : r = []
    · subst hr0
      have zp := z_put (z_poly_put a b p hp pa pb (by omega) (by omega))
      have zl := z_left (z_poly_left a p e hp pa (by omega) (by omega))
      refine ⟨.v (.tup [.str "NoInverse", .non]), .v (.tup [.str "NoInverse", .non]), ?_⟩
      simp only [List.map_nil]
      refine (mSeq_nx (by simp only [Nw.lf, lf, lfA_ints, SZ, Nat.reduceLeDiff, z1, z2, z3, z4, z5, z6, z7, z8, z9, z10, z11, z12, z13, z14, z15, z16, z17, z18, z19, z20, z21, z22, z23, z24, Nat.zero_le, fin, finI, mSeq, mIf, mRet, mRetN, mDrop, mSet, mAsg, mPar, mAug, mSetIx, mMe, mFor, mIs, mEn, mZa, mN, mK, mA0, mA1, mB, mT, mAnd, mOr, mNot, mAndV, mOrV, mNotV, mIfE, mCh, mTup, mLst, mFz1, mFzA, fzL, fz1, mCall, mCallI, mAp, mAd, mNeg, mYes, mLc, mNx, mBad, mRaise, mBk, mCt, stB, gN, gs0, gs1, gT, rsA, rs, allV, BV.fz, Nw.bv, R.bind, nox, gt, two, fAdd_int, fSub, fCmp, fLen, fList, fTuple, fInt, fAbs, fMax, fMin, fIx, fSlH, fSlL, fSl, fRev, fIs, fNeg, isNon, Option.bind_some, Option.map_some, List.set_cons_zero, List.set_cons_succ, List.map_cons, List.map_nil, List.cons_append, List.nil_append, List.replicate, List.length_cons, List.length_nil, Nat.zero_add, Nat.reduceAdd, if_true, ite_true, reduceIte, wipeE, Bool.true_or, Bool.false_or, Bool.true_and, Bool.false_and, Bool.not_true, Bool.not_false, Bool.false_eq_true, if_false, mWhy, zp]; rfl)).trans ?_
      refine (mSeq_nx (by simp only [Nw.lf, lf, lfA_ints, SZ, Nat.reduceLeDiff, z1, z2, z3, z4, z5, z6, z7, z8, z9, z10, z11, z12, z13, z14, z15, z16, z17, z18, z19, z20, z21, z22, z23, z24, Nat.zero_le, fin, finI, mSeq, mIf, mRet, mRetN, mDrop, mSet, mAsg, mPar, mAug, mSetIx, mMe, mFor, mIs, mEn, mZa, mN, mK, mA0, mA1, mB, mT, mAnd, mOr, mNot, mAndV, mOrV, mNotV, mIfE, mCh, mTup, mLst, mFz1, mFzA, fzL, fz1, mCall, mCallI, mAp, mAd, mNeg, mYes, mLc, mNx, mBad, mRaise, mBk, mCt, stB, gN, gs0, gs1, gT, rsA, rs, allV, BV.fz, Nw.bv, R.bind, nox, gt, two, fAdd_int, fSub, fCmp, fLen, fList, fTuple, fInt, fAbs, fMax, fMin, fIx, fSlH, fSlL, fSl, fRev, fIs, fNeg, isNon, Option.bind_some, Option.map_some, List.set_cons_zero, List.set_cons_succ, List.map_cons, List.map_nil, List.cons_append, List.nil_append, List.replicate, List.length_cons, List.length_nil, Nat.zero_add, Nat.reduceAdd, if_true, ite_true, reduceIte, wipeE, Bool.true_or, Bool.false_or, Bool.true_and, Bool.false_and, Bool.not_true, Bool.not_false, Bool.false_eq_true, if_false, mWhy, zl]; rfl)).trans ?_
      refine (mSeq_nx (by simp only [Nw.lf, lf, lfA_ints, SZ, Nat.reduceLeDiff, z1, z2, z3, z4, z5, z6, z7, z8, z9, z10, z11, z12, z13, z14, z15, z16, z17, z18, z19, z20, z21, z22, z23, z24, Nat.zero_le, fin, finI, mSeq, mIf, mRet, mRetN, mDrop, mSet, mAsg, mPar, mAug, mSetIx, mMe, mFor, mIs, mEn, mZa, mN, mK, mA0, mA1, mB, mT, mAnd, mOr, mNot, mAndV, mOrV, mNotV, mIfE, mCh, mTup, mLst, mFz1, mFzA, fzL, fz1, mCall, mCallI, mAp, mAd, mNeg, mYes, mLc, mNx, mBad, mRaise, mBk, mCt, stB, gN, gs0, gs1, gT, rsA, rs, allV, BV.fz, Nw.bv, R.bind, nox, gt, two, fAdd_int, fSub, fCmp, fLen, fList, fTuple, fInt, fAbs, fMax, fMin, fIx, fSlH, fSlL, fSl, fRev, fIs, fNeg, isNon, Option.bind_some, Option.map_some, List.set_cons_zero, List.set_cons_succ, List.map_cons, List.map_nil, List.cons_append, List.nil_append, List.replicate, List.length_cons, List.length_nil, Nat.zero_add, Nat.reduceAdd, if_true, ite_true, reduceIte, wipeE, Bool.true_or, Bool.false_or, Bool.true_and, Bool.false_and, Bool.not_true, Bool.not_false, Bool.false_eq_true, if_false, fEq_nn, ne1]; rfl)).trans ?_
      refine (mSeq_nx (by simp only [Nw.lf, lf, lfA_ints, SZ, Nat.reduceLeDiff, z1, z2, z3, z4, z5, z6, z7, z8, z9, z10, z11, z12, z13, z14, z15, z16, z17, z18, z19, z20, z21, z22, z23, z24, Nat.zero_le, fin, finI, mSeq, mIf, mRet, mRetN, mDrop, mSet, mAsg, mPar, mAug, mSetIx, mMe, mFor, mIs, mEn, mZa, mN, mK, mA0, mA1, mB, mT, mAnd, mOr, mNot, mAndV, mOrV, mNotV, mIfE, mCh, mTup, mLst, mFz1, mFzA, fzL, fz1, mCall, mCallI, mAp, mAd, mNeg, mYes, mLc, mNx, mBad, mRaise, mBk, mCt, stB, gN, gs0, gs1, gT, rsA, rs, allV, BV.fz, Nw.bv, R.bind, nox, gt, two, fAdd_int, fSub, fCmp, fLen, fList, fTuple, fInt, fAbs, fMax, fMin, fIx, fSlH, fSlL, fSl, fRev, fIs, fNeg, isNon, Option.bind_some, Option.map_some, List.set_cons_zero, List.set_cons_succ, List.map_cons, List.map_nil, List.cons_append, List.nil_append, List.replicate, List.length_cons, List.length_nil, Nat.zero_add, Nat.reduceAdd, if_true, ite_true, reduceIte, wipeE, Bool.true_or, Bool.false_or, Bool.true_and, Bool.false_and, Bool.not_true, Bool.not_false, Bool.false_eq_true, if_false, e9]; rfl)).trans ?_
      refine (mSeq_nx (by simp only [Nw.lf, lf, lfA_ints, SZ, Nat.reduceLeDiff, z1, z2, z3, z4, z5, z6, z7, z8, z9, z10, z11, z12, z13, z14, z15, z16, z17, z18, z19, z20, z21, z22, z23, z24, Nat.zero_le, fin, finI, mSeq, mIf, mRet, mRetN, mDrop, mSet, mAsg, mPar, mAug, mSetIx, mMe, mFor, mIs, mEn, mZa, mN, mK, mA0, mA1, mB, mT, mAnd, mOr, mNot, mAndV, mOrV, mNotV, mIfE, mCh, mTup, mLst, mFz1, mFzA, fzL, fz1, mCall, mCallI, mAp, mAd, mNeg, mYes, mLc, mNx, mBad, mRaise, mBk, mCt, stB, gN, gs0, gs1, gT, rsA, rs, allV, BV.fz, Nw.bv, R.bind, nox, gt, two, fAdd_int, fSub, fCmp, fLen, fList, fTuple, fInt, fAbs, fMax, fMin, fIx, fSlH, fSlL, fSl, fRev, fIs, fNeg, isNon, Option.bind_some, Option.map_some, List.set_cons_zero, List.set_cons_succ, List.map_cons, List.map_nil, List.cons_append, List.nil_append, List.replicate, List.length_cons, List.length_nil, Nat.zero_add, Nat.reduceAdd, if_true, ite_true, reduceIte, wipeE, Bool.true_or, Bool.false_or, Bool.true_and, Bool.false_and, Bool.not_true, Bool.not_false, Bool.false_eq_true, if_false, mWord, yv]; rfl)).trans ?_
      refine (mSeq_nx (by simp only [Nw.lf, lf, lfA_ints, SZ, Nat.reduceLeDiff, z1, z2, z3, z4, z5, z6, z7, z8, z9, z10, z11, z12, z13, z14, z15, z16, z17, z18, z19, z20, z21, z22, z23, z24, Nat.zero_le, fin, finI, mSeq, mIf, mRet, mRetN, mDrop, mSet, mAsg, mPar, mAug, mSetIx, mMe, mFor, mIs, mEn, mZa, mN, mK, mA0, mA1, mB, mT, mAnd, mOr, mNot, mAndV, mOrV, mNotV, mIfE, mCh, mTup, mLst, mFz1, mFzA, fzL, fz1, mCall, mCallI, mAp, mAd, mNeg, mYes, mLc, mNx, mBad, mRaise, mBk, mCt, stB, gN, gs0, gs1, gT, rsA, rs, allV, BV.fz, Nw.bv, R.bind, nox, gt, two, fAdd_int, fSub, fCmp, fLen, fList, fTuple, fInt, fAbs, fMax, fMin, fIx, fSlH, fSlL, fSl, fRev, fIs, fNeg, isNon, Option.bind_some, Option.map_some, List.set_cons_zero, List.set_cons_succ, List.map_cons, List.map_nil, List.cons_append, List.nil_append, List.replicate, List.length_cons, List.length_nil, Nat.zero_add, Nat.reduceAdd, if_true, ite_true, reduceIte, wipeE, Bool.true_or, Bool.false_or, Bool.true_and, Bool.false_and, Bool.not_true, Bool.not_false, Bool.false_eq_true, if_false, mWord2, yl, app1]; rfl)).trans ?_
      simp only [Nw.lf, lf, lfA_ints, SZ, Nat.reduceLeDiff, z1, z2, z3, z4, z5, z6, z7, z8, z9, z10, z11, z12, z13, z14, z15, z16, z17, z18, z19, z20, z21, z22, z23, z24, Nat.zero_le, fin, finI, mSeq, mIf, mRet, mRetN, mDrop, mSet, mAsg, mPar, mAug, mSetIx, mMe, mFor, mIs, mEn, mZa, mN, mK, mA0, mA1, mB, mT, mAnd, mOr, mNot, mAndV, mOrV, mNotV, mIfE, mCh, mTup, mLst, mFz1, mFzA, fzL, fz1, mCall, mCallI, mAp, mAd, mNeg, mYes, mLc, mNx, mBad, mRaise, mBk, mCt, stB, gN, gs0, gs1, gT, rsA, rs, allV, BV.fz, Nw.bv, R.bind, nox, gt, two, fAdd_int, fSub, fCmp, fLen, fList, fTuple, fInt, fAbs, fMax, fMin, fIx, fSlH, fSlL, fSl, fRev, fIs, fNeg, isNon, Option.bind_some, Option.map_some, List.set_cons_zero, List.set_cons_succ, List.map_cons, List.map_nil, List.cons_append, List.nil_append, List.replicate, List.length_cons, List.length_nil, Nat.zero_add, Nat.reduceAdd, if_true, ite_true, reduceIte, wipeE, Bool.true_or, Bool.false_or, Bool.true_and, Bool.false_and, Bool.not_true, Bool.not_false, Bool.false_eq_true, if_false, ne2]
    · obtain ⟨P, h1, LP⟩ := e_poly_put a b r p hp pa pb pr hr0 (by omega) (by omega) (by omega)
      obtain ⟨P', h1', LP'⟩ := e__law_put a b r p hp pa pb pr hr0 (by omega) (by omega) (by omega)
      obtain ⟨L, h2', LL⟩ := e_poly_left a r p e hp pa pr hr0 (by omega) (by omega) hee'
      obtain ⟨L', h2'', LL'⟩ := e__law_lift a r p e hp pa pr hr0 (by omega) (by omega) hee
      have q1 := LP.uq hp pr hr0 LP'
      have q2 := LL.uq hp pr hr0 LL'
      subst q1
      subst q2
      have pp := p_put hp P h1
      have pl := p_left L h2'
      have sP := same2 P (by have := LP.l; omega)
      have sL := same2 L (by have := LL.l; omega)
      refine ⟨.v (.tup [.str "told", .tup (P.map D.int)]), .v (.tup [.str "told", .tup (L.map D.int)]), ?_⟩
      refine (mSeq_nx (by simp only [Nw.lf, lf, lfA_ints, SZ, Nat.reduceLeDiff, z1, z2, z3, z4, z5, z6, z7, z8, z9, z10, z11, z12, z13, z14, z15, z16, z17, z18, z19, z20, z21, z22, z23, z24, Nat.zero_le, fin, finI, mSeq, mIf, mRet, mRetN, mDrop, mSet, mAsg, mPar, mAug, mSetIx, mMe, mFor, mIs, mEn, mZa, mN, mK, mA0, mA1, mB, mT, mAnd, mOr, mNot, mAndV, mOrV, mNotV, mIfE, mCh, mTup, mLst, mFz1, mFzA, fzL, fz1, mCall, mCallI, mAp, mAd, mNeg, mYes, mLc, mNx, mBad, mRaise, mBk, mCt, stB, gN, gs0, gs1, gT, rsA, rs, allV, BV.fz, Nw.bv, R.bind, nox, gt, two, fAdd_int, fSub, fCmp, fLen, fList, fTuple, fInt, fAbs, fMax, fMin, fIx, fSlH, fSlL, fSl, fRev, fIs, fNeg, isNon, Option.bind_some, Option.map_some, List.set_cons_zero, List.set_cons_succ, List.map_cons, List.map_nil, List.cons_append, List.nil_append, List.replicate, List.length_cons, List.length_nil, Nat.zero_add, Nat.reduceAdd, if_true, ite_true, reduceIte, wipeE, Bool.true_or, Bool.false_or, Bool.true_and, Bool.false_and, Bool.not_true, Bool.not_false, Bool.false_eq_true, if_false, mWhy, pp]; rfl)).trans ?_
      refine (mSeq_nx (by simp only [Nw.lf, lf, lfA_ints, SZ, Nat.reduceLeDiff, z1, z2, z3, z4, z5, z6, z7, z8, z9, z10, z11, z12, z13, z14, z15, z16, z17, z18, z19, z20, z21, z22, z23, z24, Nat.zero_le, fin, finI, mSeq, mIf, mRet, mRetN, mDrop, mSet, mAsg, mPar, mAug, mSetIx, mMe, mFor, mIs, mEn, mZa, mN, mK, mA0, mA1, mB, mT, mAnd, mOr, mNot, mAndV, mOrV, mNotV, mIfE, mCh, mTup, mLst, mFz1, mFzA, fzL, fz1, mCall, mCallI, mAp, mAd, mNeg, mYes, mLc, mNx, mBad, mRaise, mBk, mCt, stB, gN, gs0, gs1, gT, rsA, rs, allV, BV.fz, Nw.bv, R.bind, nox, gt, two, fAdd_int, fSub, fCmp, fLen, fList, fTuple, fInt, fAbs, fMax, fMin, fIx, fSlH, fSlL, fSl, fRev, fIs, fNeg, isNon, Option.bind_some, Option.map_some, List.set_cons_zero, List.set_cons_succ, List.map_cons, List.map_nil, List.cons_append, List.nil_append, List.replicate, List.length_cons, List.length_nil, Nat.zero_add, Nat.reduceAdd, if_true, ite_true, reduceIte, wipeE, Bool.true_or, Bool.false_or, Bool.true_and, Bool.false_and, Bool.not_true, Bool.not_false, Bool.false_eq_true, if_false, mWhy, pl]; rfl)).trans ?_
      refine (mSeq_nx (by simp only [Nw.lf, lf, lfA_ints, SZ, Nat.reduceLeDiff, z1, z2, z3, z4, z5, z6, z7, z8, z9, z10, z11, z12, z13, z14, z15, z16, z17, z18, z19, z20, z21, z22, z23, z24, Nat.zero_le, fin, finI, mSeq, mIf, mRet, mRetN, mDrop, mSet, mAsg, mPar, mAug, mSetIx, mMe, mFor, mIs, mEn, mZa, mN, mK, mA0, mA1, mB, mT, mAnd, mOr, mNot, mAndV, mOrV, mNotV, mIfE, mCh, mTup, mLst, mFz1, mFzA, fzL, fz1, mCall, mCallI, mAp, mAd, mNeg, mYes, mLc, mNx, mBad, mRaise, mBk, mCt, stB, gN, gs0, gs1, gT, rsA, rs, allV, BV.fz, Nw.bv, R.bind, nox, gt, two, fAdd_int, fSub, fCmp, fLen, fList, fTuple, fInt, fAbs, fMax, fMin, fIx, fSlH, fSlL, fSl, fRev, fIs, fNeg, isNon, Option.bind_some, Option.map_some, List.set_cons_zero, List.set_cons_succ, List.map_cons, List.map_nil, List.cons_append, List.nil_append, List.replicate, List.length_cons, List.length_nil, Nat.zero_add, Nat.reduceAdd, if_true, ite_true, reduceIte, wipeE, Bool.true_or, Bool.false_or, Bool.true_and, Bool.false_and, Bool.not_true, Bool.not_false, Bool.false_eq_true, if_false, fEq_tn, hr0, decide_false, h1', sP, h2'', sL]; rfl)).trans ?_
      refine (mSeq_nx (by simp only [Nw.lf, lf, lfA_ints, SZ, Nat.reduceLeDiff, z1, z2, z3, z4, z5, z6, z7, z8, z9, z10, z11, z12, z13, z14, z15, z16, z17, z18, z19, z20, z21, z22, z23, z24, Nat.zero_le, fin, finI, mSeq, mIf, mRet, mRetN, mDrop, mSet, mAsg, mPar, mAug, mSetIx, mMe, mFor, mIs, mEn, mZa, mN, mK, mA0, mA1, mB, mT, mAnd, mOr, mNot, mAndV, mOrV, mNotV, mIfE, mCh, mTup, mLst, mFz1, mFzA, fzL, fz1, mCall, mCallI, mAp, mAd, mNeg, mYes, mLc, mNx, mBad, mRaise, mBk, mCt, stB, gN, gs0, gs1, gT, rsA, rs, allV, BV.fz, Nw.bv, R.bind, nox, gt, two, fAdd_int, fSub, fCmp, fLen, fList, fTuple, fInt, fAbs, fMax, fMin, fIx, fSlH, fSlL, fSl, fRev, fIs, fNeg, isNon, Option.bind_some, Option.map_some, List.set_cons_zero, List.set_cons_succ, List.map_cons, List.map_nil, List.cons_append, List.nil_append, List.replicate, List.length_cons, List.length_nil, Nat.zero_add, Nat.reduceAdd, if_true, ite_true, reduceIte, wipeE, Bool.true_or, Bool.false_or, Bool.true_and, Bool.false_and, Bool.not_true, Bool.not_false, Bool.false_eq_true, if_false, e9]; rfl)).trans ?_
      refine (mSeq_nx (by simp only [Nw.lf, lf, lfA_ints, SZ, Nat.reduceLeDiff, z1, z2, z3, z4, z5, z6, z7, z8, z9, z10, z11, z12, z13, z14, z15, z16, z17, z18, z19, z20, z21, z22, z23, z24, Nat.zero_le, fin, finI, mSeq, mIf, mRet, mRetN, mDrop, mSet, mAsg, mPar, mAug, mSetIx, mMe, mFor, mIs, mEn, mZa, mN, mK, mA0, mA1, mB, mT, mAnd, mOr, mNot, mAndV, mOrV, mNotV, mIfE, mCh, mTup, mLst, mFz1, mFzA, fzL, fz1, mCall, mCallI, mAp, mAd, mNeg, mYes, mLc, mNx, mBad, mRaise, mBk, mCt, stB, gN, gs0, gs1, gT, rsA, rs, allV, BV.fz, Nw.bv, R.bind, nox, gt, two, fAdd_int, fSub, fCmp, fLen, fList, fTuple, fInt, fAbs, fMax, fMin, fIx, fSlH, fSlL, fSl, fRev, fIs, fNeg, isNon, Option.bind_some, Option.map_some, List.set_cons_zero, List.set_cons_succ, List.map_cons, List.map_nil, List.cons_append, List.nil_append, List.replicate, List.length_cons, List.length_nil, Nat.zero_add, Nat.reduceAdd, if_true, ite_true, reduceIte, wipeE, Bool.true_or, Bool.false_or, Bool.true_and, Bool.false_and, Bool.not_true, Bool.not_false, Bool.false_eq_true, if_false, mWord, yv]; rfl)).trans ?_
      refine (mSeq_nx (by simp only [Nw.lf, lf, lfA_ints, SZ, Nat.reduceLeDiff, z1, z2, z3, z4, z5, z6, z7, z8, z9, z10, z11, z12, z13, z14, z15, z16, z17, z18, z19, z20, z21, z22, z23, z24, Nat.zero_le, fin, finI, mSeq, mIf, mRet, mRetN, mDrop, mSet, mAsg, mPar, mAug, mSetIx, mMe, mFor, mIs, mEn, mZa, mN, mK, mA0, mA1, mB, mT, mAnd, mOr, mNot, mAndV, mOrV, mNotV, mIfE, mCh, mTup, mLst, mFz1, mFzA, fzL, fz1, mCall, mCallI, mAp, mAd, mNeg, mYes, mLc, mNx, mBad, mRaise, mBk, mCt, stB, gN, gs0, gs1, gT, rsA, rs, allV, BV.fz, Nw.bv, R.bind, nox, gt, two, fAdd_int, fSub, fCmp, fLen, fList, fTuple, fInt, fAbs, fMax, fMin, fIx, fSlH, fSlL, fSl, fRev, fIs, fNeg, isNon, Option.bind_some, Option.map_some, List.set_cons_zero, List.set_cons_succ, List.map_cons, List.map_nil, List.cons_append, List.nil_append, List.replicate, List.length_cons, List.length_nil, Nat.zero_add, Nat.reduceAdd, if_true, ite_true, reduceIte, wipeE, Bool.true_or, Bool.false_or, Bool.true_and, Bool.false_and, Bool.not_true, Bool.not_false, Bool.false_eq_true, if_false, mWord2, yl, app1]; rfl)).trans ?_
      simp only [Nw.lf, lf, lfA_ints, SZ, Nat.reduceLeDiff, z1, z2, z3, z4, z5, z6, z7, z8, z9, z10, z11, z12, z13, z14, z15, z16, z17, z18, z19, z20, z21, z22, z23, z24, Nat.zero_le, fin, finI, mSeq, mIf, mRet, mRetN, mDrop, mSet, mAsg, mPar, mAug, mSetIx, mMe, mFor, mIs, mEn, mZa, mN, mK, mA0, mA1, mB, mT, mAnd, mOr, mNot, mAndV, mOrV, mNotV, mIfE, mCh, mTup, mLst, mFz1, mFzA, fzL, fz1, mCall, mCallI, mAp, mAd, mNeg, mYes, mLc, mNx, mBad, mRaise, mBk, mCt, stB, gN, gs0, gs1, gT, rsA, rs, allV, BV.fz, Nw.bv, R.bind, nox, gt, two, fAdd_int, fSub, fCmp, fLen, fList, fTuple, fInt, fAbs, fMax, fMin, fIx, fSlH, fSlL, fSl, fRev, fIs, fNeg, isNon, Option.bind_some, Option.map_some, List.set_cons_zero, List.set_cons_succ, List.map_cons, List.map_nil, List.cons_append, List.nil_append, List.replicate, List.length_cons, List.length_nil, Nat.zero_add, Nat.reduceAdd, if_true, ite_true, reduceIte, wipeE, Bool.true_or, Bool.false_or, Bool.true_and, Bool.false_and, Bool.not_true, Bool.not_false, Bool.false_eq_true, if_false, ne2]
  obtain ⟨r5, r6, tail⟩ := tail
  refine ⟨x10, .v (.int n), .v (.tup ((trim (slp p a)).map D.int)), .o [.int (pe n a % p), .tup ((trim (slp p a)).map D.int)], r5, r6, .o [.str "BadRest", .str "BadNumber"], .v (.int e), .v (.int f), .v (.tup (a.map D.int)), .v (.tup (b.map D.int)), .v (.int p), .v (.tup (r.map D.int)), ?_, d10⟩
  unfold Fb_law_1
  refine (mSeq_nx (by simp only [Nw.lf, lf, lfA_ints, SZ, Nat.reduceLeDiff, z1, z2, z3, z4, z5, z6, z7, z8, z9, z10, z11, z12, z13, z14, z15, z16, z17, z18, z19, z20, z21, z22, z23, z24, Nat.zero_le, fin, finI, mSeq, mIf, mRet, mRetN, mDrop, mSet, mAsg, mPar, mAug, mSetIx, mMe, mFor, mIs, mEn, mZa, mN, mK, mA0, mA1, mB, mT, mAnd, mOr, mNot, mAndV, mOrV, mNotV, mIfE, mCh, mTup, mLst, mFz1, mFzA, fzL, fz1, mCall, mCallI, mAp, mAd, mNeg, mYes, mLc, mNx, mBad, mRaise, mBk, mCt, stB, gN, gs0, gs1, gT, rsA, rs, allV, BV.fz, Nw.bv, R.bind, nox, gt, two, fAdd_int, fSub, fCmp, fLen, fList, fTuple, fInt, fAbs, fMax, fMin, fIx, fSlH, fSlL, fSl, fRev, fIs, fNeg, isNon, Option.bind_some, Option.map_some, List.set_cons_zero, List.set_cons_succ, List.map_cons, List.map_nil, List.cons_append, List.nil_append, List.replicate, List.length_cons, List.length_nil, Nat.zero_add, Nat.reduceAdd, if_true, ite_true, reduceIte, wipeE, Bool.true_or, Bool.false_or, Bool.true_and, Bool.false_and, Bool.not_true, Bool.not_false, Bool.false_eq_true, if_false, e1]; rfl)).trans ?_
  refine (mSeq_nx (by simp only [Nw.lf, lf, lfA_ints, SZ, Nat.reduceLeDiff, z1, z2, z3, z4, z5, z6, z7, z8, z9, z10, z11, z12, z13, z14, z15, z16, z17, z18, z19, z20, z21, z22, z23, z24, Nat.zero_le, fin, finI, mSeq, mIf, mRet, mRetN, mDrop, mSet, mAsg, mPar, mAug, mSetIx, mMe, mFor, mIs, mEn, mZa, mN, mK, mA0, mA1, mB, mT, mAnd, mOr, mNot, mAndV, mOrV, mNotV, mIfE, mCh, mTup, mLst, mFz1, mFzA, fzL, fz1, mCall, mCallI, mAp, mAd, mNeg, mYes, mLc, mNx, mBad, mRaise, mBk, mCt, stB, gN, gs0, gs1, gT, rsA, rs, allV, BV.fz, Nw.bv, R.bind, nox, gt, two, fAdd_int, fSub, fCmp, fLen, fList, fTuple, fInt, fAbs, fMax, fMin, fIx, fSlH, fSlL, fSl, fRev, fIs, fNeg, isNon, Option.bind_some, Option.map_some, List.set_cons_zero, List.set_cons_succ, List.map_cons, List.map_nil, List.cons_append, List.nil_append, List.replicate, List.length_cons, List.length_nil, Nat.zero_add, Nat.reduceAdd, if_true, ite_true, reduceIte, wipeE, Bool.true_or, Bool.false_or, Bool.true_and, Bool.false_and, Bool.not_true, Bool.not_false, Bool.false_eq_true, if_false, hmr, mLcL, Le_law_2, e2, e3, e4, gU]; rfl)).trans ?_
  refine (mSeq_nx (by simp only [Nw.lf, lf, lfA_ints, SZ, Nat.reduceLeDiff, z1, z2, z3, z4, z5, z6, z7, z8, z9, z10, z11, z12, z13, z14, z15, z16, z17, z18, z19, z20, z21, z22, z23, z24, Nat.zero_le, fin, finI, mSeq, mIf, mRet, mRetN, mDrop, mSet, mAsg, mPar, mAug, mSetIx, mMe, mFor, mIs, mEn, mZa, mN, mK, mA0, mA1, mB, mT, mAnd, mOr, mNot, mAndV, mOrV, mNotV, mIfE, mCh, mTup, mLst, mFz1, mFzA, fzL, fz1, mCall, mCallI, mAp, mAd, mNeg, mYes, mLc, mNx, mBad, mRaise, mBk, mCt, stB, gN, gs0, gs1, gT, rsA, rs, allV, BV.fz, Nw.bv, R.bind, nox, gt, two, fAdd_int, fSub, fCmp, fLen, fList, fTuple, fInt, fAbs, fMax, fMin, fIx, fSlH, fSlL, fSl, fRev, fIs, fNeg, isNon, Option.bind_some, Option.map_some, List.set_cons_zero, List.set_cons_succ, List.map_cons, List.map_nil, List.cons_append, List.nil_append, List.replicate, List.length_cons, List.length_nil, Nat.zero_add, Nat.reduceAdd, if_true, ite_true, reduceIte, wipeE, Bool.true_or, Bool.false_or, Bool.true_and, Bool.false_and, Bool.not_true, Bool.not_false, Bool.false_eq_true, if_false, e5]; rfl)).trans ?_
  refine (mSeq_nx (by simp only [Nw.lf, lf, lfA_ints, SZ, Nat.reduceLeDiff, z1, z2, z3, z4, z5, z6, z7, z8, z9, z10, z11, z12, z13, z14, z15, z16, z17, z18, z19, z20, z21, z22, z23, z24, Nat.zero_le, fin, finI, mSeq, mIf, mRet, mRetN, mDrop, mSet, mAsg, mPar, mAug, mSetIx, mMe, mFor, mIs, mEn, mZa, mN, mK, mA0, mA1, mB, mT, mAnd, mOr, mNot, mAndV, mOrV, mNotV, mIfE, mCh, mTup, mLst, mFz1, mFzA, fzL, fz1, mCall, mCallI, mAp, mAd, mNeg, mYes, mLc, mNx, mBad, mRaise, mBk, mCt, stB, gN, gs0, gs1, gT, rsA, rs, allV, BV.fz, Nw.bv, R.bind, nox, gt, two, fAdd_int, fSub, fCmp, fLen, fList, fTuple, fInt, fAbs, fMax, fMin, fIx, fSlH, fSlL, fSl, fRev, fIs, fNeg, isNon, Option.bind_some, Option.map_some, List.set_cons_zero, List.set_cons_succ, List.map_cons, List.map_nil, List.cons_append, List.nil_append, List.replicate, List.length_cons, List.length_nil, Nat.zero_add, Nat.reduceAdd, if_true, ite_true, reduceIte, wipeE, Bool.true_or, Bool.false_or, Bool.true_and, Bool.false_and, Bool.not_true, Bool.not_false, Bool.false_eq_true, if_false, hsl, hd, et]; rfl)).trans ?_
  refine (mSeq_nx (by simp only [Nw.lf, lf, lfA_ints, SZ, Nat.reduceLeDiff, z1, z2, z3, z4, z5, z6, z7, z8, z9, z10, z11, z12, z13, z14, z15, z16, z17, z18, z19, z20, z21, z22, z23, z24, Nat.zero_le, fin, finI, mSeq, mIf, mRet, mRetN, mDrop, mSet, mAsg, mPar, mAug, mSetIx, mMe, mFor, mIs, mEn, mZa, mN, mK, mA0, mA1, mB, mT, mAnd, mOr, mNot, mAndV, mOrV, mNotV, mIfE, mCh, mTup, mLst, mFz1, mFzA, fzL, fz1, mCall, mCallI, mAp, mAd, mNeg, mYes, mLc, mNx, mBad, mRaise, mBk, mCt, stB, gN, gs0, gs1, gT, rsA, rs, allV, BV.fz, Nw.bv, R.bind, nox, gt, two, fAdd_int, fSub, fCmp, fLen, fList, fTuple, fInt, fAbs, fMax, fMin, fIx, fSlH, fSlL, fSl, fRev, fIs, fNeg, isNon, Option.bind_some, Option.map_some, List.set_cons_zero, List.set_cons_succ, List.map_cons, List.map_nil, List.cons_append, List.nil_append, List.replicate, List.length_cons, List.length_nil, Nat.zero_add, Nat.reduceAdd, if_true, ite_true, reduceIte, wipeE, Bool.true_or, Bool.false_or, Bool.true_and, Bool.false_and, Bool.not_true, Bool.not_false, Bool.false_eq_true, if_false, ev, es]; rfl)).trans ?_
  refine (mSeq_nx (by simp only [Nw.lf, lf, lfA_ints, SZ, Nat.reduceLeDiff, z1, z2, z3, z4, z5, z6, z7, z8, z9, z10, z11, z12, z13, z14, z15, z16, z17, z18, z19, z20, z21, z22, z23, z24, Nat.zero_le, fin, finI, mSeq, mIf, mRet, mRetN, mDrop, mSet, mAsg, mPar, mAug, mSetIx, mMe, mFor, mIs, mEn, mZa, mN, mK, mA0, mA1, mB, mT, mAnd, mOr, mNot, mAndV, mOrV, mNotV, mIfE, mCh, mTup, mLst, mFz1, mFzA, fzL, fz1, mCall, mCallI, mAp, mAd, mNeg, mYes, mLc, mNx, mBad, mRaise, mBk, mCt, stB, gN, gs0, gs1, gT, rsA, rs, allV, BV.fz, Nw.bv, R.bind, nox, gt, two, fAdd_int, fSub, fCmp, fLen, fList, fTuple, fInt, fAbs, fMax, fMin, fIx, fSlH, fSlL, fSl, fRev, fIs, fNeg, isNon, Option.bind_some, Option.map_some, List.set_cons_zero, List.set_cons_succ, List.map_cons, List.map_nil, List.cons_append, List.nil_append, List.replicate, List.length_cons, List.length_nil, Nat.zero_add, Nat.reduceAdd, if_true, ite_true, reduceIte, wipeE, Bool.true_or, Bool.false_or, Bool.true_and, Bool.false_and, Bool.not_true, Bool.not_false, Bool.false_eq_true, if_false, ew, hsame]; rfl)).trans ?_
  refine (mSeq_nx (by simp only [Nw.lf, lf, lfA_ints, SZ, Nat.reduceLeDiff, z1, z2, z3, z4, z5, z6, z7, z8, z9, z10, z11, z12, z13, z14, z15, z16, z17, z18, z19, z20, z21, z22, z23, z24, Nat.zero_le, fin, finI, mSeq, mIf, mRet, mRetN, mDrop, mSet, mAsg, mPar, mAug, mSetIx, mMe, mFor, mIs, mEn, mZa, mN, mK, mA0, mA1, mB, mT, mAnd, mOr, mNot, mAndV, mOrV, mNotV, mIfE, mCh, mTup, mLst, mFz1, mFzA, fzL, fz1, mCall, mCallI, mAp, mAd, mNeg, mYes, mLc, mNx, mBad, mRaise, mBk, mCt, stB, gN, gs0, gs1, gT, rsA, rs, allV, BV.fz, Nw.bv, R.bind, nox, gt, two, fAdd_int, fSub, fCmp, fLen, fList, fTuple, fInt, fAbs, fMax, fMin, fIx, fSlH, fSlL, fSl, fRev, fIs, fNeg, isNon, Option.bind_some, Option.map_some, List.set_cons_zero, List.set_cons_succ, List.map_cons, List.map_nil, List.cons_append, List.nil_append, List.replicate, List.length_cons, List.length_nil, Nat.zero_add, Nat.reduceAdd, if_true, ite_true, reduceIte, wipeE, Bool.true_or, Bool.false_or, Bool.true_and, Bool.false_and, Bool.not_true, Bool.not_false, Bool.false_eq_true, if_false, pow6, pow39, pow9, e6, e7, e8]; rfl)).trans ?_
  exact tail
theorem eq_end : fEq [.tup [.int 1, .int 1], .tup [.int 1, .int 1]] = some (.v (.bl true)) := by
  have := fEq_tI [1, 1] [1, 1]
  simpa using this
theorem law_true (ns : List Int) (_ : ns.length ≤ 63) : M_law [.scr ns] = .ok (.v (.bl true)) := by
  obtain ⟨xs, e1, d1⟩ := e__law_begin ns
  obtain ⟨Γ', g1, x', s1, s2, s3, s4, s5, s6, s7, s9, s10, s11, s12, s13, s14, d', rfl⟩ := mForL_inv (f := gN 1) (b := Fb_law_1) (fun Γ => ∃ xs s1 s2 s3 s4 s5 s6 s7 s9 s10 s11 s12 s13 s14, Dr xs ∧ Γ = [.v (.scr ns), s1, s2, s3, s4, s5, s6, s7, .o xs, s9, s10, s11, s12, s13, s14, .no, .no, .no]) (rngD 0 1 4) [.v (.scr ns), .no, .no, .no, .no, .no, .no, .no, .o xs, .no, .no, .no, .no, .no, .no, .no, .no, .no] ⟨xs, _, _, _, _, _, _, _, _, _, _, _, _, _, d1, rfl⟩
    (by
      rintro d hd Γ ⟨xs, s1, s2, s3, s4, s5, s6, s7, s9, s10, s11, s12, s13, s14, h, rfl⟩
      obtain ⟨xs', r2, r3, r4, r5, r6, r7, r9, r10, r11, r12, r13, r14, e, h'⟩ := b_law (.v (.scr ns)) (.v d) s2 s3 s4 s5 s6 s7 s9 s10 s11 s12 s13 s14 xs h
      exact ⟨_, _, rfl, e, xs', _, _, _, _, _, _, _, _, _, _, _, _, _, h', rfl⟩)
  have hr := mR1_n (ma := mA1 (mK (.int 4)) mA0) (Γ := [.v (.scr ns), .no, .no, .no, .no, .no, .no, .no, .o xs, .no, .no, .no, .no, .no, .no, .no, .no, .no]) (Γ1 := [.v (.scr ns), .no, .no, .no, .no, .no, .no, .no, .o xs, .no, .no, .no, .no, .no, .no, .no, .no, .no]) (n := 4) (by simp only [Nw.lf, lf, lfA_ints, SZ, Nat.reduceLeDiff, z1, z2, z3, z4, z5, z6, z7, z8, z9, z10, z11, z12, z13, z14, z15, z16, z17, z18, z19, z20, z21, z22, z23, z24, Nat.zero_le, fin, finI, mSeq, mIf, mRet, mRetN, mDrop, mSet, mAsg, mPar, mAug, mSetIx, mMe, mFor, mIs, mEn, mZa, mN, mK, mA0, mA1, mB, mT, mAnd, mOr, mNot, mAndV, mOrV, mNotV, mIfE, mCh, mTup, mLst, mFz1, mFzA, fzL, fz1, mCall, mCallI, mAp, mAd, mNeg, mYes, mLc, mNx, mBad, mRaise, mBk, mCt, stB, gN, gs0, gs1, gT, rsA, rs, allV, BV.fz, Nw.bv, R.bind, nox, gt, two, fAdd_int, fSub, fCmp, fLen, fList, fTuple, fInt, fAbs, fMax, fMin, fIx, fSlH, fSlL, fSl, fRev, fIs, fNeg, isNon, Option.bind_some, Option.map_some, List.set_cons_zero, List.set_cons_succ, List.map_cons, List.map_nil, List.cons_append, List.nil_append, List.replicate, List.length_cons, List.length_nil, Nat.zero_add, Nat.reduceAdd, if_true, ite_true, reduceIte, wipeE, Bool.true_or, Bool.false_or, Bool.true_and, Bool.false_and, Bool.not_true, Bool.not_false, Bool.false_eq_true, if_false]; rfl) (by omega)
  have p11 : Po 2 [1, 1] := ⟨by decide, by decide⟩
  have p01 : Po 2 [0, 1] := ⟨by decide, by decide⟩
  have p111 : Po 2 [1, 1, 1] := ⟨by decide, by decide⟩
  have t1 := e_poly_value [1, 1] 1 2 (by decide) p11 (by simp) (by omega)
  have v1 : pe 1 [1, 1] % 2 = 0 := by decide
  rw [v1] at t1
  obtain ⟨t, t2, L⟩ := e_poly_put [0, 1] [1, 1] [1, 1, 1] 2 (by decide) p01 p11 p111 (by simp) (by simp) (by simp) (by simp)
  have ht : t = [1, 1] := by
    refine L.uq (by decide) p111 (by simp) ⟨p11, by simp, ?_⟩
    have : Rq.comp (Rq.s 2 [1, 1]) [0, 1] = Rq.s 2 [1, 1] := by
      simp only [Rq.comp, Rq.ic_zero, Rq.ic_one]; grind
    rw [this]; exact Rq.Cg.rfl' ..
  subst ht
  simp only [List.map_cons, List.map_nil] at t1 t2
  simp only [M_law, B_law, Nw.lf, lf, lfA_ints, SZ, Nat.reduceLeDiff, z1, z2, z3, z4, z5, z6, z7, z8, z9, z10, z11, z12, z13, z14, z15, z16, z17, z18, z19, z20, z21, z22, z23, z24, Nat.zero_le, fin, finI, mSeq, mIf, mRet, mRetN, mDrop, mSet, mAsg, mPar, mAug, mSetIx, mMe, mFor, mIs, mEn, mZa, mN, mK, mA0, mA1, mB, mT, mAnd, mOr, mNot, mAndV, mOrV, mNotV, mIfE, mCh, mTup, mLst, mFz1, mFzA, fzL, fz1, mCall, mCallI, mAp, mAd, mNeg, mYes, mLc, mNx, mBad, mRaise, mBk, mCt, stB, gN, gs0, gs1, gT, rsA, rs, allV, BV.fz, Nw.bv, R.bind, nox, gt, two, fAdd_int, fSub, fCmp, fLen, fList, fTuple, fInt, fAbs, fMax, fMin, fIx, fSlH, fSlL, fSl, fRev, fIs, fNeg, isNon, Option.bind_some, Option.map_some, List.set_cons_zero, List.set_cons_succ, List.map_cons, List.map_nil, List.cons_append, List.nil_append, List.replicate, List.length_cons, List.length_nil, Nat.zero_add, Nat.reduceAdd, if_true, ite_true, reduceIte, wipeE, Bool.true_or, Bool.false_or, Bool.true_and, Bool.false_and, Bool.not_true, Bool.not_false, Bool.false_eq_true, if_false, e1, hr, g1, t1, t2, fEq_int, decide_true, eq_end]
end K05
namespace K05
open PySem PySem.Spec PyProof.Rows L2 Rg Mn
def d_is_prime : He.DefD := ⟨("is_prime", none), "is_prime", "is_prime", defArgs s_is_prime, defBody s_is_prime, defScope s_is_prime, [], []⟩
def d_need_prime : He.DefD := ⟨("need_prime", none), "need_prime", "need_prime", defArgs s_need_prime, defBody s_need_prime, defScope s_need_prime, [], []⟩
def d_is_rest : He.DefD := ⟨("is_rest", none), "is_rest", "is_rest", defArgs s_is_rest, defBody s_is_rest, defScope s_is_rest, [], []⟩
def d_raised : He.DefD := ⟨("raised", none), "raised", "raised", defArgs s_raised, defBody s_raised, defScope s_raised, [], []⟩
def d_turned_over : He.DefD := ⟨("turned_over", none), "turned_over", "turned_over", defArgs s_turned_over, defBody s_turned_over, defScope s_turned_over, [], []⟩
def d_is_poly : He.DefD := ⟨("is_poly", none), "is_poly", "is_poly", defArgs s_is_poly, defBody s_is_poly, defScope s_is_poly, [], []⟩
def d_need_polys : He.DefD := ⟨("need_polys", none), "need_polys", "need_polys", defArgs s_need_polys, defBody s_need_polys, defScope s_need_polys, [], []⟩
def d_cut : He.DefD := ⟨("cut", none), "cut", "cut", defArgs s_cut, defBody s_cut, defScope s_cut, [], []⟩
def d_widened : He.DefD := ⟨("widened", none), "widened", "widened", defArgs s_widened, defBody s_widened, defScope s_widened, [], []⟩
def d_blended : He.DefD := ⟨("blended", none), "blended", "blended", defArgs s_blended, defBody s_blended, defScope s_blended, [], []⟩
def d_multiplied : He.DefD := ⟨("multiplied", none), "multiplied", "multiplied", defArgs s_multiplied, defBody s_multiplied, defScope s_multiplied, [], []⟩
def d_divided : He.DefD := ⟨("divided", none), "divided", "divided", defArgs s_divided, defBody s_divided, defScope s_divided, [], []⟩
def d_left_by : He.DefD := ⟨("left_by", none), "left_by", "left_by", defArgs s_left_by, defBody s_left_by, defScope s_left_by, [], []⟩
def d_left_raised : He.DefD := ⟨("left_raised", none), "left_raised", "left_raised", defArgs s_left_raised, defBody s_left_raised, defScope s_left_raised, [], []⟩
def d_put_through : He.DefD := ⟨("put_through", none), "put_through", "put_through", defArgs s_put_through, defBody s_put_through, defScope s_put_through, [], []⟩
def d_worth_at : He.DefD := ⟨("worth_at", none), "worth_at", "worth_at", defArgs s_worth_at, defBody s_worth_at, defScope s_worth_at, [], []⟩
def d_sloped : He.DefD := ⟨("sloped", none), "sloped", "sloped", defArgs s_sloped, defBody s_sloped, defScope s_sloped, [], []⟩
def d_poly_value : He.DefD := ⟨("poly_value", none), "poly_value", "poly_value", defArgs s_poly_value, defBody s_poly_value, defScope s_poly_value, [], [("prime", .int 2)]⟩
def d_poly_put : He.DefD := ⟨("poly_put", none), "poly_put", "poly_put", defArgs s_poly_put, defBody s_poly_put, defScope s_poly_put, [], [("prime", .int 2)]⟩
def d_poly_left : He.DefD := ⟨("poly_left", none), "poly_left", "poly_left", defArgs s_poly_left, defBody s_poly_left, defScope s_poly_left, [], [("prime", .int 2)]⟩
def d_poly_slope : He.DefD := ⟨("poly_slope", none), "poly_slope", "poly_slope", defArgs s_poly_slope, defBody s_poly_slope, defScope s_poly_slope, [], [("prime", .int 2)]⟩
def d__law_begin : He.DefD := ⟨("_law_begin", none), "_law_begin", "_law_begin", defArgs s__law_begin, defBody s__law_begin, defScope s__law_begin, [], []⟩
def d__law_take : He.DefD := ⟨("_law_take", none), "_law_take", "_law_take", defArgs s__law_take, defBody s__law_take, defScope s__law_take, [], []⟩
def d__law_of : He.DefD := ⟨("_law_of", none), "_law_of", "_law_of", defArgs s__law_of, defBody s__law_of, defScope s__law_of, [], []⟩
def d__law_same : He.DefD := ⟨("_law_same", none), "_law_same", "_law_same", defArgs s__law_same, defBody s__law_same, defScope s__law_same, [], []⟩
def d__law_why : He.DefD := ⟨("_law_why", none), "_law_why", "_law_why", defArgs s__law_why, defBody s__law_why, defScope s__law_why, [], []⟩
def d__law_word : He.DefD := ⟨("_law_word", none), "_law_word", "_law_word", defArgs s__law_word, defBody s__law_word, defScope s__law_word, [], []⟩
def d__law_primes : He.DefD := ⟨("_law_primes", none), "_law_primes", "_law_primes", defArgs s__law_primes, defBody s__law_primes, defScope s__law_primes, [], []⟩
def d__law_any_prime : He.DefD := ⟨("_law_any_prime", none), "_law_any_prime", "_law_any_prime", defArgs s__law_any_prime, defBody s__law_any_prime, defScope s__law_any_prime, [], []⟩
def d__law_far : He.DefD := ⟨("_law_far", none), "_law_far", "_law_far", defArgs s__law_far, defBody s__law_far, defScope s__law_far, [], []⟩
def d__law_trim : He.DefD := ⟨("_law_trim", none), "_law_trim", "_law_trim", defArgs s__law_trim, defBody s__law_trim, defScope s__law_trim, [], []⟩
def d__law_rests : He.DefD := ⟨("_law_rests", none), "_law_rests", "_law_rests", defArgs s__law_rests, defBody s__law_rests, defScope s__law_rests, [], []⟩
def d__law_poly : He.DefD := ⟨("_law_poly", none), "_law_poly", "_law_poly", defArgs s__law_poly, defBody s__law_poly, defScope s__law_poly, [], []⟩
def d__law_blend : He.DefD := ⟨("_law_blend", none), "_law_blend", "_law_blend", defArgs s__law_blend, defBody s__law_blend, defScope s__law_blend, [], []⟩
def d__law_conv : He.DefD := ⟨("_law_conv", none), "_law_conv", "_law_conv", defArgs s__law_conv, defBody s__law_conv, defScope s__law_conv, [], []⟩
def d__law_mul : He.DefD := ⟨("_law_mul", none), "_law_mul", "_law_mul", defArgs s__law_mul, defBody s__law_mul, defScope s__law_mul, [], []⟩
def d__law_back : He.DefD := ⟨("_law_back", none), "_law_back", "_law_back", defArgs s__law_back, defBody s__law_back, defScope s__law_back, [], []⟩
def d__law_cut_by : He.DefD := ⟨("_law_cut_by", none), "_law_cut_by", "_law_cut_by", defArgs s__law_cut_by, defBody s__law_cut_by, defScope s__law_cut_by, [], []⟩
def d__law_rem : He.DefD := ⟨("_law_rem", none), "_law_rem", "_law_rem", defArgs s__law_rem, defBody s__law_rem, defScope s__law_rem, [], []⟩
def d__law_lift : He.DefD := ⟨("_law_lift", none), "_law_lift", "_law_lift", defArgs s__law_lift, defBody s__law_lift, defScope s__law_lift, [], []⟩
def d__law_put : He.DefD := ⟨("_law_put", none), "_law_put", "_law_put", defArgs s__law_put, defBody s__law_put, defScope s__law_put, [], []⟩
def d__law_worth : He.DefD := ⟨("_law_worth", none), "_law_worth", "_law_worth", defArgs s__law_worth, defBody s__law_worth, defScope s__law_worth, [], []⟩
def d_law : He.DefD := ⟨("law", none), "law", "law", defArgs s_law, defBody s_law, defScope s_law, [], []⟩
def d_i_RungError : He.DefD := ⟨("RungError", some "__init__"), "__init__", "RungError.__init__", defArgs i_RungError, defBody i_RungError, defScope i_RungError, [.str "RungError"], []⟩
def d_i_BadPrime : He.DefD := ⟨("BadPrime", some "__init__"), "__init__", "BadPrime.__init__", defArgs i_BadPrime, defBody i_BadPrime, defScope i_BadPrime, [], []⟩
def d_i_BadRest : He.DefD := ⟨("BadRest", some "__init__"), "__init__", "BadRest.__init__", defArgs i_BadRest, defBody i_BadRest, defScope i_BadRest, [], []⟩
def d_i_BadPoly : He.DefD := ⟨("BadPoly", some "__init__"), "__init__", "BadPoly.__init__", defArgs i_BadPoly, defBody i_BadPoly, defScope i_BadPoly, [], []⟩
def d_i_BadNumber : He.DefD := ⟨("BadNumber", some "__init__"), "__init__", "BadNumber.__init__", defArgs i_BadNumber, defBody i_BadNumber, defScope i_BadNumber, [], []⟩
def d_i_NoInverse : He.DefD := ⟨("NoInverse", some "__init__"), "__init__", "NoInverse.__init__", defArgs i_NoInverse, defBody i_NoInverse, defScope i_NoInverse, [], []⟩
def fn : List He.DefD := [d_is_prime, d_need_prime, d_is_rest, d_raised, d_turned_over, d_is_poly, d_need_polys, d_cut, d_widened, d_blended, d_multiplied, d_divided, d_left_by, d_left_raised, d_put_through, d_worth_at, d_sloped, d_poly_value, d_poly_put, d_poly_left, d_poly_slope, d__law_begin, d__law_take, d__law_of, d__law_same, d__law_why, d__law_word, d__law_primes, d__law_any_prime, d__law_far, d__law_trim, d__law_rests, d__law_poly, d__law_blend, d__law_conv, d__law_mul, d__law_back, d__law_cut_by, d__law_rem, d__law_lift, d__law_put, d__law_worth, d_law, d_i_RungError, d_i_BadPrime, d_i_BadRest, d_i_BadPoly, d_i_BadNumber, d_i_NoInverse]
def tf : List He.Defn := [("law", none)]
def fa : List He.Fa := ([.glo "is_prime", .glo "need_prime", .glo "is_rest", .glo "raised", .glo "turned_over", .glo "is_poly", .glo "need_polys", .glo "cut", .glo "widened", .glo "blended", .glo "multiplied", .glo "divided", .glo "left_by", .glo "left_raised", .glo "put_through", .glo "worth_at", .glo "sloped", .glo "poly_value", .glo "poly_put", .glo "poly_left", .glo "poly_slope", .glo "_law_begin", .glo "_law_take", .glo "_law_of", .glo "_law_same", .glo "_law_why", .glo "_law_word", .glo "_law_primes", .glo "_law_any_prime", .glo "_law_far"] : List He.Fa) ++ ([.glo "_law_trim", .glo "_law_rests", .glo "_law_poly", .glo "_law_blend", .glo "_law_conv", .glo "_law_mul", .glo "_law_back", .glo "_law_cut_by", .glo "_law_rem", .glo "_law_lift", .glo "_law_put", .glo "_law_worth", .glo "law", .glo "RungError", .glo "BadPrime", .glo "BadRest", .glo "BadPoly", .glo "BadNumber", .glo "NoInverse", .glo "NotWhole", .glo "TooTall", .glo "BadTable", .glo "BadText", .glo "BadPage", .glo "Stopped", .glo "Used", .glo "Held", .glo "NoGuest", .glo "NoName", .glo "RungMissing"] : List He.Fa) ++ ([.free "abs", .free "all", .free "bool", .free "enumerate", .free "int", .free "isinstance", .free "len", .free "list", .free "max", .free "range", .free "str", .free "tuple", .free "zip", .int "MOST_PLACES" 25, .glo "PRIMES"] : List He.Fa)
def exs (K : PySem.W.Frag) : List Bool := [He.tupB K "PRIMES" (k_PRIMES.map He.Dv.int), bseB K "RungError", subB K "BadPrime" [], iniB K "BadPrime", subB K "BadRest" [], iniB K "BadRest", subB K "BadPoly" [], iniB K "BadPoly", subB K "BadNumber" [], iniB K "BadNumber", subB K "NoInverse" [], iniB K "NoInverse", (kn.all fun c => whyB K c), tabsUn K, tabsIn tf K]
def ex (K : PySem.W.Frag) : Bool := (fa.all fun f => f.ok K) && (exs K).all id
abbrev hk : PySem.W.Hook := hookY 6 fn tf ex
def ob (s : PySem.W.SharedT) : AlY := obsY 6 fn tf ex (HandSHeadRun.getT s)
theorem ob_eq (s : PySem.W.SharedT) : ob s = hk.obs s.abs := obsY_eq (HandSHeadRun.getT_eq s)
abbrev RR : PySem.W.OpenRow := PySem.W.OpenLaw.row PySem.Challenge.rw_rungfields_k05_values_slopes_and_put_in
def loose : List Str := (["RungError", "RungMissing", "BadPrime", "BadRest", "BadPoly", "BadTable", "NotWhole", "BadNumber", "NoInverse", "TooTall", "BadText", "Used", "Held", "BadPage", "Stopped", "NoGuest", "NoName", "PRIMES", "LEAST", "is_prime", "need_prime", "is_rest", "raised", "turned_over", "MOST_PLACES", "is_poly", "need_polys", "cut", "widened", "blended"] : List Str) ++ (["multiplied", "divided", "left_by", "left_raised", "put_through", "worth_at", "sloped", "poly_value", "poly_put", "poly_left", "poly_slope", "_law_begin", "_law_take", "_law_of", "_law_same", "_law_why", "_law_word", "_law_primes", "_law_any_prime", "_law_far", "_law_trim", "_law_rests", "_law_poly", "_law_blend", "_law_conv", "_law_mul", "_law_back", "_law_cut_by", "_law_rem", "_law_lift"] : List Str) ++ (["_law_put", "_law_worth"] : List Str)
theorem run (w : World) : HandSHeadRun.RunEq RR (PySem.W.view RR.prog [66]) hk ob 20000 loose w := by
  intro os
  kernel_rfl
theorem fact {K : PySem.W.Frag} (h : ex K = true) (i : Nat) {f : He.Fa} (e : fa[i]? = some f) : f.ok K = true := List.all_eq_true.mp (He.ba h).1 f (List.mem_of_getElem? e)
theorem extra {K : PySem.W.Frag} (h : ex K = true) (i : Nat) {b : Bool} (e : (exs K)[i]? = some b) : b = true := List.all_eq_true.mp (He.ba h).2 b (List.mem_of_getElem? e)
theorem all_mk {l : PySem.W.OpenLaw} {w : World} {K : PySem.W.Frag} {h : Heap} {mg : Str → Option Value} {fa : Addr} (X : K.In h) (G : h.Ns mainGlobals mg) (hfa : mg "law" = some (.ref fa)) (c : SaysY fn tf ex h K) : LamX.LawAtS l w K (L2.CX l.prog w) 10 63 "_law_script" mg fa h := by
  have cm := c.more
  obtain ⟨fd0, F0⟩ := c.d d_is_prime (List.mem_of_getElem? (show fn[0]? = some d_is_prime from rfl))
  replace F0 : FunD K "is_prime" "is_prime" (defArgs s_is_prime) (defBody s_is_prime) (defScope s_is_prime) [] [] (He.fAd K ("is_prime", none)) fd0 := F0
  have g0 := He.glo_ok X G (fact cm 0 (f := .glo "is_prime") rfl)
  have b0 := F0.bindsN (ps := ["number"]) fun _ _ _ _ _ _ us hl => match us, hl with | [_], _ => rfl
  obtain ⟨fd1, F1⟩ := c.d d_need_prime (List.mem_of_getElem? (show fn[1]? = some d_need_prime from rfl))
  replace F1 : FunD K "need_prime" "need_prime" (defArgs s_need_prime) (defBody s_need_prime) (defScope s_need_prime) [] [] (He.fAd K ("need_prime", none)) fd1 := F1
  have g1 := He.glo_ok X G (fact cm 1 (f := .glo "need_prime") rfl)
  have b1 := F1.bindsN (ps := ["prime"]) fun _ _ _ _ _ _ us hl => match us, hl with | [_], _ => rfl
  obtain ⟨fd2, F2⟩ := c.d d_is_rest (List.mem_of_getElem? (show fn[2]? = some d_is_rest from rfl))
  replace F2 : FunD K "is_rest" "is_rest" (defArgs s_is_rest) (defBody s_is_rest) (defScope s_is_rest) [] [] (He.fAd K ("is_rest", none)) fd2 := F2
  have g2 := He.glo_ok X G (fact cm 2 (f := .glo "is_rest") rfl)
  have b2 := F2.bindsN (ps := ["number", "prime"]) fun _ _ _ _ _ _ us hl => match us, hl with | [_, _], _ => rfl
  obtain ⟨fd3, F3⟩ := c.d d_raised (List.mem_of_getElem? (show fn[3]? = some d_raised from rfl))
  replace F3 : FunD K "raised" "raised" (defArgs s_raised) (defBody s_raised) (defScope s_raised) [] [] (He.fAd K ("raised", none)) fd3 := F3
  have g3 := He.glo_ok X G (fact cm 3 (f := .glo "raised") rfl)
  have b3 := F3.bindsN (ps := ["number", "exponent", "prime"]) fun _ _ _ _ _ _ us hl => match us, hl with | [_, _, _], _ => rfl
  obtain ⟨fd4, F4⟩ := c.d d_turned_over (List.mem_of_getElem? (show fn[4]? = some d_turned_over from rfl))
  replace F4 : FunD K "turned_over" "turned_over" (defArgs s_turned_over) (defBody s_turned_over) (defScope s_turned_over) [] [] (He.fAd K ("turned_over", none)) fd4 := F4
  have g4 := He.glo_ok X G (fact cm 4 (f := .glo "turned_over") rfl)
  have b4 := F4.bindsN (ps := ["number", "prime"]) fun _ _ _ _ _ _ us hl => match us, hl with | [_, _], _ => rfl
  obtain ⟨fd5, F5⟩ := c.d d_is_poly (List.mem_of_getElem? (show fn[5]? = some d_is_poly from rfl))
  replace F5 : FunD K "is_poly" "is_poly" (defArgs s_is_poly) (defBody s_is_poly) (defScope s_is_poly) [] [] (He.fAd K ("is_poly", none)) fd5 := F5
  have g5 := He.glo_ok X G (fact cm 5 (f := .glo "is_poly") rfl)
  have b5 := F5.bindsN (ps := ["thing", "prime"]) fun _ _ _ _ _ _ us hl => match us, hl with | [_, _], _ => rfl
  obtain ⟨fd6, F6⟩ := c.d d_need_polys (List.mem_of_getElem? (show fn[6]? = some d_need_polys from rfl))
  replace F6 : FunD K "need_polys" "need_polys" (defArgs s_need_polys) (defBody s_need_polys) (defScope s_need_polys) [] [] (He.fAd K ("need_polys", none)) fd6 := F6
  have g6 := He.glo_ok X G (fact cm 6 (f := .glo "need_polys") rfl)
  have b6 := F6.bindsN (ps := ["some", "prime"]) fun _ _ _ _ _ _ us hl => match us, hl with | [_, _], _ => rfl
  obtain ⟨fd7, F7⟩ := c.d d_cut (List.mem_of_getElem? (show fn[7]? = some d_cut from rfl))
  replace F7 : FunD K "cut" "cut" (defArgs s_cut) (defBody s_cut) (defScope s_cut) [] [] (He.fAd K ("cut", none)) fd7 := F7
  have g7 := He.glo_ok X G (fact cm 7 (f := .glo "cut") rfl)
  have b7 := F7.bindsN (ps := ["numbers"]) fun _ _ _ _ _ _ us hl => match us, hl with | [_], _ => rfl
  obtain ⟨fd8, F8⟩ := c.d d_widened (List.mem_of_getElem? (show fn[8]? = some d_widened from rfl))
  replace F8 : FunD K "widened" "widened" (defArgs s_widened) (defBody s_widened) (defScope s_widened) [] [] (He.fAd K ("widened", none)) fd8 := F8
  have g8 := He.glo_ok X G (fact cm 8 (f := .glo "widened") rfl)
  have b8 := F8.bindsN (ps := ["one", "many"]) fun _ _ _ _ _ _ us hl => match us, hl with | [_, _], _ => rfl
  obtain ⟨fd9, F9⟩ := c.d d_blended (List.mem_of_getElem? (show fn[9]? = some d_blended from rfl))
  replace F9 : FunD K "blended" "blended" (defArgs s_blended) (defBody s_blended) (defScope s_blended) [] [] (He.fAd K ("blended", none)) fd9 := F9
  have g9 := He.glo_ok X G (fact cm 9 (f := .glo "blended") rfl)
  have b9 := F9.bindsN (ps := ["one", "other", "weight", "prime"]) fun _ _ _ _ _ _ us hl => match us, hl with | [_, _, _, _], _ => rfl
  obtain ⟨fd10, F10⟩ := c.d d_multiplied (List.mem_of_getElem? (show fn[10]? = some d_multiplied from rfl))
  replace F10 : FunD K "multiplied" "multiplied" (defArgs s_multiplied) (defBody s_multiplied) (defScope s_multiplied) [] [] (He.fAd K ("multiplied", none)) fd10 := F10
  have g10 := He.glo_ok X G (fact cm 10 (f := .glo "multiplied") rfl)
  have b10 := F10.bindsN (ps := ["one", "other", "prime"]) fun _ _ _ _ _ _ us hl => match us, hl with | [_, _, _], _ => rfl
  obtain ⟨fd11, F11⟩ := c.d d_divided (List.mem_of_getElem? (show fn[11]? = some d_divided from rfl))
  replace F11 : FunD K "divided" "divided" (defArgs s_divided) (defBody s_divided) (defScope s_divided) [] [] (He.fAd K ("divided", none)) fd11 := F11
  have g11 := He.glo_ok X G (fact cm 11 (f := .glo "divided") rfl)
  have b11 := F11.bindsN (ps := ["one", "other", "prime"]) fun _ _ _ _ _ _ us hl => match us, hl with | [_, _, _], _ => rfl
  obtain ⟨fd12, F12⟩ := c.d d_left_by (List.mem_of_getElem? (show fn[12]? = some d_left_by from rfl))
  replace F12 : FunD K "left_by" "left_by" (defArgs s_left_by) (defBody s_left_by) (defScope s_left_by) [] [] (He.fAd K ("left_by", none)) fd12 := F12
  have g12 := He.glo_ok X G (fact cm 12 (f := .glo "left_by") rfl)
  have b12 := F12.bindsN (ps := ["one", "rule", "prime"]) fun _ _ _ _ _ _ us hl => match us, hl with | [_, _, _], _ => rfl
  obtain ⟨fd13, F13⟩ := c.d d_left_raised (List.mem_of_getElem? (show fn[13]? = some d_left_raised from rfl))
  replace F13 : FunD K "left_raised" "left_raised" (defArgs s_left_raised) (defBody s_left_raised) (defScope s_left_raised) [] [] (He.fAd K ("left_raised", none)) fd13 := F13
  have g13 := He.glo_ok X G (fact cm 13 (f := .glo "left_raised") rfl)
  have b13 := F13.bindsN (ps := ["one", "exponent", "rule", "prime"]) fun _ _ _ _ _ _ us hl => match us, hl with | [_, _, _, _], _ => rfl
  obtain ⟨fd14, F14⟩ := c.d d_put_through (List.mem_of_getElem? (show fn[14]? = some d_put_through from rfl))
  replace F14 : FunD K "put_through" "put_through" (defArgs s_put_through) (defBody s_put_through) (defScope s_put_through) [] [] (He.fAd K ("put_through", none)) fd14 := F14
  have g14 := He.glo_ok X G (fact cm 14 (f := .glo "put_through") rfl)
  have b14 := F14.bindsN (ps := ["one", "other", "rule", "prime"]) fun _ _ _ _ _ _ us hl => match us, hl with | [_, _, _, _], _ => rfl
  obtain ⟨fd15, F15⟩ := c.d d_worth_at (List.mem_of_getElem? (show fn[15]? = some d_worth_at from rfl))
  replace F15 : FunD K "worth_at" "worth_at" (defArgs s_worth_at) (defBody s_worth_at) (defScope s_worth_at) [] [] (He.fAd K ("worth_at", none)) fd15 := F15
  have g15 := He.glo_ok X G (fact cm 15 (f := .glo "worth_at") rfl)
  have b15 := F15.bindsN (ps := ["one", "number", "prime"]) fun _ _ _ _ _ _ us hl => match us, hl with | [_, _, _], _ => rfl
  obtain ⟨fd16, F16⟩ := c.d d_sloped (List.mem_of_getElem? (show fn[16]? = some d_sloped from rfl))
  replace F16 : FunD K "sloped" "sloped" (defArgs s_sloped) (defBody s_sloped) (defScope s_sloped) [] [] (He.fAd K ("sloped", none)) fd16 := F16
  have g16 := He.glo_ok X G (fact cm 16 (f := .glo "sloped") rfl)
  have b16 := F16.bindsN (ps := ["one", "prime"]) fun _ _ _ _ _ _ us hl => match us, hl with | [_, _], _ => rfl
  obtain ⟨fd17, F17⟩ := c.d d_poly_value (List.mem_of_getElem? (show fn[17]? = some d_poly_value from rfl))
  replace F17 : FunD K "poly_value" "poly_value" (defArgs s_poly_value) (defBody s_poly_value) (defScope s_poly_value) [] [("prime", V.int 2)] (He.fAd K ("poly_value", none)) fd17 := F17
  have g17 := He.glo_ok X G (fact cm 17 (f := .glo "poly_value") rfl)
  have b17 := F17.binds0 (ps := ["one", "number", "prime"]) 2 (by simp) rfl fun D doc pm an cdv ct us ks hl hk => match us, hl, ks, hk with | [_, _], _, [_], _ => ⟨_, _, _, _, _, _, rfl, rfl, rfl⟩
  obtain ⟨fd18, F18⟩ := c.d d_poly_put (List.mem_of_getElem? (show fn[18]? = some d_poly_put from rfl))
  replace F18 : FunD K "poly_put" "poly_put" (defArgs s_poly_put) (defBody s_poly_put) (defScope s_poly_put) [] [("prime", V.int 2)] (He.fAd K ("poly_put", none)) fd18 := F18
  have g18 := He.glo_ok X G (fact cm 18 (f := .glo "poly_put") rfl)
  have b18 := F18.binds0 (ps := ["one", "other", "rule", "prime"]) 3 (by simp) rfl fun D doc pm an cdv ct us ks hl hk => match us, hl, ks, hk with | [_, _, _], _, [_], _ => ⟨_, _, _, _, _, _, rfl, rfl, rfl⟩
  obtain ⟨fd19, F19⟩ := c.d d_poly_left (List.mem_of_getElem? (show fn[19]? = some d_poly_left from rfl))
  replace F19 : FunD K "poly_left" "poly_left" (defArgs s_poly_left) (defBody s_poly_left) (defScope s_poly_left) [] [("prime", V.int 2)] (He.fAd K ("poly_left", none)) fd19 := F19
  have g19 := He.glo_ok X G (fact cm 19 (f := .glo "poly_left") rfl)
  have b19 := F19.binds0 (ps := ["one", "exponent", "rule", "prime"]) 3 (by simp) rfl fun D doc pm an cdv ct us ks hl hk => match us, hl, ks, hk with | [_, _, _], _, [_], _ => ⟨_, _, _, _, _, _, rfl, rfl, rfl⟩
  obtain ⟨fd20, F20⟩ := c.d d_poly_slope (List.mem_of_getElem? (show fn[20]? = some d_poly_slope from rfl))
  replace F20 : FunD K "poly_slope" "poly_slope" (defArgs s_poly_slope) (defBody s_poly_slope) (defScope s_poly_slope) [] [("prime", V.int 2)] (He.fAd K ("poly_slope", none)) fd20 := F20
  have g20 := He.glo_ok X G (fact cm 20 (f := .glo "poly_slope") rfl)
  have b20 := F20.binds0 (ps := ["one", "prime"]) 1 (by simp) rfl fun D doc pm an cdv ct us ks hl hk => match us, hl, ks, hk with | [_], _, [_], _ => ⟨_, _, _, _, _, _, rfl, rfl, rfl⟩
  obtain ⟨fd21, F21⟩ := c.d d__law_begin (List.mem_of_getElem? (show fn[21]? = some d__law_begin from rfl))
  replace F21 : FunD K "_law_begin" "_law_begin" (defArgs s__law_begin) (defBody s__law_begin) (defScope s__law_begin) [] [] (He.fAd K ("_law_begin", none)) fd21 := F21
  have g21 := He.glo_ok X G (fact cm 21 (f := .glo "_law_begin") rfl)
  have b21 := F21.bindsN (ps := ["_law_script"]) fun _ _ _ _ _ _ us hl => match us, hl with | [_], _ => rfl
  obtain ⟨fd22, F22⟩ := c.d d__law_take (List.mem_of_getElem? (show fn[22]? = some d__law_take from rfl))
  replace F22 : FunD K "_law_take" "_law_take" (defArgs s__law_take) (defBody s__law_take) (defScope s__law_take) [] [] (He.fAd K ("_law_take", none)) fd22 := F22
  have g22 := He.glo_ok X G (fact cm 22 (f := .glo "_law_take") rfl)
  have b22 := F22.bindsN (ps := ["_law_draw", "_law_sides"]) fun _ _ _ _ _ _ us hl => match us, hl with | [_, _], _ => rfl
  obtain ⟨fd23, F23⟩ := c.d d__law_of (List.mem_of_getElem? (show fn[23]? = some d__law_of from rfl))
  replace F23 : FunD K "_law_of" "_law_of" (defArgs s__law_of) (defBody s__law_of) (defScope s__law_of) [] [] (He.fAd K ("_law_of", none)) fd23 := F23
  have g23 := He.glo_ok X G (fact cm 23 (f := .glo "_law_of") rfl)
  have b23 := F23.bindsN (ps := ["_law_draw", "_law_row"]) fun _ _ _ _ _ _ us hl => match us, hl with | [_, _], _ => rfl
  obtain ⟨fd24, F24⟩ := c.d d__law_same (List.mem_of_getElem? (show fn[24]? = some d__law_same from rfl))
  replace F24 : FunD K "_law_same" "_law_same" (defArgs s__law_same) (defBody s__law_same) (defScope s__law_same) [] [] (He.fAd K ("_law_same", none)) fd24 := F24
  have g24 := He.glo_ok X G (fact cm 24 (f := .glo "_law_same") rfl)
  have b24 := F24.bindsN (ps := ["_law_found", "_law_due"]) fun _ _ _ _ _ _ us hl => match us, hl with | [_, _], _ => rfl
  obtain ⟨fd25, F25⟩ := c.d d__law_why (List.mem_of_getElem? (show fn[25]? = some d__law_why from rfl))
  replace F25 : FunD K "_law_why" "_law_why" (defArgs s__law_why) (defBody s__law_why) (defScope s__law_why) [] [] (He.fAd K ("_law_why", none)) fd25 := F25
  have g25 := He.glo_ok X G (fact cm 25 (f := .glo "_law_why") rfl)
  have b25 := F25.bindsN (ps := ["_law_ask"]) fun _ _ _ _ _ _ us hl => match us, hl with | [_], _ => rfl
  obtain ⟨fd26, F26⟩ := c.d d__law_word (List.mem_of_getElem? (show fn[26]? = some d__law_word from rfl))
  replace F26 : FunD K "_law_word" "_law_word" (defArgs s__law_word) (defBody s__law_word) (defScope s__law_word) [] [] (He.fAd K ("_law_word", none)) fd26 := F26
  have g26 := He.glo_ok X G (fact cm 26 (f := .glo "_law_word") rfl)
  have b26 := F26.bindsN (ps := ["_law_ask"]) fun _ _ _ _ _ _ us hl => match us, hl with | [_], _ => rfl
  obtain ⟨fd27, F27⟩ := c.d d__law_primes (List.mem_of_getElem? (show fn[27]? = some d__law_primes from rfl))
  replace F27 : FunD K "_law_primes" "_law_primes" (defArgs s__law_primes) (defBody s__law_primes) (defScope s__law_primes) [] [] (He.fAd K ("_law_primes", none)) fd27 := F27
  have g27 := He.glo_ok X G (fact cm 27 (f := .glo "_law_primes") rfl)
  have b27 := F27.bindsN (ps := []) fun _ _ _ _ _ _ us hl => match us, hl with | [], _ => rfl
  obtain ⟨fd28, F28⟩ := c.d d__law_any_prime (List.mem_of_getElem? (show fn[28]? = some d__law_any_prime from rfl))
  replace F28 : FunD K "_law_any_prime" "_law_any_prime" (defArgs s__law_any_prime) (defBody s__law_any_prime) (defScope s__law_any_prime) [] [] (He.fAd K ("_law_any_prime", none)) fd28 := F28
  have g28 := He.glo_ok X G (fact cm 28 (f := .glo "_law_any_prime") rfl)
  have b28 := F28.bindsN (ps := ["_law_draw"]) fun _ _ _ _ _ _ us hl => match us, hl with | [_], _ => rfl
  obtain ⟨fd29, F29⟩ := c.d d__law_far (List.mem_of_getElem? (show fn[29]? = some d__law_far from rfl))
  replace F29 : FunD K "_law_far" "_law_far" (defArgs s__law_far) (defBody s__law_far) (defScope s__law_far) [] [] (He.fAd K ("_law_far", none)) fd29 := F29
  have g29 := He.glo_ok X G (fact cm 29 (f := .glo "_law_far") rfl)
  have b29 := F29.bindsN (ps := ["_law_draw", "_law_p"]) fun _ _ _ _ _ _ us hl => match us, hl with | [_, _], _ => rfl
  obtain ⟨fd30, F30⟩ := c.d d__law_trim (List.mem_of_getElem? (show fn[30]? = some d__law_trim from rfl))
  replace F30 : FunD K "_law_trim" "_law_trim" (defArgs s__law_trim) (defBody s__law_trim) (defScope s__law_trim) [] [] (He.fAd K ("_law_trim", none)) fd30 := F30
  have g30 := He.glo_ok X G (fact cm 30 (f := .glo "_law_trim") rfl)
  have b30 := F30.bindsN (ps := ["_law_numbers"]) fun _ _ _ _ _ _ us hl => match us, hl with | [_], _ => rfl
  obtain ⟨fd31, F31⟩ := c.d d__law_rests (List.mem_of_getElem? (show fn[31]? = some d__law_rests from rfl))
  replace F31 : FunD K "_law_rests" "_law_rests" (defArgs s__law_rests) (defBody s__law_rests) (defScope s__law_rests) [] [] (He.fAd K ("_law_rests", none)) fd31 := F31
  have g31 := He.glo_ok X G (fact cm 31 (f := .glo "_law_rests") rfl)
  have b31 := F31.bindsN (ps := ["_law_draw", "_law_many", "_law_p"]) fun _ _ _ _ _ _ us hl => match us, hl with | [_, _, _], _ => rfl
  obtain ⟨fd32, F32⟩ := c.d d__law_poly (List.mem_of_getElem? (show fn[32]? = some d__law_poly from rfl))
  replace F32 : FunD K "_law_poly" "_law_poly" (defArgs s__law_poly) (defBody s__law_poly) (defScope s__law_poly) [] [] (He.fAd K ("_law_poly", none)) fd32 := F32
  have g32 := He.glo_ok X G (fact cm 32 (f := .glo "_law_poly") rfl)
  have b32 := F32.bindsN (ps := ["_law_draw", "_law_most", "_law_p"]) fun _ _ _ _ _ _ us hl => match us, hl with | [_, _, _], _ => rfl
  obtain ⟨fd33, F33⟩ := c.d d__law_blend (List.mem_of_getElem? (show fn[33]? = some d__law_blend from rfl))
  replace F33 : FunD K "_law_blend" "_law_blend" (defArgs s__law_blend) (defBody s__law_blend) (defScope s__law_blend) [] [] (He.fAd K ("_law_blend", none)) fd33 := F33
  have g33 := He.glo_ok X G (fact cm 33 (f := .glo "_law_blend") rfl)
  have b33 := F33.bindsN (ps := ["_law_one", "_law_other", "_law_weight", "_law_p"]) fun _ _ _ _ _ _ us hl => match us, hl with | [_, _, _, _], _ => rfl
  obtain ⟨fd34, F34⟩ := c.d d__law_conv (List.mem_of_getElem? (show fn[34]? = some d__law_conv from rfl))
  replace F34 : FunD K "_law_conv" "_law_conv" (defArgs s__law_conv) (defBody s__law_conv) (defScope s__law_conv) [] [] (He.fAd K ("_law_conv", none)) fd34 := F34
  have g34 := He.glo_ok X G (fact cm 34 (f := .glo "_law_conv") rfl)
  have b34 := F34.bindsN (ps := ["_law_one", "_law_other", "_law_p"]) fun _ _ _ _ _ _ us hl => match us, hl with | [_, _, _], _ => rfl
  obtain ⟨fd35, F35⟩ := c.d d__law_mul (List.mem_of_getElem? (show fn[35]? = some d__law_mul from rfl))
  replace F35 : FunD K "_law_mul" "_law_mul" (defArgs s__law_mul) (defBody s__law_mul) (defScope s__law_mul) [] [] (He.fAd K ("_law_mul", none)) fd35 := F35
  have g35 := He.glo_ok X G (fact cm 35 (f := .glo "_law_mul") rfl)
  have b35 := F35.bindsN (ps := ["_law_one", "_law_other", "_law_p"]) fun _ _ _ _ _ _ us hl => match us, hl with | [_, _, _], _ => rfl
  obtain ⟨fd36, F36⟩ := c.d d__law_back (List.mem_of_getElem? (show fn[36]? = some d__law_back from rfl))
  replace F36 : FunD K "_law_back" "_law_back" (defArgs s__law_back) (defBody s__law_back) (defScope s__law_back) [] [] (He.fAd K ("_law_back", none)) fd36 := F36
  have g36 := He.glo_ok X G (fact cm 36 (f := .glo "_law_back") rfl)
  have b36 := F36.bindsN (ps := ["_law_number", "_law_p"]) fun _ _ _ _ _ _ us hl => match us, hl with | [_, _], _ => rfl
  obtain ⟨fd37, F37⟩ := c.d d__law_cut_by (List.mem_of_getElem? (show fn[37]? = some d__law_cut_by from rfl))
  replace F37 : FunD K "_law_cut_by" "_law_cut_by" (defArgs s__law_cut_by) (defBody s__law_cut_by) (defScope s__law_cut_by) [] [] (He.fAd K ("_law_cut_by", none)) fd37 := F37
  have g37 := He.glo_ok X G (fact cm 37 (f := .glo "_law_cut_by") rfl)
  have b37 := F37.bindsN (ps := ["_law_one", "_law_other", "_law_p"]) fun _ _ _ _ _ _ us hl => match us, hl with | [_, _, _], _ => rfl
  obtain ⟨fd38, F38⟩ := c.d d__law_rem (List.mem_of_getElem? (show fn[38]? = some d__law_rem from rfl))
  replace F38 : FunD K "_law_rem" "_law_rem" (defArgs s__law_rem) (defBody s__law_rem) (defScope s__law_rem) [] [] (He.fAd K ("_law_rem", none)) fd38 := F38
  have g38 := He.glo_ok X G (fact cm 38 (f := .glo "_law_rem") rfl)
  have b38 := F38.bindsN (ps := ["_law_one", "_law_other", "_law_p"]) fun _ _ _ _ _ _ us hl => match us, hl with | [_, _, _], _ => rfl
  obtain ⟨fd39, F39⟩ := c.d d__law_lift (List.mem_of_getElem? (show fn[39]? = some d__law_lift from rfl))
  replace F39 : FunD K "_law_lift" "_law_lift" (defArgs s__law_lift) (defBody s__law_lift) (defScope s__law_lift) [] [] (He.fAd K ("_law_lift", none)) fd39 := F39
  have g39 := He.glo_ok X G (fact cm 39 (f := .glo "_law_lift") rfl)
  have b39 := F39.bindsN (ps := ["_law_one", "_law_exponent", "_law_rule", "_law_p"]) fun _ _ _ _ _ _ us hl => match us, hl with | [_, _, _, _], _ => rfl
  obtain ⟨fd40, F40⟩ := c.d d__law_put (List.mem_of_getElem? (show fn[40]? = some d__law_put from rfl))
  replace F40 : FunD K "_law_put" "_law_put" (defArgs s__law_put) (defBody s__law_put) (defScope s__law_put) [] [] (He.fAd K ("_law_put", none)) fd40 := F40
  have g40 := He.glo_ok X G (fact cm 40 (f := .glo "_law_put") rfl)
  have b40 := F40.bindsN (ps := ["_law_one", "_law_other", "_law_rule", "_law_p"]) fun _ _ _ _ _ _ us hl => match us, hl with | [_, _, _, _], _ => rfl
  obtain ⟨fd41, F41⟩ := c.d d__law_worth (List.mem_of_getElem? (show fn[41]? = some d__law_worth from rfl))
  replace F41 : FunD K "_law_worth" "_law_worth" (defArgs s__law_worth) (defBody s__law_worth) (defScope s__law_worth) [] [] (He.fAd K ("_law_worth", none)) fd41 := F41
  have g41 := He.glo_ok X G (fact cm 41 (f := .glo "_law_worth") rfl)
  have b41 := F41.bindsN (ps := ["_law_one", "_law_number", "_law_p"]) fun _ _ _ _ _ _ us hl => match us, hl with | [_, _, _], _ => rfl
  obtain ⟨fd42, F42⟩ := c.d d_law (List.mem_of_getElem? (show fn[42]? = some d_law from rfl))
  replace F42 : FunD K "law" "law" (defArgs s_law) (defBody s_law) (defScope s_law) [] [] (He.fAd K ("law", none)) fd42 := F42
  have g42 := He.glo_ok X G (fact cm 42 (f := .glo "law") rfl)
  have bA := F42.bindsA (ps := ["_law_script"]) fun _ _ _ _ _ _ us hl => match us, hl with | [_], _ => rfl
  have b42 := F42.bindsN (ps := ["_law_script"]) fun _ _ _ _ _ _ us hl => match us, hl with | [_], _ => rfl
  obtain ⟨fd43, F43⟩ := c.d d_i_RungError (List.mem_of_getElem? (show fn[43]? = some d_i_RungError from rfl))
  replace F43 : FunD K "__init__" "RungError.__init__" (defArgs i_RungError) (defBody i_RungError) (defScope i_RungError) [V.str "RungError"] [] (He.fAd K ("RungError", some "__init__")) fd43 := F43
  have g43 := He.glo_ok X G (fact cm 43 (f := .glo "RungError") rfl)
  have b43 : Binds K fd43 ["self", "word"] [] := iniBinds F43 fun _ _ _ _ _ _ _ _ _ _ => ⟨_, rfl, rfl⟩
  have y43 := extra cm 1 (b := bseB K "RungError") rfl
  obtain ⟨fd44, F44⟩ := c.d d_i_BadPrime (List.mem_of_getElem? (show fn[44]? = some d_i_BadPrime from rfl))
  replace F44 : FunD K "__init__" "BadPrime.__init__" (defArgs i_BadPrime) (defBody i_BadPrime) (defScope i_BadPrime) [] [] (He.fAd K ("BadPrime", some "__init__")) fd44 := F44
  have g44 := He.glo_ok X G (fact cm 44 (f := .glo "BadPrime") rfl)
  have b44 := F44.bindsN (ps := ["self"]) fun _ _ _ _ _ _ us hl => match us, hl with | [_], _ => rfl
  have y44 := extra cm 2 (b := subB K "BadPrime" []) rfl
  have z44 := extra cm 3 (b := iniB K "BadPrime") rfl
  obtain ⟨fd45, F45⟩ := c.d d_i_BadRest (List.mem_of_getElem? (show fn[45]? = some d_i_BadRest from rfl))
  replace F45 : FunD K "__init__" "BadRest.__init__" (defArgs i_BadRest) (defBody i_BadRest) (defScope i_BadRest) [] [] (He.fAd K ("BadRest", some "__init__")) fd45 := F45
  have g45 := He.glo_ok X G (fact cm 45 (f := .glo "BadRest") rfl)
  have b45 := F45.bindsN (ps := ["self"]) fun _ _ _ _ _ _ us hl => match us, hl with | [_], _ => rfl
  have y45 := extra cm 4 (b := subB K "BadRest" []) rfl
  have z45 := extra cm 5 (b := iniB K "BadRest") rfl
  obtain ⟨fd46, F46⟩ := c.d d_i_BadPoly (List.mem_of_getElem? (show fn[46]? = some d_i_BadPoly from rfl))
  replace F46 : FunD K "__init__" "BadPoly.__init__" (defArgs i_BadPoly) (defBody i_BadPoly) (defScope i_BadPoly) [] [] (He.fAd K ("BadPoly", some "__init__")) fd46 := F46
  have g46 := He.glo_ok X G (fact cm 46 (f := .glo "BadPoly") rfl)
  have b46 := F46.bindsN (ps := ["self"]) fun _ _ _ _ _ _ us hl => match us, hl with | [_], _ => rfl
  have y46 := extra cm 6 (b := subB K "BadPoly" []) rfl
  have z46 := extra cm 7 (b := iniB K "BadPoly") rfl
  obtain ⟨fd47, F47⟩ := c.d d_i_BadNumber (List.mem_of_getElem? (show fn[47]? = some d_i_BadNumber from rfl))
  replace F47 : FunD K "__init__" "BadNumber.__init__" (defArgs i_BadNumber) (defBody i_BadNumber) (defScope i_BadNumber) [] [] (He.fAd K ("BadNumber", some "__init__")) fd47 := F47
  have g47 := He.glo_ok X G (fact cm 47 (f := .glo "BadNumber") rfl)
  have b47 := F47.bindsN (ps := ["self"]) fun _ _ _ _ _ _ us hl => match us, hl with | [_], _ => rfl
  have y47 := extra cm 8 (b := subB K "BadNumber" []) rfl
  have z47 := extra cm 9 (b := iniB K "BadNumber") rfl
  obtain ⟨fd48, F48⟩ := c.d d_i_NoInverse (List.mem_of_getElem? (show fn[48]? = some d_i_NoInverse from rfl))
  replace F48 : FunD K "__init__" "NoInverse.__init__" (defArgs i_NoInverse) (defBody i_NoInverse) (defScope i_NoInverse) [] [] (He.fAd K ("NoInverse", some "__init__")) fd48 := F48
  have g48 := He.glo_ok X G (fact cm 48 (f := .glo "NoInverse") rfl)
  have b48 := F48.bindsN (ps := ["self"]) fun _ _ _ _ _ _ us hl => match us, hl with | [_], _ => rfl
  have y48 := extra cm 10 (b := subB K "NoInverse" []) rfl
  have z48 := extra cm 11 (b := iniB K "NoInverse") rfl
  have e := hfa.symm.trans g42
  cases e
  refine ⟨fd42, tf.map (He.cT K), spLawT K, fun p hp => ?_, fun p hp => ?_, fun p hp => ?_, fun s v => bA s [v] rfl, fun H a ns hl _ hT hS => ⟨a, ns, rfl, hS, tabs_start (extra cm 14 (b := tabsIn tf K) rfl) hT, hl, fun _ => rfl⟩, fun base KX GB TB => ?_⟩
  · obtain ⟨q, hq, rfl⟩ := List.mem_map.mp hp; exact c.empty q hq
  · obtain ⟨q, hq, rfl⟩ := List.mem_map.mp hp; exact c.out q hq
  · obtain ⟨q, hq, rfl⟩ := List.mem_map.mp hp; exact PySem.W.codeHd_of_K X (c.hd q hq)
  have T : Tx K mg base (fun i => match i with | 0 => fd0 | 1 => fd1 | 2 => fd2 | 3 => fd3 | 4 => fd4 | 5 => fd5 | 6 => fd6 | 7 => fd7 | 8 => fd8 | 9 => fd9 | 10 => fd10 | 11 => fd11 | 12 => fd12 | 13 => fd13 | 14 => fd14 | 15 => fd15 | 16 => fd16 | 17 => fd17 | 18 => fd18 | 19 => fd19 | 20 => fd20 | 21 => fd21 | 22 => fd22 | 23 => fd23 | 24 => fd24 | 25 => fd25 | 26 => fd26 | 27 => fd27 | 28 => fd28 | 29 => fd29 | 30 => fd30 | 31 => fd31 | 32 => fd32 | 33 => fd33 | 34 => fd34 | 35 => fd35 | 36 => fd36 | 37 => fd37 | 38 => fd38 | 39 => fd39 | 40 => fd40 | 41 => fd41 | 42 => fd42 | 43 => fd43 | 44 => fd44 | 45 => fd45 | 46 => fd46 | 47 => fd47 | _ => fd48) := {
    F0 := F0
    g0 := g0
    b0 := b0
    F1 := F1
    g1 := g1
    b1 := b1
    F2 := F2
    g2 := g2
    b2 := b2
    F3 := F3
    g3 := g3
    b3 := b3
    F4 := F4
    g4 := g4
    b4 := b4
    F5 := F5
    g5 := g5
    b5 := b5
    F6 := F6
    g6 := g6
    b6 := b6
    F7 := F7
    g7 := g7
    b7 := b7
    F8 := F8
    g8 := g8
    b8 := b8
    F9 := F9
    g9 := g9
    b9 := b9
    F10 := F10
    g10 := g10
    b10 := b10
    F11 := F11
    g11 := g11
    b11 := b11
    F12 := F12
    g12 := g12
    b12 := b12
    F13 := F13
    g13 := g13
    b13 := b13
    F14 := F14
    g14 := g14
    b14 := b14
    F15 := F15
    g15 := g15
    b15 := b15
    F16 := F16
    g16 := g16
    b16 := b16
    F17 := F17
    g17 := g17
    e17 := b17
    k17 := kwBinds F17 fun _ _ _ _ _ _ us ws l1 l2 => match us, l1, ws, l2 with | [_, _], _, [_], _ => rfl
    F18 := F18
    g18 := g18
    e18 := b18
    k18 := kwBinds F18 fun _ _ _ _ _ _ us ws l1 l2 => match us, l1, ws, l2 with | [_, _, _], _, [_], _ => rfl
    F19 := F19
    g19 := g19
    e19 := b19
    k19 := kwBinds F19 fun _ _ _ _ _ _ us ws l1 l2 => match us, l1, ws, l2 with | [_, _, _], _, [_], _ => rfl
    F20 := F20
    g20 := g20
    e20 := b20
    k20 := kwBinds F20 fun _ _ _ _ _ _ us ws l1 l2 => match us, l1, ws, l2 with | [_], _, [_], _ => rfl
    F21 := F21
    g21 := g21
    b21 := b21
    F22 := F22
    g22 := g22
    b22 := b22
    F23 := F23
    g23 := g23
    b23 := b23
    F24 := F24
    g24 := g24
    b24 := b24
    F25 := F25
    g25 := g25
    b25 := b25
    F26 := F26
    g26 := g26
    b26 := b26
    F27 := F27
    g27 := g27
    b27 := b27
    F28 := F28
    g28 := g28
    b28 := b28
    F29 := F29
    g29 := g29
    b29 := b29
    F30 := F30
    g30 := g30
    b30 := b30
    F31 := F31
    g31 := g31
    b31 := b31
    F32 := F32
    g32 := g32
    b32 := b32
    F33 := F33
    g33 := g33
    b33 := b33
    F34 := F34
    g34 := g34
    b34 := b34
    F35 := F35
    g35 := g35
    b35 := b35
    F36 := F36
    g36 := g36
    b36 := b36
    F37 := F37
    g37 := g37
    b37 := b37
    F38 := F38
    g38 := g38
    b38 := b38
    F39 := F39
    g39 := g39
    b39 := b39
    F40 := F40
    g40 := g40
    b40 := b40
    F41 := F41
    g41 := g41
    b41 := b41
    F42 := F42
    g42 := g42
    b42 := b42
    F43 := F43
    g43 := g43
    b43 := b43
    y43 := y43
    F44 := F44
    g44 := g44
    b44 := b44
    y44 := y44
    z44 := z44
    F45 := F45
    g45 := g45
    b45 := b45
    y45 := y45
    z45 := z45
    F46 := F46
    g46 := g46
    b46 := b46
    y46 := y46
    z46 := z46
    F47 := F47
    g47 := g47
    b47 := b47
    y47 := y47
    z47 := z47
    F48 := F48
    g48 := g48
    b48 := b48
    y48 := y48
    z48 := z48
    n_abs := He.free_ok X G (fact cm 60 (f := .free "abs") rfl)
    n_all := He.free_ok X G (fact cm 61 (f := .free "all") rfl)
    n_bool := He.free_ok X G (fact cm 62 (f := .free "bool") rfl)
    n_enumerate := He.free_ok X G (fact cm 63 (f := .free "enumerate") rfl)
    n_int := He.free_ok X G (fact cm 64 (f := .free "int") rfl)
    n_isinstance := He.free_ok X G (fact cm 65 (f := .free "isinstance") rfl)
    n_len := He.free_ok X G (fact cm 66 (f := .free "len") rfl)
    n_list := He.free_ok X G (fact cm 67 (f := .free "list") rfl)
    n_max := He.free_ok X G (fact cm 68 (f := .free "max") rfl)
    n_range := He.free_ok X G (fact cm 69 (f := .free "range") rfl)
    n_str := He.free_ok X G (fact cm 70 (f := .free "str") rfl)
    n_tuple := He.free_ok X G (fact cm 71 (f := .free "tuple") rfl)
    n_zip := He.free_ok X G (fact cm 72 (f := .free "zip") rfl)
    t_MOST_PLACES := He.int_ok X G (fact cm 73 (f := .int "MOST_PLACES" 25) rfl)
    t_PRIMES := tup_of (He.glo_ok X G (fact cm 74 (f := .glo "PRIMES") rfl)) (extra cm 0 (b := He.tupB K "PRIMES" (k_PRIMES.map He.Dv.int)) rfl)
    w_NotWhole := He.glo_ok X G (fact cm 49 (f := .glo "NotWhole") rfl)
    w_TooTall := He.glo_ok X G (fact cm 50 (f := .glo "TooTall") rfl)
    w_BadTable := He.glo_ok X G (fact cm 51 (f := .glo "BadTable") rfl)
    w_BadText := He.glo_ok X G (fact cm 52 (f := .glo "BadText") rfl)
    w_BadPage := He.glo_ok X G (fact cm 53 (f := .glo "BadPage") rfl)
    w_Stopped := He.glo_ok X G (fact cm 54 (f := .glo "Stopped") rfl)
    w_Used := He.glo_ok X G (fact cm 55 (f := .glo "Used") rfl)
    w_Held := He.glo_ok X G (fact cm 56 (f := .glo "Held") rfl)
    w_NoGuest := He.glo_ok X G (fact cm 57 (f := .glo "NoGuest") rfl)
    w_NoName := He.glo_ok X G (fact cm 58 (f := .glo "NoName") rfl)
    w_RungError := He.glo_ok X G (fact cm 43 (f := .glo "RungError") rfl)
    w_RungMissing := He.glo_ok X G (fact cm 59 (f := .glo "RungMissing") rfl)
    wk := extra cm 12 rfl
    un := extra cm 13 rfl
    tb_law := TB _ (List.mem_map.mpr ⟨("law", none), List.mem_of_getElem? (i := 0) rfl, rfl⟩) }
  exact (ok_law T).imp (spLawT_imp law_true)
end K05
open PySem PySem.W PySem.Calls PyProof.Rows
set_option maxHeartbeats 0 in
theorem PySem.Challenge.cw_rungfields_k05_values_slopes_and_put_in_holds : PySem.Challenge.rw_rungfields_k05_values_slopes_and_put_in.Holds := by
  w_on; o_law
  refine HandSHeadRun.head_any (r := K05.RR) (q := view K05.RR.prog [66]) (H := K05.hk) (ob := K05.ob) (M := 20000) (loose := K05.loose) (d := HandSHeadRun.topDef K05.RR.prog 66) (kwd := []) K05.ob_eq
    (by kernel_rfl) (fun s => by kernel_rfl) K05.run (by kernel_rfl) (by kernel_rfl) (by kernel_rfl) (by rfl) (by first | assumption | decide +kernel) (by decide +kernel) ⟨rfl, rfl, rfl, rfl, rfl, by decide +kernel⟩ ?hw ?hc
  case hw => w_witness2
  case hc =>
    refine LamX.walk_ofTsE (l := PySem.Challenge.rw_rungfields_k05_values_slopes_and_put_in) (n := 63) (k := 10) (x := "_law_script") (CX := fun w => L2.CX PySem.Challenge.rw_rungfields_k05_values_slopes_and_put_in.prog w) rfl (by decide) (by kernel_rfl) ⟨rfl, by decide, by decide⟩ ?F (fun _ _ _ _ _ h => Rg.law_CX' h)
    intro w mg fa h Y G hmg0
    obtain ⟨K, KX, c⟩ := Y
    have hmg : mg ("law" : PySem.Str) = some (.ref fa) := by
      have e : (HandSHeadRun.topDef K05.RR.prog 66).name = ("law" : PySem.Str) := by kernel_rfl
      rw [← e]
      exact hmg0
    exact ⟨K, KX, K05.all_mk KX G hmg c⟩
#print axioms PySem.Challenge.cw_rungfields_k05_values_slopes_and_put_in_holds
