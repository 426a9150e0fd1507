import PyProof.Rows.All
import PySem.Challenge.RW_rungfields_k53_formulas_written
import Wide.All
import OpenK.AllK
import Wide.FinOn
import HandS.ForMost
import HandS.ForExc
import HandS.Evl
import HandS.Walk
import HandS.CallSlots
import HandS.Lambda
import HandS.HeadHook4
import HandS.Dict
import HandS.TupAny
import HandS.TupMul
import HandS.IsInst
import HandS.Wide
import HandS.WideMore
import HandS.Flow
import HandS.More
import HandS.Zip
import HandS.Defaults
import HandS.ExcField
import HandS.ExcInit
import HandS.TryMany
import KE.KTryMore
import HandS.ClsMeth
import HandS.DictComp
import HandS.Iter
import HandS.Small
import PyProof.WalksMore
import HandS.Style
import HandS.MakeKwOnly
import KE.GoesNew
import HandS.NamedTupGet
import KE.SortData
import KE.SortKeyHeap
import HandS.SortInts
import HandS.SortKw
import HandS.HeadWalk
import HandS.Head0
import HandS.Head1
import HandS.Head2
import HandS.EndTab
import KE.GoesEnum
import HandS.TryOnly
import HandS.SetFor
import HandS.Strs
import HandS.TupLe
import PyProof.RulesAssignMore
import HandS.Deep
import HandS.FStr
import HandS.RaiseMore
import KE.KCallOwn
import HandS.Text
import HandS.StrSplit
import HandS.StrMore
import KE.KUnpackStar
import HandS.TupSets
import KE.KLam
import PyProof.ListCopy
import KE.KFmtOwn
import KE.KEqDict
import PyProof.ReprRoads
import KE.IntTextLaws
import KE.KIntText
import KE.KxText
set_option Elab.async false
set_option linter.all false
set_option maxRecDepth 100000
set_option maxHeartbeats 4000000
namespace Rg
open PySem PySem.Spec PyProof.Rows L2 LamX
def makers : List Str := ["law", "in_rank", "_law_doors", "_law_ends", "Tower.parts", "_law_power_twice", "_law_in_order", "_law_tall", "_law_outward", "_law_tree_of", "_law_worths", "_law_formula_due", "_law_first_met", "_law_act", "_law_turn", "_law_many", "_law_tower_lists", "_law_seen_right", "_law_seen_behind", "_law_done_row", "_law_page_at_bounds", "_law_asked", "_law_causes"]
def lamQ (q : Str) : Str := q ++ ".<locals>." ++ "<lambda>"
def tabsOf (K : PySem.W.Frag) : List (Addr × Str) := K.filterMap fun q => match q.2.data with
  | .func fd => if makers.contains fd.qualname then (match fd.code with
    | .ref c => some (He.tabOf K c, lamQ fd.qualname)
    | _ => none) else none
  | _ => none
def whyNs : List (List Str) := [["NotWhole"], ["TooTall"], ["BadTable", "BadText"], ["BadPage"], ["Stopped"], ["Used", "Held"], ["NoGuest", "NoName"], ["RungError", "RungMissing"]]
def whyIx (c : Str) : Nat := if c == "NotWhole" then 0 else if c == "TooTall" then 1 else if c == "BadTable" || c == "BadText" then 2 else if c == "BadPage" then 3 else if c == "Stopped" then 4 else if c == "Used" || c == "Held" then 5 else if c == "NoGuest" || c == "NoName" then 6 else 7
def whyCs (K : PySem.W.Frag) (ns : List Str) : List Value := ns.map fun x => .ref (He.ga K x)
def noatB (K : PySem.W.Frag) (C : Addr) (x : Str) : Bool := He.eqO (PySem.W.findIn K (.ref C) x) (some none)
def metS (n : Nat) : PySem.Stmt → PySem.Stmt
  | .ClassDef _ _ _ body _ _ _ _ _ _ _ => body.getD n (.Pass ⟨0, 0, 0, 0⟩)
  | s => s
def iniS : PySem.Stmt → PySem.Stmt
  | .ClassDef _ _ _ body _ _ _ _ _ _ _ => body.getD 0 (.Pass ⟨0, 0, 0, 0⟩)
  | s => s
def metB (K : PySem.W.Frag) (c m : Str) : Bool := He.eqO (PySem.W.findIn K (.ref (He.ga K c)) m) (some (some (.ref (He.fAd K (c, some m))))) && (PySem.W.isFn K (.ref (He.fAd K (c, some m))) && PySem.W.keepIn K (.ref (He.fAd K (c, some m))))
def clsB (K : PySem.W.Frag) (c : Str) (fs ms : List Str) : Bool := PySem.W.plainGet K (He.ga K c) Str.empty && (PySem.W.hasDictIn K (He.ga K c) && (PySem.W.plainOver K (He.ga K c) && (He.eqO (PySem.W.findIn K (.ref (He.ga K c)) "__setattr__") (some (some (.builtin "object.__setattr__"))) &&
  ((fs.all fun f => noatB K (He.ga K c) f) && ms.all fun m => metB K c m))))
def makB (K : PySem.W.Frag) (c : Str) : Bool := PySem.W.makesIn K (He.ga K c) && (metB K c "__init__" && PySem.W.keepIn K (.ref (He.ga K c)))
def bseB (K : PySem.W.Frag) (B : Str) : Bool := PySem.W.readsIn K (He.ga K B) (.type "type") && (He.eqO (PySem.W.specialIn K (.ref (He.ga K B)) "__getattribute__") (some (some (.builtin "type.__getattribute__"))) && (match PySem.W.findCls K (.ref (He.ga K B)) (.type "type") "__init__" with
  | some (.val (.ref a)) => decide (a = He.ma K (He.ga K B) "__init__")
  | _ => false))
def oexB (K : PySem.W.Frag) (C : Addr) : Bool := (match K.lookup C with
  | some ⟨.type t, _, .cls cd, sl⟩ => decide (t = "type") && (match cd.mro, sl.toList with
    | .ref C' :: bm, [_, _, _, _, some (.builtin n), _] => decide (C' = C) && (decide (n = "ValueError.__new__") && (!cd.hasDel && (cd.hasDict && HandSPX.refsVE bm)))
    | _, _ => false)
  | _ => false) && (He.eqO (PySem.W.findIn K (.ref C) "__setattr__") (some (some (.builtin "object.__setattr__"))) && (decide (PySem.W.subIn K (.ref C) (.type "BaseException") = some true) && (decide (PySem.W.typeIn K (.ref C) = some (.type "type")) && PySem.W.keepIn K (.ref C))))
def subB (K : PySem.W.Frag) (c : Str) (ks : List Str) : Bool := oexB K (He.ga K c) && (noatB K (He.ga K c) "word" && ks.all fun k => noatB K (He.ga K c) k)
def iniB (K : PySem.W.Frag) (c : Str) : Bool := He.eqO (PySem.W.findIn K (.ref (He.ga K c)) "__init__") (some (some (.ref (He.ma K (He.ga K c) "__init__")))) && decide (PySem.W.typeIn K (.ref (He.ma K (He.ga K c) "__init__")) = some (.type "function"))
def whyB (K : PySem.W.Frag) (c : Str) : Bool := ((List.range 8).all fun i => decide (whyIx c < i) || (match whyNs[i]? with
  | some ns => decide (PySem.W.exmAny K (.ref (He.ga K c)) (whyCs K ns) = some (decide (i = whyIx c)))
  | none => false)) && (xfB K (He.ga K c) && (noatB K (He.ga K c) "word" && (["part", "tall", "at", "row", "kind", "by", "name"] : List Str).all fun k => noatB K (He.ga K c) k))
def tabsUn (K : PySem.W.Frag) : Bool := (tabsOf K).all fun p => (tabsOf K).all fun q => decide (p.1 ≠ q.1) || decide (p.2 = q.2)
def tabsIn (tf : List He.Defn) (K : PySem.W.Frag) : Bool := (tabsOf K).all fun t => tf.any fun p => decide ((He.cT K p).2 = t.1)
structure SaysY (fn : List He.DefD) (tf : List He.Defn) (ex : PySem.W.Frag → Bool) (h : Heap) (K : PySem.W.Frag) : Prop where
  d : ∀ d ∈ fn, ∃ fd, FunD K d.name d.qual d.params d.body d.scope (d.dvs K) (d.kws K) (He.fAd K d.at_) fd
  more : ex K = true
  hd : ∀ p ∈ tf, PySem.W.codeHdIn K (He.cT K p).1 (He.cT K p).2 = true
  out : ∀ p ∈ tf, K.lookup (He.cT K p).2 = none
  empty : ∀ p ∈ tf, h.get? (He.cT K p).2 = some { cls := .none, data := .fields #[] }
abbrev dzM (a : Str × Option Str) (n q : Str) (s : Stmt) : He.DefD := ⟨a, n, q, defArgs s, defBody s, defScope s, [], []⟩
def FnK (K : PySem.W.Frag) (fn : List He.DefD) : Prop := ((fn.map fun d => He.fnW K d.at_), fn.all fun d => d.ok K) = (fn.map He.DefD.val, true)
theorem FnK.app {K : PySem.W.Frag} {a b : List He.DefD} (h : FnK K a) (k : FnK K b) : FnK K (a ++ b) := by
  unfold FnK at *
  have h1 := congrArg Prod.fst h
  have h2 := congrArg Prod.snd h
  have k1 := congrArg Prod.fst k
  have k2 := congrArg Prod.snd k
  dsimp only at h1 h2 k1 k2
  rw [List.map_append, List.map_append, List.all_append, h1, h2, k1, k2]
  rfl
end Rg
namespace K53
open PySem PySem.Spec PyProof.Rows L2 Rg
def topS (i : Nat) : Stmt := PySem.Challenge.pw_rungfields_k53_formulas_written.main.body.getD i (.Pass ⟨0, 0, 0, 0⟩)
abbrev s_number_in : Stmt := topS 15
abbrev N_number_in : List Str := ["word", "most", "sign"]
abbrev s_is_name : Stmt := topS 24
abbrev N_is_name : List Str := ["word", "sign"]
abbrev s_bits_of : Stmt := topS 25
abbrev N_bits_of : List Str := ["text", "found", "at", "end"]
abbrev s_read : Stmt := topS 27
abbrev N_read : List Str := ["text", "reader", "found"]
abbrev s_shut : Stmt := topS 28
abbrev N_shut : List Str := ["tree", "kinds"]
abbrev s_write : Stmt := topS 29
abbrev N_write : List Str := ["tree", "kind", "first", "others", "left", "right"]
abbrev s__law_begin : Stmt := topS 31
abbrev N__law_begin : List Str := ["_law_script"]
abbrev s__law_take : Stmt := topS 32
abbrev N__law_take : List Str := ["_law_draw", "_law_sides", "_law_cell", "_law_got"]
abbrev s__law_of : Stmt := topS 33
abbrev N__law_of : List Str := ["_law_draw", "_law_row"]
abbrev s__law_same : Stmt := topS 34
abbrev N__law_same : List Str := ["_law_found", "_law_due", "_law_one", "_law_other"]
abbrev s__law_why : Stmt := topS 35
abbrev s__law_letters : Stmt := topS 36
abbrev N__law_letters : List Str := []
abbrev s__law_fresh : Stmt := topS 37
abbrev N__law_fresh : List Str := ["_law_draw", "_law_taken", "_law_word", "_law_some", "_law_k", "_law_one"]
abbrev s__law_tree : Stmt := topS 38
abbrev N__law_tree : List Str := ["_law_draw", "_law_names", "_law_deep", "_law_fork", "_law_one", "_law_word"]
abbrev s__law_signs : Stmt := topS 39
abbrev N__law_signs : List Str := []
abbrev s__law_shut : Stmt := topS 40
abbrev N__law_shut : List Str := ["_law_tree_here", "_law_kinds"]
abbrev s__law_text : Stmt := topS 41
abbrev N__law_text : List Str := ["_law_tree_here", "_law_two"]
abbrev s__law_without : Stmt := topS 42
abbrev N__law_without : List Str := ["_law_text_here", "_law_found", "_law_at", "_law_deep", "_law_end", "_law_spot", "_law_sign", "_law_inner"]
abbrev s_law : Stmt := topS 43
abbrev N_law : List Str := ["_law_script", "_law_draw", "_law_turn", "_law_names", "_law_tree_here", "_law_text_here", "_law_a", "_law_b", "_law_some", "_law_due", "_law_k", "_law_bare"]
abbrev s_Reader___init__ : Stmt := metS 0 (topS 26)
abbrev N_Reader___init__ : List Str := ["self", "text"]
abbrev s_Reader_ahead : Stmt := metS 1 (topS 26)
abbrev N_Reader_ahead : List Str := ["self"]
abbrev s_Reader_wrong : Stmt := metS 2 (topS 26)
abbrev N_Reader_wrong : List Str := ["self"]
abbrev s_Reader_taken : Stmt := metS 3 (topS 26)
abbrev N_Reader_taken : List Str := ["self", "word"]
abbrev s_Reader_number : Stmt := metS 4 (topS 26)
abbrev N_Reader_number : List Str := ["self", "found"]
abbrev s_Reader_atom : Stmt := metS 5 (topS 26)
abbrev N_Reader_atom : List Str := ["self", "word", "found"]
abbrev s_Reader_power : Stmt := metS 6 (topS 26)
abbrev N_Reader_power : List Str := ["self", "found", "below", "number"]
abbrev s_Reader_products : Stmt := metS 7 (topS 26)
abbrev N_Reader_products : List Str := ["self", "found", "word"]
abbrev s_Reader_sums : Stmt := metS 8 (topS 26)
abbrev N_Reader_sums : List Str := ["self", "found", "word"]
abbrev i_RungError : Stmt := iniS (topS 1)
abbrev i_BadText : Stmt := iniS (topS 6)
def k_BINARY : List Str := ["plus", "minus", "times", "over"]
def kn : List Str := ["BadText"]
end K53
namespace K53
open PySem PySem.Spec PyProof.Rows L2 Rg
def dz_number_in := dzM ("number_in", none) "number_in" "number_in" s_number_in
def dz_is_name := dzM ("is_name", none) "is_name" "is_name" s_is_name
def dz_bits_of := dzM ("bits_of", none) "bits_of" "bits_of" s_bits_of
def dz_read := dzM ("read", none) "read" "read" s_read
def dz_shut := dzM ("shut", none) "shut" "shut" s_shut
def dz_write := dzM ("write", none) "write" "write" s_write
def dz__law_begin := dzM ("_law_begin", none) "_law_begin" "_law_begin" s__law_begin
def dz__law_take := dzM ("_law_take", none) "_law_take" "_law_take" s__law_take
def dz__law_of := dzM ("_law_of", none) "_law_of" "_law_of" s__law_of
def dz__law_same := dzM ("_law_same", none) "_law_same" "_law_same" s__law_same
def dz__law_why := dzM ("_law_why", none) "_law_why" "_law_why" s__law_why
def dz__law_letters := dzM ("_law_letters", none) "_law_letters" "_law_letters" s__law_letters
def dz__law_fresh := dzM ("_law_fresh", none) "_law_fresh" "_law_fresh" s__law_fresh
def dz__law_tree := dzM ("_law_tree", none) "_law_tree" "_law_tree" s__law_tree
def dz__law_signs := dzM ("_law_signs", none) "_law_signs" "_law_signs" s__law_signs
def dz__law_shut := dzM ("_law_shut", none) "_law_shut" "_law_shut" s__law_shut
def dz__law_text := dzM ("_law_text", none) "_law_text" "_law_text" s__law_text
def dz__law_without := dzM ("_law_without", none) "_law_without" "_law_without" s__law_without
def dz_law := dzM ("law", none) "law" "law" s_law
def dz_Reader___init__ := dzM ("Reader", some "__init__") "__init__" "Reader.__init__" s_Reader___init__
def dz_Reader_ahead := dzM ("Reader", some "ahead") "ahead" "Reader.ahead" s_Reader_ahead
def dz_Reader_wrong := dzM ("Reader", some "wrong") "wrong" "Reader.wrong" s_Reader_wrong
def dz_Reader_taken := dzM ("Reader", some "taken") "taken" "Reader.taken" s_Reader_taken
def dz_Reader_number := dzM ("Reader", some "number") "number" "Reader.number" s_Reader_number
def dz_Reader_atom := dzM ("Reader", some "atom") "atom" "Reader.atom" s_Reader_atom
def dz_Reader_power := dzM ("Reader", some "power") "power" "Reader.power" s_Reader_power
def dz_Reader_products := dzM ("Reader", some "products") "products" "Reader.products" s_Reader_products
def dz_Reader_sums := dzM ("Reader", some "sums") "sums" "Reader.sums" s_Reader_sums
def dz_i_RungError : He.DefD := ⟨("RungError", some "__init__"), "__init__", "RungError.__init__", defArgs i_RungError, defBody i_RungError, defScope i_RungError, [.str "RungError"], []⟩
def dz_i_BadText := dzM ("BadText", some "__init__") "__init__" "BadText.__init__" i_BadText
def fn_0 : List He.DefD := [dz_number_in, dz_is_name, dz_bits_of, dz_read, dz_shut, dz_write, dz__law_begin, dz__law_take, dz__law_of, dz__law_same, dz__law_why, dz__law_letters, dz__law_fresh, dz__law_tree, dz__law_signs, dz__law_shut, dz__law_text, dz__law_without, dz_law, dz_Reader___init__, dz_Reader_ahead, dz_Reader_wrong, dz_Reader_taken, dz_Reader_number]
def fn_1 : List He.DefD := [dz_Reader_atom, dz_Reader_power, dz_Reader_products, dz_Reader_sums, dz_i_RungError, dz_i_BadText]
def fn : List He.DefD := fn_0 ++ (fn_1)
def tf : List He.Defn := [("law", none)]
def fa_0 : List He.Fa := ([.glo "number_in", .glo "is_name", .glo "bits_of", .glo "read", .glo "shut", .glo "write", .glo "_law_begin", .glo "_law_take", .glo "_law_of", .glo "_law_same", .glo "_law_why", .glo "_law_letters", .glo "_law_fresh", .glo "_law_tree", .glo "_law_signs", .glo "_law_shut", .glo "_law_text", .glo "_law_without", .glo "law", .glo "Reader", .glo "RungError", .glo "BadText", .glo "NotWhole", .glo "TooTall", .glo "BadTable", .glo "BadPage", .glo "Stopped", .glo "Used", .glo "Held", .glo "NoGuest"] : List He.Fa) ++ ([.glo "NoName", .glo "RungMissing", .free "abs", .free "all", .free "any", .free "bool", .free "int", .free "isinstance", .free "len", .free "list", .free "max", .free "range", .free "str", .free "tuple", .free "zip", .str "FIGURES" "0123456789", .str "LETTERS" "abcdefghijklmnopqrstuvwxyz", .int "LONGEST" 8, .int "MOST_FIGURES" 6, .glo "BINARY", .glo "PRODUCTS", .glo "SIGNS", .glo "SUMS"] : List He.Fa)
def fa : List He.Fa := fa_0
def exs_0 (K : PySem.W.Frag) : List Bool := [He.tupB K "BINARY" ((["plus", "minus", "times", "over"] : List Str).map He.Dv.str), bseB K "RungError", subB K "BadText" ["at"], iniB K "BadText"]
def exs_1 (K : PySem.W.Frag) : List Bool := [clsB K "Reader" ["bits", "spot", "end"] ["__init__", "ahead", "wrong", "taken", "number", "atom", "power", "products", "sums"], makB K "Reader", !(He.ga K "PRODUCTS" == sysModules), !(He.ga K "SIGNS" == sysModules), !(He.ga K "SUMS" == sysModules), (kn.all fun c => whyB K c), tabsUn K, tabsIn tf K]
def exs (K : PySem.W.Frag) : List Bool := exs_0 K ++ (exs_1 K)
def ex (K : PySem.W.Frag) : Bool := (fa.all fun f => f.ok K) && (exs K).all id
end K53
section
namespace Rg
open PySem L2
structure LamB where
  params : Arguments
  body : Expr
  scope : Scope
  qual : Str
inductive D where
  | non | bl (b : Bool) | int (i : Int) | str (s : Str) | tup (xs : List D) | lst (xs : List D) | scr (ns : List Int) | ty (n : String) | fn (k : Nat) (b : LamB) (z : List (Str × Addr)) | dct (ks : List Key) (ds : List D) | dcT (ks : List (List Key)) (ds : List D) | ins (c : Str) (ns : List Str) (ds : List D) | opq | adr (a : Addr)
deriving Inhabited
inductive Mk where
  | k (ks : List Key) | t (ks : List (List Key))
  /-- ints and pairs of ints side by side (an int as the row of it alone) -/
  | x (ks : List (List Key))
  /-- an instance of one's own: its fields' names -/
  | r (c : Str) (ns : List Str)
inductive Sl where
  | no | v (d : D) | o (xs : List D) | m (k : Mk) (ds : List D) | i (c : Str) (ns : List Str) (ds : List D) (w : Option (Str × List D))
deriving Inhabited
abbrev Env := List Sl
def gt : Env → Nat → Sl
  | [], _ => .no
  | s :: _, 0 => s
  | _ :: Γ, i + 1 => gt Γ i
def Mk.d : Mk → List D → D
  | .k ks, ds => .dct ks ds
  | .t ks, ds => .dcT ks ds
  | .x _, _ => .opq
  | .r _ _, _ => .opq
mutual
def lf : D → Bool
  | .lst _ => false
  | .scr _ => false
  | .tup xs => lfA xs
  | .dct _ xs => lfA xs
  | .dcT _ xs => lfA xs
  | .ins _ _ _ => false
  | _ => true
def lfA : List D → Bool
  | [] => true
  | d :: ds => lf d && lfA ds
end
def twB : List Str → Bool
  | n :: _ => n == "base"
  | [] => false
mutual
def ntD : D → Bool
  | .tup xs => ntA xs
  | .lst xs => ntA xs
  | .dct _ xs => ntA xs
  | .dcT _ xs => ntA xs
  | .ins _ ns xs => !twB ns && ntA xs
  | _ => true
def ntA : List D → Bool
  | [] => true
  | d :: ds => ntD d && ntA ds
end
end Rg
end
section
namespace Rg
open PySem L2
inductive R (α : Type) where
  | ok (a : α) | exc (c : Str) (fs : List (Str × D)) | bad
def R.bind {α β : Type} (x : R α) (f : α → R β) : R β := match x with
  | .ok a => f a
  | .exc c fs => .exc c fs
  | .bad => .bad
inductive Nw where
  | v (d : D) | o (xs : List D)
inductive BV where
  | v (d : D) | o (xs : List D) | s (i : Nat)
def Nw.bv : Nw → BV
  | .v d => .v d
  | .o xs => .o xs
def Nw.lf : Nw → Bool
  | .v d => Rg.lf d
  | .o xs => Rg.lfA xs
def BV.fz : BV → BV
  | .o xs => .v (.lst xs)
  | b => b
def mN (i : Nat) : Env → R (BV × Env) := fun Γ => match gt Γ i with
  | .v d => .ok (.v d, Γ)
  | .o _ => .ok (.s i, Γ)
  | _ => .bad
def mK (d : D) : Env → R (BV × Env) := fun Γ => .ok (.v d, Γ)
def mA0 : Env → R (List BV × Env) := fun Γ => .ok ([], Γ)
def mA1 (m : Env → R (BV × Env)) (mr : Env → R (List BV × Env)) : Env → R (List BV × Env) := fun Γ => (m Γ).bind fun x => (mr x.2).bind fun y => .ok (x.1.fz :: y.1, y.2)
def rs (Γ : Env) : BV → Option D
  | .v d => some d
  | .o _ => none
  | .s i => match gt Γ i with
    | .v d => some d
    | .o xs => some (.lst xs)
    | _ => none
def rsA (Γ : Env) : List BV → Option (List D)
  | [] => some []
  | b :: bs => (rs Γ b).bind fun d => (rsA Γ bs).map (d :: ·)
def mB (bf : List D → Option Nw) (ma : Env → R (List BV × Env)) : Env → R (BV × Env) := fun Γ => (ma Γ).bind fun y => match (rsA y.2 y.1).bind bf with
  | some nw => .ok (nw.bv, y.2)
  | none => .bad
def mT (m : Env → R (BV × Env)) : Env → R (Bool × Env) := fun Γ => (m Γ).bind fun x => match x.1 with
  | .v (.bl k) => .ok (k, x.2)
  | _ => .bad
def mAnd (a b : Env → R (Bool × Env)) : Env → R (Bool × Env) := fun Γ => (a Γ).bind fun x => if x.1 = true then b x.2 else .ok (false, x.2)
def mOr (a b : Env → R (Bool × Env)) : Env → R (Bool × Env) := fun Γ => (a Γ).bind fun x => if x.1 = true then .ok (true, x.2) else b x.2
def mNot (a : Env → R (Bool × Env)) : Env → R (Bool × Env) := fun Γ => (a Γ).bind fun x => .ok (!x.1, x.2)
def mIfE (c : Env → R (Bool × Env)) (a b : Env → R (BV × Env)) : Env → R (BV × Env) := fun Γ => (c Γ).bind fun x => if x.1 = true then a x.2 else b x.2
end Rg
end
section
namespace Rg
open PySem L2
def SZ : Nat := 1000000
mutual
def toP : D → PyData
  | .non => .none
  | .bl b => .bool b
  | .int i => .int i
  | .str s => .str s
  | .tup xs => .tuple (toPA xs)
  | .lst xs => .list (toPA xs)
  | .scr ns => .list (ns.map PyData.int)
  | .ty _ => .dict []
  | .fn _ _ _ => .dict []
  | .dct _ _ => .dict []
  | .dcT _ _ => .dict []
  | .ins _ _ _ => .dict []
  | .opq => .dict []
  | .adr _ => .dict []
def toPA : List D → List PyData
  | [] => []
  | d :: ds => toP d :: toPA ds
end
def eqD (a b : D) : Bool := PyData.eqv (toP a) (toP b)
def shp (d : D) : Bool := SeqAt.shaped (toP d)
def fEq : List D → Option Nw
  | [a, b] => if (shp a && shp b) = true then some (.v (.bl (eqD a b))) else none
  | _ => none
def fNe : List D → Option Nw
  | [a, b] => if (shp a && shp b) = true then some (.v (.bl (!eqD a b))) else none
  | _ => none
def fAdd : List D → Option Nw
  | [.int i, .int j] => some (.v (.int (i + j)))
  | [.lst a, .lst b] => if a.length + b.length ≤ SZ then some (.o (a ++ b)) else none
  | [.tup a, .tup b] => if a.length + b.length ≤ SZ then some (.v (.tup (a ++ b))) else none
  | [.str a, .str b] => if a.length + b.length ≤ SZ then some (.v (.str (a ++ b))) else none
  | _ => none
def fSub : List D → Option Nw
  | [.int i, .int j] => some (.v (.int (i - j)))
  | _ => none
noncomputable def fMul : List D → Option Nw
  | [.int i, .int j] => @ite _ ((-(2 ^ 64) < i ∧ i < 2 ^ 64) ∨ (-(2 ^ 64) < j ∧ j < 2 ^ 64)) (Classical.propDecidable _) (some (.v (.int (i * j)))) none
  | [.lst a, .int k] => @ite _ (-1000000 ≤ k ∧ k ≤ 1000000 ∧ a.length * k.toNat ≤ SZ) (Classical.propDecidable _) (some (.o (List.replicate k.toNat a).flatten)) none
  | _ => none
def fMod : List D → Option Nw
  | [.int i, .int j] => if 0 < j then some (.v (.int (i % j))) else none
  | _ => none
noncomputable def fDiv : List D → Option Nw
  | [.int i, .int j] => @ite _ (0 < j ∧ j < 2 ^ 128) (Classical.propDecidable _) (some (.v (.int (i / j)))) none
  | _ => none
def fCmp (p : Int → Int → Bool) : List D → Option Nw
  | [.int i, .int j] => some (.v (.bl (p i j)))
  | _ => none
abbrev fLt := fCmp fun i j => decide (i < j)
abbrev fGt := fCmp fun i j => decide (j < i)
def intsOf : List D → Option (List Int)
  | [] => some []
  | .int i :: ds => (intsOf ds).map (i :: ·)
  | _ :: _ => none
def fIn (neg : Bool) : List D → Option Nw
  | [.int i, .tup ds] => (intsOf ds).map fun ns => .v (.bl (if neg then !ns.contains i else ns.contains i))
  | [.int i, .lst ds] => (intsOf ds).map fun ns => .v (.bl (if neg then !ns.contains i else ns.contains i))
  | _ => none
def two (bf : List D → Option Nw) : List D → Option Nw
  | [x, y] => bf [x, y]
  | _ => none
def mCh (p q : Int → Int → Bool) (ma mb mc : Env → R (BV × Env)) : Env → R (BV × Env) := fun Γ => (mA1 ma (mA1 mb mA0) Γ).bind fun y => match rsA y.2 y.1 with
  | some [.int i, .int j] => if p i j = true then (mc y.2).bind fun z => (match rs z.2 z.1.fz with
      | some (.int k) => .ok (.v (.bl (q j k)), z.2)
      | _ => .bad) else .ok (.v (.bl false), y.2)
  | _ => .bad
def fNeg : List D → Option Nw
  | [.int i] => some (.v (.int (-i)))
  | _ => none
def mNeg (m : Env → R (BV × Env)) : Env → R (BV × Env) := mB fNeg (mA1 m mA0)
def mAndV (a b : Env → R (BV × Env)) : Env → R (BV × Env) := fun Γ => (mT a Γ).bind fun x => if x.1 = true then b x.2 else .ok (.v (.bl false), x.2)
def mOrV (a b : Env → R (BV × Env)) : Env → R (BV × Env) := fun Γ => (mT a Γ).bind fun x => if x.1 = true then .ok (.v (.bl true), x.2) else b x.2
end Rg
end
section
namespace Rg
open PySem L2
def fLen : List D → Option Nw
  | [.lst xs] => some (.v (.int xs.length))
  | [.tup xs] => some (.v (.int xs.length))
  | [.scr xs] => some (.v (.int xs.length))
  | [.str x] => if x.length ≤ SZ then some (.v (.int x.length)) else none
  | _ => none
def fList : List D → Option Nw
  | [.lst xs] => some (.o xs)
  | [.tup xs] => some (.o xs)
  | _ => none
def fTuple : List D → Option Nw
  | [.lst xs] => some (.v (.tup xs))
  | [.tup xs] => some (.v (.tup xs))
  | _ => none
def fInt : List D → Option Nw
  | [.int i] => some (.v (.int i))
  | [.bl b] => some (.v (.int (if b then 1 else 0)))
  | _ => none
def fMax : List D → Option Nw
  | [.int i, .int j] => some (.v (.int (if j > i then j else i)))
  | _ => none
def blsOf : List D → Option (List Bool)
  | [] => some []
  | .bl i :: ds => (blsOf ds).map (i :: ·)
  | _ :: _ => none
def fAll : List D → Option Nw
  | [.lst ds] => (blsOf ds).map fun bs => .v (.bl (bs.all id))
  | _ => none
def fz1 (b : BV) (ds : List D) (Γ : Env) : Option (List D × Env) := match b with
  | .v d => some (d :: ds, Γ)
  | .s i => (match gt Γ i with
    | .o xs => some (.lst xs :: ds, Γ.set i (.v (.lst xs)))
    | .v d => some (d :: ds, Γ)
    | _ => none)
  | .o _ => none
def fzL : List BV → Env → Option (List D × Env)
  | [], Γ => some ([], Γ)
  | b :: bs, Γ => (fzL bs Γ).bind fun z => fz1 b z.1 z.2
def mFzA (ma : Env → R (List BV × Env)) : Env → R (List D × Env) := fun Γ => (ma Γ).bind fun y => match fzL y.1 y.2 with
  | some z => .ok z
  | none => .bad
def mTup (ma : Env → R (List BV × Env)) : Env → R (BV × Env) := fun Γ => (mFzA ma Γ).bind fun y => if y.1.length ≤ SZ then .ok (.v (.tup y.1), y.2) else .bad
def mLst (ma : Env → R (List BV × Env)) : Env → R (BV × Env) := fun Γ => (mFzA ma Γ).bind fun y => if y.1.length ≤ SZ then .ok (.o y.1, y.2) else .bad
def fIx : List D → Option Nw
  | [.lst xs, .int i] => (atI xs i).map .v
  | [.tup xs, .int i] => (atI xs i).map .v
  | [.str x, .int i] => if x.length ≤ SZ then (atI x.cps.toList i).map fun c => .v (.str ⟨#[c]⟩) else none
  | _ => none
def cutD (xs : List D) (lo hi : Option Int) : List D := (xs.drop (HT.sIx xs.length 0 lo)).take (HT.sIx xs.length xs.length hi - HT.sIx xs.length 0 lo)
def fSl (lo hi : Option Int) : D → Option Nw
  | .lst xs => some (.o (cutD xs lo hi))
  | .tup xs => some (.v (.tup (cutD xs lo hi)))
  | .scr ns => some (.o (cutD (ns.map D.int) lo hi))
  | _ => none
def fSlH : List D → Option Nw
  | [x, .int i] => fSl none (some i) x
  | _ => none
def fSlL : List D → Option Nw
  | [x, .int i] => fSl (some i) none x
  | _ => none
end Rg
end
section
namespace Rg
open PySem L2
inductive Fl where
  | nx (Γ : Env) | rt (w : Nw) (Γ : Env) | bk (Γ : Env) | ct (Γ : Env)
def mNx : Env → R Fl := fun Γ => .ok (.nx Γ)
def mSeq (a b : Env → R Fl) : Env → R Fl := fun Γ => (a Γ).bind fun f => match f with
  | .nx Γ1 => b Γ1
  | f => .ok f
def mDrop (m : Env → R (BV × Env)) : Env → R Fl := fun Γ => (m Γ).bind fun x => .ok (.nx x.2)
def mRet (m : Env → R (BV × Env)) : Env → R Fl := fun Γ => (m Γ).bind fun x => match x.1 with
  | .v d => .ok (.rt (.v d) x.2)
  | .o xs => .ok (.rt (.o xs) x.2)
  | .s i => (match gt x.2 i with
    | .o xs => .ok (.rt (.o xs) (x.2.set i .no))
    | .v d => .ok (.rt (.v d) x.2)
    | _ => .bad)
def mIf (c : Env → R (Bool × Env)) (a b : Env → R Fl) : Env → R Fl := fun Γ => (c Γ).bind fun x => if x.1 = true then a x.2 else b x.2
def mBad : Env → R Fl := fun _ => .bad
def stB (i : Nat) (b : BV) (Γ : Env) : Option Env := match b with
  | .v d => some (Γ.set i (.v d))
  | .o xs => if 0 < i then some (Γ.set i (.o xs)) else none
  | .s j => (match gt Γ j with
    | .o xs => some ((Γ.set j (.v (.lst xs))).set i (.v (.lst xs)))
    | .v d => some (Γ.set i (.v d))
    | _ => none)
def mSet (i : Nat) (m : Env → R (BV × Env)) : Env → R Fl := fun Γ => (m Γ).bind fun x => match stB i x.1 x.2 with
  | some Γ1 => .ok (.nx Γ1)
  | none => .bad
def gN (i : Nat) : D → Env → Option Env := fun d Γ => some (Γ.set i (.v d))
def gs0 : List D → Env → Option Env := fun ds Γ => match ds with
  | [] => some Γ
  | _ => none
def gs1 (f : D → Env → Option Env) (fs : List D → Env → Option Env) : List D → Env → Option Env := fun ds Γ => match ds with
  | d :: ds => (f d Γ).bind fun Γ1 => fs ds Γ1
  | [] => none
def gT (n : Nat) (fs : List D → Env → Option Env) : D → Env → Option Env := fun d Γ => match d with
  | .tup ds => if ds.length = n then fs ds Γ else none
  | _ => none
def mFz1 (m : Env → R (BV × Env)) : Env → R (D × Env) := fun Γ => (m Γ).bind fun x => match x.1.fz with
  | .v d => .ok (d, x.2)
  | .s i => (match gt x.2 i with
    | .o xs => .ok (.lst xs, x.2.set i (.v (.lst xs)))
    | .v d => .ok (d, x.2)
    | _ => .bad)
  | .o _ => .bad
def mAsg (f : D → Env → Option Env) (m : Env → R (BV × Env)) : Env → R Fl := fun Γ => (mFz1 m Γ).bind fun x => match f x.1 x.2 with
  | some Γ1 => .ok (.nx Γ1)
  | none => .bad
def mPar (i j : Nat) (ma : Env → R (List BV × Env)) : Env → R Fl := fun Γ => (mFzA ma Γ).bind fun y => match y.1 with
  | [d, d2] => .ok (.nx ((y.2.set i (.v d)).set j (.v d2)))
  | _ => .bad
def mAug (i : Nat) (bf : List D → Option Nw) (m : Env → R (BV × Env)) : Env → R Fl := fun Γ => match gt Γ i with
  | .v (.int a) => (m Γ).bind fun x => (match x.1 with
    | .v (.int b) => (match bf [.int a, .int b] with
      | some (.v (.int c)) => .ok (.nx (x.2.set i (.v (.int c))))
      | _ => .bad)
    | _ => .bad)
  | _ => .bad
def mSetIx (k : Nat) (mi me : Env → R (BV × Env)) : Env → R Fl := fun Γ => (mFz1 me Γ).bind fun x => match gt x.2 k with
  | .o _ => (mi x.2).bind fun y => (match y.1, gt y.2 k with
    | .v (.int i), .o xs => (match ixN xs.length i with
      | some j => .ok (.nx (y.2.set k (.o (xs.set j x.1))))
      | none => .bad)
    | _, _ => .bad)
  | _ => .bad
end Rg
end
section
namespace Rg
open PySem L2
noncomputable def mAugIx (k : Nat) (bf : List D → Option Nw) (mi me : Env → R (BV × Env)) : Env → R Fl := fun Γ => match gt Γ k with
  | .o _ => (mi Γ).bind fun y => (match y.1, gt y.2 k with
    | .v (.int i), .o xs => @ite _ (0 ≤ i ∧ i < 2 ^ 63) (Classical.propDecidable _) (match xs[i.toNat]? with
      | some (.int a) => (me y.2).bind fun z => (match z.1, gt z.2 k with
        | .v (.int b), .o ys => (match bf [.int a, .int b], ixN ys.length i with
          | some (.v (.int c)), some j => .ok (.nx (z.2.set k (.o (ys.set j (.int c)))))
          | _, _ => .bad)
        | _, _ => .bad)
      | _ => .bad) .bad
    | _, _ => .bad)
  | _ => .bad
def mMe (k : Nat) (f : List D → List D → Option (D × List D)) (ma : Env → R (List BV × Env)) : Env → R (BV × Env) := fun Γ => match gt Γ k with
  | .o _ => (mFzA ma Γ).bind fun y => (match gt y.2 k with
    | .o xs => (match f xs y.1 with
      | some z => .ok (.v z.1, y.2.set k (.o z.2))
      | none => .bad)
    | _ => .bad)
  | _ => .bad
def fApp : List D → List D → Option (D × List D)
  | xs, [d] => if xs.length < SZ then some (.non, xs ++ [d]) else none
  | _, _ => none
def mWh (c : Env → R (Bool × Env)) (b : Env → R Fl) : Nat → Env → R Fl
  | 0, _ => .bad
  | n + 1, Γ => (c Γ).bind fun x => if x.1 = true then (b x.2).bind fun f => (match f with
    | .nx Γ1 => mWh c b n Γ1
    | .ct Γ1 => mWh c b n Γ1
    | .bk Γ1 => .ok (.nx Γ1)
    | .rt w Γ1 => .ok (.rt w Γ1)) else .ok (.nx x.2)
def mForL (f : D → Env → Option Env) (b : Env → R Fl) : List D → Env → R Fl
  | [], Γ => .ok (.nx Γ)
  | d :: ds, Γ => match f d Γ with
    | none => .bad
    | some Γ1 => (b Γ1).bind fun g => (match g with
      | .nx Γ2 => mForL f b ds Γ2
      | .ct Γ2 => mForL f b ds Γ2
      | .bk Γ2 => .ok (.nx Γ2)
      | .rt w Γ2 => .ok (.rt w Γ2))
def mFor (mi : Env → R (List D × Env)) (f : D → Env → Option Env) (b : Env → R Fl) : Env → R Fl := fun Γ => (mi Γ).bind fun y => mForL f b y.1 y.2
end Rg
end
section
namespace Rg
open PySem L2
def rngD (lo c : Int) (n : Nat) : List D := (List.range n).map fun (k : Nat) => .int (lo + k * c)
def enumD : Nat → List D → List D
  | _, [] => []
  | k, d :: ds => .tup [.int k, d] :: enumD (k + 1) ds
def zipD : List D → List D → List D
  | a :: as, b :: bs => .tup [a, b] :: zipD as bs
  | _, _ => []
noncomputable def mR1 (ma : Env → R (List BV × Env)) : Env → R (List D × Env) := fun Γ => (mFzA ma Γ).bind fun y => match y.1 with
  | [.int j] => @ite _ (-(2 ^ 62) ≤ j ∧ j < 2 ^ 62) (Classical.propDecidable _) (.ok (rngD 0 1 j.toNat, y.2)) .bad
  | _ => .bad
noncomputable def mR2 (ma : Env → R (List BV × Env)) : Env → R (List D × Env) := fun Γ => (mFzA ma Γ).bind fun y => match y.1 with
  | [.int i, .int j] => @ite _ (-(2 ^ 62) ≤ i ∧ i < 2 ^ 62 ∧ -(2 ^ 62) ≤ j ∧ j < 2 ^ 62) (Classical.propDecidable _) (.ok (rngD i 1 (j - i).toNat, y.2)) .bad
  | _ => .bad
noncomputable def mR3 (ma : Env → R (List BV × Env)) : Env → R (List D × Env) := fun Γ => (mFzA ma Γ).bind fun y => match y.1 with
  | [.int i, .int j, .int c] => @ite _ (-(2 ^ 62) ≤ i ∧ i < 2 ^ 62 ∧ -(2 ^ 62) ≤ j ∧ j < 2 ^ 62 ∧ c = -1) (Classical.propDecidable _) (.ok (rngD i (-1) (i - j).toNat, y.2)) .bad
  | _ => .bad
def mIs (m : Env → R (BV × Env)) : Env → R (List D × Env) := fun Γ => (mFz1 m Γ).bind fun x => match x.1 with
  | .lst xs => .ok (xs, x.2)
  | .tup xs => .ok (xs, x.2)
  | _ => .bad
def mEn (ma : Env → R (List BV × Env)) : Env → R (List D × Env) := fun Γ => (mFzA ma Γ).bind fun y => match y.1 with
  | [.lst xs] => .ok (enumD 0 xs, y.2)
  | [.tup xs] => .ok (enumD 0 xs, y.2)
  | _ => .bad
def mZa (ma : Env → R (List BV × Env)) : Env → R (List D × Env) := fun Γ => (mFzA ma Γ).bind fun y => match y.1 with
  | [.lst xs, .lst ys] => .ok (zipD xs ys, y.2)
  | [.tup xs, .tup ys] => .ok (zipD xs ys, y.2)
  | _ => .bad
end Rg
end
section
namespace Rg
open PySem L2
def wipeE (Γ : Env) : List Nat → Env
  | [] => Γ
  | v :: vs => (wipeE Γ vs).set v .no
def nox {α : Type} : R α → R α
  | .ok a => .ok a
  | _ => .bad
def mLcL (f : D → Env → Option Env) (t : Env → R (Bool × Env)) (e : Env → R (BV × Env)) (vs : List Nat) : List D → Env → List D → R (List D × Env)
  | [], Γ, acc => .ok (acc, Γ)
  | d :: ds, Γ, acc => match f d Γ with
    | none => .bad
    | some Γ1 => (nox (t Γ1)).bind fun x => if x.1 = true then (nox (mFz1 e x.2)).bind fun y => (if acc.length < SZ then mLcL f t e vs ds (wipeE y.2 vs) (acc ++ [y.1]) else .bad) else mLcL f t e vs ds (wipeE x.2 vs) acc
def mLc (mi : Env → R (List D × Env)) (f : D → Env → Option Env) (t : Env → R (Bool × Env)) (e : Env → R (BV × Env)) (vs : List Nat) : Env → R (BV × Env) := fun Γ => (mi Γ).bind fun y => (mLcL f t e vs y.1 (wipeE y.2 vs) []).bind fun z => .ok (.o z.1, z.2)
def mYes : Env → R (Bool × Env) := fun Γ => .ok (true, Γ)
end Rg
end
section
namespace Rg
open PySem L2
def allV : List BV → Bool
  | [] => true
  | .v _ :: bs => allV bs
  | _ :: _ => false
def lfFs : List (Str × D) → Bool
  | [] => true
  | (_, d) :: fs => lf d && lfFs fs
def rsB (Γ : Env) (bs : List BV) : Option (List D) := if allV bs = true then rsA Γ bs else (rsA Γ bs).bind fun ds => if ntA ds = true then some ds else none
def mCall (M : List D → R Nw) (ma : Env → R (List BV × Env)) : Env → R (BV × Env) := fun Γ => (ma Γ).bind fun y => match rsB y.2 y.1 with
  | none => .bad
  | some ds => (match M ds with
    | .ok nw => if (allV y.1 || nw.lf) = true then .ok (nw.bv, y.2) else .bad
    | .exc c fs => if (allV y.1 || lfFs fs) = true then .exc c fs else .bad
    | .bad => .bad)
def fin (n : Nat) (m : Env → R Fl) (k : Nat) : List D → R Nw := fun ds => if ds.length = n then (m (ds.map Sl.v ++ List.replicate k .no)).bind fun f => (match f with
  | .nx _ => .ok (.v .non)
  | .rt w _ => .ok w
  | _ => .bad) else .bad
end Rg
end
section
namespace Rg
open PySem PySem.Spec PyProof.Rows L2 LamX
def mRaise (c : Str) (ks : List Str) (ma : Env → R (List BV × Env)) : Env → R Fl := fun Γ => (mFzA ma Γ).bind fun y => if y.1.length = ks.length then .exc c ((ks.zip y.1).reverse ++ [(("word" : Str), D.str c)]) else .bad
end Rg
end
section
namespace Rg
open PySem PySem.Spec PyProof.Rows L2 LamX
def mNF (i : Nat) : Env → R (BV × Env) := fun Γ => match gt Γ i with
  | .v d => .ok (.v d, Γ)
  | .o _ => .ok (.s i, Γ)
  | .m k ds => .ok (.v (k.d ds), Γ.set i (.v (k.d ds)))
  | _ => .bad
def mD0 : Env → R ((Mk × List D) × Env) := fun Γ => .ok ((.k [], []), Γ)
def mSetD (i : Nat) (m : Env → R ((Mk × List D) × Env)) : Env → R Fl := fun Γ => (m Γ).bind fun y => if 0 < i then .ok (.nx (y.2.set i (.m y.1.1 y.1.2))) else .bad
def keyOf : D → Option Key
  | .int i => some (.inl i)
  | .str s => some (.inr s)
  | _ => none
def keyD : Key → D
  | .inl i => .int i
  | .inr s => .str s
section
variable {κ : Type} [DecidableEq κ]
def atK {α : Type} : List κ → List α → κ → Option α
  | k :: ks, x :: xs, q => if k = q then some x else atK ks xs q
  | _, _, _ => none
end
section
variable {κ : Type} [DecidableEq κ]
def putKs (ks : List κ) (q : κ) : List κ := if q ∈ ks then ks else ks ++ [q]
end
section
variable {κ : Type} [DecidableEq κ]
def rpl {α : Type} : List κ → List α → κ → α → List α
  | k :: ks, x :: xs, q, y => (if k = q then y else x) :: rpl ks xs q y
  | _, xs, _, _ => xs
end
section
variable {κ : Type} [DecidableEq κ]
def putVs {α : Type} (ks : List κ) (xs : List α) (q : κ) (y : α) : List α := if q ∈ ks then rpl ks xs q y else xs ++ [y]
end
def fDg : List D → Option Nw
  | [.dct ks ds, y] => (keyOf y).bind fun q => (atK ks ds q).map Nw.v
  | _ => none
def fDi (neg : Bool) : List D → Option Nw
  | [y, .dct ks ds] => (keyOf y).map fun q => .v (.bl (neg != (atK ks ds q).isSome))
  | _ => none
def mKs (m : Env → R (BV × Env)) : Env → R (List D × Env) := fun Γ => (mFz1 m Γ).bind fun x => match x.1 with
  | .dct ks _ => .ok (ks.map keyD, x.2)
  | _ => .bad
def intKs : List Key → Option (List Int)
  | [] => some []
  | .inl i :: ks => (intKs ks).map (i :: ·)
  | .inr _ :: _ => none
def srt (ns : List Int) : List Int := ns.mergeSort fun a b => decide (a ≤ b)
def fSrtD : List D → Option Nw
  | [.dct ks _] => (intKs ks).bind fun ns => if ns.length < 64 then some (.o ((srt ns).map D.int)) else none
  | _ => none
def mDput (k : Nat) (mi me : Env → R (BV × Env)) : Env → R Fl := fun Γ => (mFz1 me Γ).bind fun y => match gt y.2 k with
  | .m (.k _) _ => (mFz1 mi y.2).bind fun z => (match keyOf z.1 with
    | none => .bad
    | some q => (match gt z.2 k with
      | .m (.k ks) ds => if ds.length < SZ then .ok (.nx (z.2.set k (.m (.k (putKs ks q)) (putVs ks ds q y.1)))) else .bad
      | _ => .bad))
  | _ => .bad
def mDcL (f : D → Env → Option Env) (t : Env → R (Bool × Env)) (mk mv : Env → R (BV × Env)) (vs : List Nat) : List D → Env → List Key → List D → R ((List Key × List D) × Env)
  | [], Γ, ks, acc => .ok ((ks, acc), Γ)
  | d :: ds, Γ, ks, acc => match f d Γ with
    | none => .bad
    | some Γ1 => (nox (t Γ1)).bind fun x => if x.1 = true then (nox (mFz1 mk x.2)).bind fun y => (nox (mFz1 mv y.2)).bind fun z => (match keyOf y.1 with
      | none => .bad
      | some q => if acc.length < SZ then mDcL f t mk mv vs ds (wipeE z.2 vs) (putKs ks q) (putVs ks acc q z.1) else .bad) else mDcL f t mk mv vs ds (wipeE x.2 vs) ks acc
def mDc (mi : Env → R (List D × Env)) (f : D → Env → Option Env) (t : Env → R (Bool × Env)) (mk mv : Env → R (BV × Env)) (vs : List Nat) : Env → R ((Mk × List D) × Env) := fun Γ => (mi Γ).bind fun y => (mDcL f t mk mv vs y.1 (wipeE y.2 vs) [] []).bind fun z => .ok ((.k z.1.1, z.1.2), z.2)
end Rg
end
section
namespace Rg
open PySem PySem.Spec PyProof.Rows L2
def trD : D → Option Bool
  | .bl b => some b
  | .int i => some (i != 0)
  | _ => none
def trsD : List D → Option (List Bool)
  | [] => some []
  | v :: vs => (trD v).bind fun b => (trsD vs).map (b :: ·)
def fAnyT : List D → Option Nw
  | [.lst ds] => (trsD ds).map fun bs => .v (.bl (bs.any id))
  | [.tup ds] => (trsD ds).map fun bs => .v (.bl (bs.any id))
  | _ => none
end Rg
end
section
namespace Rg
open PySem PySem.Spec PyProof.Rows L2
noncomputable def fMulT : List D → Option Nw
  | [.tup a, .int k] => @ite _ (0 ≤ k ∧ k ≤ 1000 ∧ a ≠ [] ∧ a.length ≤ 1000) (Classical.propDecidable _) (some (.v (.tup (List.replicate k.toNat a).flatten))) none
  | _ => none
end Rg
end
section
namespace Rg
open PySem PySem.Spec PyProof.Rows L2 HT
def fRev : List D → Option Nw
  | [.lst xs] => some (.o xs.reverse)
  | [.tup xs] => some (.v (.tup xs.reverse))
  | _ => none
end Rg
end
section
namespace Rg
open PySem PySem.Spec PyProof.Rows L2 LamX
def lkD (f : Str) : List Str → List D → Option D
  | n :: ns, d :: ds => match f == n with
    | true => some d
    | false => lkD f ns ds
  | _, _ => none
def fFld (c f : Str) : List D → Option Nw
  | [.ins c' ns ds] => if c' = c then (lkD f ns ds).map Nw.v else none
  | _ => none
def callC (M : List D → R Nw) (bs : List BV) (Γ : Env) : R (BV × Env) := match rsB Γ bs with
  | none => .bad
  | some ds => (match M ds with
    | .ok nw => if (allV bs || nw.lf) = true then .ok (nw.bv, Γ) else .bad
    | .exc c fs => if (allV bs || lfFs fs) = true then .exc c fs else .bad
    | .bad => .bad)
def mMth (c m : Str) (M : List D → R Nw) (mo : Env → R (BV × Env)) (mas : Env → R (List BV × Env)) : Env → R (BV × Env) := fun Γ => (mo Γ).bind fun x => match x.1 with
  | .v (.ins c' ns ds) => if c' = c ∧ (lkD m ns ds).isNone = true then (mas x.2).bind fun y => callC M (.v (.ins c' ns ds) :: y.1) y.2 else .bad
  | _ => .bad
end Rg
end
section
namespace Rg
open PySem PySem.Spec PyProof.Rows L2 LamX
def insD (c : Str) (ns : List Str) (ds : List D) : Option (Str × List D) → D
  | none => .ins c ns ds
  | some (f, xs) => .ins c (ns ++ [f]) (ds ++ [.lst xs])
end Rg
end
section
namespace Rg
open PySem PySem.Spec PyProof.Rows L2 LamX
def mSf (c f : Str) : Env → R (BV × Env) := fun Γ => match gt Γ 0 with
  | .i c' ns ds _ => if c' = c then (match lkD f ns ds with
    | some d => .ok (.v d, Γ)
    | none => .bad) else .bad
  | _ => .bad
def mSfSet (c f : Str) (m : Env → R (BV × Env)) : Env → R Fl := fun Γ => (mFz1 m Γ).bind fun x => match gt x.2 0 with
  | .i c' ns ds none => if c' = c ∧ (lkD f ns ds).isNone = true ∧ ns.length < 900 then .ok (.nx (x.2.set 0 (.i c' (ns ++ [f]) (ds ++ [x.1]) none))) else .bad
  | _ => .bad
def mSfOwn (c f : Str) (m : Env → R (BV × Env)) : Env → R Fl := fun Γ => (m Γ).bind fun x => match x.1, gt x.2 0 with
  | .o xs, .i c' ns ds none => if c' = c ∧ (lkD f ns ds).isNone = true ∧ ns.length < 900 ∧ twB (ns ++ [f]) = false then .ok (.nx (x.2.set 0 (.i c' ns ds (some (f, xs))))) else .bad
  | _, _ => .bad
def mSfApp (c f : Str) (m : Env → R (BV × Env)) : Env → R (BV × Env) := fun Γ => match gt Γ 0 with
  | .i c0 ns0 ds0 (some (f0, _)) => if c0 = c ∧ f0 = f ∧ (lkD f ns0 ds0).isNone = true then (mFz1 m Γ).bind fun x => (match gt x.2 0 with
    | .i c' ns ds (some (f', xs)) => if c' = c ∧ f' = f ∧ xs.length < SZ then .ok (.v .non, x.2.set 0 (.i c' ns ds (some (f', xs ++ [x.1])))) else .bad
    | _ => .bad) else .bad
  | _ => .bad
def mSfB (c f : Str) (bf : List D → Option Nw) (tl : List D) : Env → R (BV × Env) := fun Γ => match gt Γ 0 with
  | .i c' ns ds (some (f', xs)) => if c' = c ∧ f' = f ∧ (lkD f ns ds).isNone = true then (match bf (.lst xs :: tl) with
    | some nw => .ok (nw.bv, Γ)
    | none => .bad) else .bad
  | _ => .bad
def noW (m : Str) : Option (Str × List D) → Bool
  | none => true
  | some (f, _) => !(m == f)
def mSmt (c m : Str) (M : List D → R Nw) (mas : Env → R (List BV × Env)) : Env → R (BV × Env) := fun Γ => match gt Γ 0 with
  | .i c0 ns0 ds0 w0 => if c0 = c ∧ (lkD m ns0 ds0).isNone = true ∧ noW m w0 = true then (mas Γ).bind fun y => (match gt y.2 0 with
    | .i c' ns ds w => (match rsA y.2 y.1 with
      | none => .bad
      | some es => if (allV y.1 && (ntD (insD c' ns ds w) && ntA es)) = true then (match M (insD c' ns ds w :: es) with
        | .ok nw => if nw.lf = true then .ok (nw.bv, y.2) else .bad
        | .exc c fs => if lfFs fs = true then .exc c fs else .bad
        | .bad => .bad) else .bad)
    | _ => .bad) else .bad
  | _ => .bad
def finN (c : Str) (n : Nat) (m : Env → R Fl) (k : Nat) : List D → R D := fun ds => if ds.length = n then (m (Sl.i c [] [] none :: (ds.map Sl.v ++ List.replicate k .no))).bind fun f => (match f with
  | .nx Γ => (match gt Γ 0 with
    | .i c' ns es w => if twB ns = true then .bad else .ok (insD c' ns es w)
    | _ => .bad)
  | _ => .bad) else .bad
end Rg
end
section
namespace Rg
open PySem PySem.Spec PyProof.Rows L2
def sqD : D → Option (List D)
  | .lst xs => some xs
  | .tup xs => some xs
  | _ => none
def mZb (ma : Env → R (List BV × Env)) : Env → R (List D × Env) := fun Γ => (mFzA ma Γ).bind fun y => match y.1 with
  | [a, b] => match sqD a, sqD b with
    | some xs, some ys => .ok (zipD xs ys, y.2)
    | _, _ => .bad
  | _ => .bad
end Rg
end
section
namespace Rg
open PySem PySem.Spec PyProof.Rows L2 LamX
noncomputable def lenK (r : R Nw) (Γ : Env) : R (BV × Env) := match r with
  | .ok (.v (.int i)) => @ite _ (0 ≤ i ∧ i < 2 ^ 62) (Classical.propDecidable _) (.ok (.v (.int i), Γ)) .bad
  | _ => .bad
noncomputable def mLen (c : Str) (M : List D → R Nw) (mas : Env → R (List BV × Env)) : Env → R (BV × Env) := fun Γ => (mas Γ).bind fun y => match y.1 with
  | [.v (.ins c1 ns ds)] => if c1 = c then lenK (M [.ins c1 ns ds]) y.2 else .bad
  | _ => .bad
end Rg
end
section
namespace Rg
open PySem PySem.Spec PyProof.Rows L2 PySem.W
noncomputable def srtP {α : Type} (k : α → PyData) (l : List α) : List α := l.mergeSort (dataLe false k)
def SrtOk (ps : List PyData) : Prop := AllAlike ps ∧ Sortable ps ∧ ∀ p ∈ ps, p.canLay0 = true ∧ p.depth ≤ 60
noncomputable def srtD (ds : List D) : List D := srtP toP ds
open Classical in
noncomputable def fSrtG : List D → Option Nw
  | [.lst ds] => if SrtOk (ds.map toP) then some (.o (srtD ds)) else none
  | _ => none
end Rg
end
section
namespace Rg
open PySem
def FUEL : Nat := 1000000000000000000000000
end Rg
end
section
namespace Mn
open PySem Rg
abbrev Env := Rg.Env
def k_PRIMES : List Int := [2, 3, 5, 7, 11, 13, 17, 19, 23, 29, 31, 37, 41, 43, 47, 53, 59, 61, 67, 71, 73, 79, 83, 89, 97]
noncomputable def B_is_prime : Env → R Fl :=
  (mRet (mB (two (fIn false)) (mA1 (mN 0) (mA1 (mK (.tup (k_PRIMES.map D.int))) mA0))))
noncomputable def M_is_prime : List D → R Nw := fin 1 B_is_prime 0
noncomputable def B_need_prime : Env → R Fl :=
  (mIf (mNot (mT (mCall M_is_prime (mA1 (mN 0) mA0)))) (mRaise "BadPrime" [] mA0) mNx)
noncomputable def M_need_prime : List D → R Nw := fin 1 B_need_prime 0
noncomputable def B_is_rest : Env → R Fl :=
  (mRet (mCh (fun i j => decide (i ≤ j)) (fun i j => decide (i < j)) (mK (.int 0)) (mN 0) (mN 1)))
noncomputable def M_is_rest : List D → R Nw := fin 2 B_is_rest 0
noncomputable def Wc_raised_1 : Env → R (Bool × Env) :=
  (mT (mB (two fGt) (mA1 (mN 1) (mA1 (mK (.int 0)) mA0))))
noncomputable def Wb_raised_1 : Env → R Fl :=
  (mSeq (mIf (mT (mB (two fEq) (mA1 (mB (two fMod) (mA1 (mN 1) (mA1 (mK (.int 2)) mA0))) (mA1 (mK (.int 1)) mA0)))) (mSet 3 (mB (two fMod) (mA1 (mB (two fMul) (mA1 (mN 3) (mA1 (mN 4) mA0))) (mA1 (mN 2) mA0)))) mNx)
  (mSeq (mSet 4 (mB (two fMod) (mA1 (mB (two fMul) (mA1 (mN 4) (mA1 (mN 4) mA0))) (mA1 (mN 2) mA0))))
  (mAug 1 fDiv (mK (.int 2)))))
noncomputable def B_raised : Env → R Fl :=
  (mSeq (mSet 3 (mK (.int 1)))
  (mSeq (mSet 4 (mN 0))
  (mSeq (mWh Wc_raised_1 Wb_raised_1 FUEL)
  (mRet (mN 3)))))
noncomputable def M_raised : List D → R Nw := fin 3 B_raised 2
noncomputable def B_turned_over : Env → R Fl :=
  (mRet (mCall M_raised (mA1 (mN 0) (mA1 (mB (two fSub) (mA1 (mN 1) (mA1 (mK (.int 2)) mA0))) (mA1 (mN 1) mA0)))))
noncomputable def M_turned_over : List D → R Nw := fin 2 B_turned_over 0
noncomputable def Le_is_poly_1 : Env → R (BV × Env) :=
  (mCall M_is_rest (mA1 (mN 2) (mA1 (mN 1) mA0)))
noncomputable def B_is_poly : Env → R Fl :=
  (mSeq (mIf (mOr (mT (mB (two fGt) (mA1 (mB fLen (mA1 (mN 0) mA0)) (mA1 (mK (.int 25)) mA0)))) (mNot (mT (mB fAll (mA1 (mLc (mIs (mN 0)) (gN 2) mYes Le_is_poly_1 [2]) mA0))))) (mRet (mK (.bl false))) mNx)
  (mRet (mOrV (mB (two fEq) (mA1 (mN 0) (mA1 (mTup mA0) mA0))) (mB (two fNe) (mA1 (mB (two fIx) (mA1 (mN 0) (mA1 (mNeg (mK (.int 1))) mA0))) (mA1 (mK (.int 0)) mA0))))))
noncomputable def M_is_poly : List D → R Nw := fin 2 B_is_poly 1
noncomputable def Le_need_polys_1 : Env → R (BV × Env) :=
  (mCall M_is_poly (mA1 (mN 2) (mA1 (mN 1) mA0)))
noncomputable def B_need_polys : Env → R Fl :=
  (mSeq (mDrop (mCall M_need_prime (mA1 (mN 1) mA0)))
  (mIf (mNot (mT (mB fAll (mA1 (mLc (mIs (mN 0)) (gN 2) mYes Le_need_polys_1 [2]) mA0)))) (mRaise "BadPoly" [] mA0) mNx))
noncomputable def M_need_polys : List D → R Nw := fin 2 B_need_polys 1
noncomputable def Wc_cut_1 : Env → R (Bool × Env) :=
  (mAnd (mT (mB (two fGt) (mA1 (mN 1) (mA1 (mK (.int 0)) mA0)))) (mT (mB (two fEq) (mA1 (mB (two fIx) (mA1 (mN 0) (mA1 (mB (two fSub) (mA1 (mN 1) (mA1 (mK (.int 1)) mA0))) mA0))) (mA1 (mK (.int 0)) mA0)))))
noncomputable def Wb_cut_1 : Env → R Fl :=
  (mAug 1 fSub (mK (.int 1)))
noncomputable def B_cut : Env → R Fl :=
  (mSeq (mSet 1 (mB fLen (mA1 (mN 0) mA0)))
  (mSeq (mWh Wc_cut_1 Wb_cut_1 FUEL)
  (mRet (mB fTuple (mA1 (mB fSlH (mA1 (mN 0) (mA1 (mN 1) mA0))) mA0)))))
noncomputable def M_cut : List D → R Nw := fin 1 B_cut 1
noncomputable def B_widened : Env → R Fl :=
  (mRet (mB (two fAdd) (mA1 (mB fList (mA1 (mN 0) mA0)) (mA1 (mB (two fMul) (mA1 (mLst (mA1 (mK (.int 0)) mA0)) (mA1 (mB (two fSub) (mA1 (mN 1) (mA1 (mB fLen (mA1 (mN 0) mA0)) mA0))) mA0))) mA0))))
noncomputable def M_widened : List D → R Nw := fin 2 B_widened 0
noncomputable def Le_blended_1 : Env → R (BV × Env) :=
  (mB (two fMod) (mA1 (mB (two fAdd) (mA1 (mN 5) (mA1 (mB (two fMul) (mA1 (mN 2) (mA1 (mN 6) mA0))) mA0))) (mA1 (mN 3) mA0)))
noncomputable def B_blended : Env → R Fl :=
  (mSeq (mSet 4 (mB fMax (mA1 (mB fLen (mA1 (mN 0) mA0)) (mA1 (mB fLen (mA1 (mN 1) mA0)) mA0))))
  (mRet (mCall M_cut (mA1 (mLc (mZa (mA1 (mCall M_widened (mA1 (mN 0) (mA1 (mN 4) mA0))) (mA1 (mCall M_widened (mA1 (mN 1) (mA1 (mN 4) mA0))) mA0))) (gT 2 (gs1 (gN 5) (gs1 (gN 6) gs0))) mYes Le_blended_1 [5, 6]) mA0))))
noncomputable def M_blended : List D → R Nw := fin 4 B_blended 3
noncomputable def B_less : Env → R Fl :=
  (mRet (mCall M_blended (mA1 (mN 0) (mA1 (mN 1) (mA1 (mB (two fSub) (mA1 (mN 2) (mA1 (mK (.int 1)) mA0))) (mA1 (mN 2) mA0))))))
noncomputable def M_less : List D → R Nw := fin 3 B_less 0
noncomputable def Fb_multiplied_2 : Env → R Fl :=
  (mAugIx 3 fAdd (mB (two fAdd) (mA1 (mN 4) (mA1 (mN 6) mA0))) (mB (two fMul) (mA1 (mN 5) (mA1 (mN 7) mA0))))
noncomputable def Fb_multiplied_1 : Env → R Fl :=
  (mIf (mT (mB (two fNe) (mA1 (mN 5) (mA1 (mK (.int 0)) mA0)))) (mFor (mEn (mA1 (mN 1) mA0)) (gT 2 (gs1 (gN 6) (gs1 (gN 7) gs0))) Fb_multiplied_2) mNx)
noncomputable def Le_multiplied_3 : Env → R (BV × Env) :=
  (mB (two fMod) (mA1 (mN 8) (mA1 (mN 2) mA0)))
noncomputable def B_multiplied : Env → R Fl :=
  (mSeq (mIf (mOr (mT (mB (two fEq) (mA1 (mN 0) (mA1 (mTup mA0) mA0)))) (mT (mB (two fEq) (mA1 (mN 1) (mA1 (mTup mA0) mA0))))) (mRet (mTup mA0)) mNx)
  (mSeq (mSet 3 (mB (two fMul) (mA1 (mLst (mA1 (mK (.int 0)) mA0)) (mA1 (mB (two fSub) (mA1 (mB (two fAdd) (mA1 (mB fLen (mA1 (mN 0) mA0)) (mA1 (mB fLen (mA1 (mN 1) mA0)) mA0))) (mA1 (mK (.int 1)) mA0))) mA0))))
  (mSeq (mFor (mEn (mA1 (mN 0) mA0)) (gT 2 (gs1 (gN 4) (gs1 (gN 5) gs0))) Fb_multiplied_1)
  (mRet (mCall M_cut (mA1 (mLc (mIs (mN 3)) (gN 8) mYes Le_multiplied_3 [8]) mA0))))))
noncomputable def M_multiplied : List D → R Nw := fin 3 B_multiplied 6
noncomputable def Fb_divided_2 : Env → R Fl :=
  (mSetIx 3 (mB (two fAdd) (mA1 (mN 7) (mA1 (mN 9) mA0))) (mB (two fMod) (mA1 (mB (two fSub) (mA1 (mB (two fIx) (mA1 (mN 3) (mA1 (mB (two fAdd) (mA1 (mN 7) (mA1 (mN 9) mA0))) mA0))) (mA1 (mB (two fMul) (mA1 (mN 8) (mA1 (mN 10) mA0))) mA0))) (mA1 (mN 2) mA0))))
noncomputable def Fb_divided_1 : Env → R Fl :=
  (mSeq (mSet 8 (mB (two fMod) (mA1 (mB (two fMul) (mA1 (mB (two fIx) (mA1 (mN 3) (mA1 (mB (two fSub) (mA1 (mB (two fAdd) (mA1 (mN 7) (mA1 (mN 4) mA0))) (mA1 (mK (.int 1)) mA0))) mA0))) (mA1 (mN 5) mA0))) (mA1 (mN 2) mA0))))
  (mSeq (mSetIx 6 (mN 7) (mN 8))
  (mIf (mT (mB (two fNe) (mA1 (mN 8) (mA1 (mK (.int 0)) mA0)))) (mFor (mEn (mA1 (mN 1) mA0)) (gT 2 (gs1 (gN 9) (gs1 (gN 10) gs0))) Fb_divided_2) mNx)))
noncomputable def B_divided : Env → R Fl :=
  (mSeq (mSet 3 (mB fList (mA1 (mN 0) mA0)))
  (mSeq (mSet 4 (mB fLen (mA1 (mN 1) mA0)))
  (mSeq (mSet 5 (mCall M_turned_over (mA1 (mB (two fIx) (mA1 (mN 1) (mA1 (mNeg (mK (.int 1))) mA0))) (mA1 (mN 2) mA0))))
  (mSeq (mSet 6 (mB (two fMul) (mA1 (mLst (mA1 (mK (.int 0)) mA0)) (mA1 (mB fMax (mA1 (mK (.int 0)) (mA1 (mB (two fAdd) (mA1 (mB (two fSub) (mA1 (mB fLen (mA1 (mN 0) mA0)) (mA1 (mN 4) mA0))) (mA1 (mK (.int 1)) mA0))) mA0))) mA0))))
  (mSeq (mFor (mR3 (mA1 (mB (two fSub) (mA1 (mB fLen (mA1 (mN 0) mA0)) (mA1 (mN 4) mA0))) (mA1 (mNeg (mK (.int 1))) (mA1 (mNeg (mK (.int 1))) mA0)))) (gN 7) Fb_divided_1)
  (mRet (mTup (mA1 (mCall M_cut (mA1 (mN 6) mA0)) (mA1 (mCall M_cut (mA1 (mB fSlH (mA1 (mN 3) (mA1 (mB (two fSub) (mA1 (mN 4) (mA1 (mK (.int 1)) mA0))) mA0))) mA0)) mA0)))))))))
noncomputable def M_divided : List D → R Nw := fin 3 B_divided 8
noncomputable def Le_scaled_1 : Env → R (BV × Env) :=
  (mB (two fMod) (mA1 (mB (two fMul) (mA1 (mN 3) (mA1 (mN 1) mA0))) (mA1 (mN 2) mA0)))
noncomputable def B_scaled : Env → R Fl :=
  (mRet (mCall M_cut (mA1 (mLc (mIs (mN 0)) (gN 3) mYes Le_scaled_1 [3]) mA0)))
noncomputable def M_scaled : List D → R Nw := fin 3 B_scaled 1
noncomputable def Le_shared_2 : Env → R (BV × Env) :=
  (mCall M_less (mA1 (mB (two fIx) (mA1 (mN 3) (mA1 (mN 9) mA0))) (mA1 (mCall M_multiplied (mA1 (mN 5) (mA1 (mB (two fIx) (mA1 (mN 4) (mA1 (mN 9) mA0))) (mA1 (mN 2) mA0)))) (mA1 (mN 2) mA0))))
noncomputable def Wc_shared_1 : Env → R (Bool × Env) :=
  (mT (mB (two fNe) (mA1 (mB (two fIx) (mA1 (mN 4) (mA1 (mK (.int 0)) mA0))) (mA1 (mTup mA0) mA0))))
noncomputable def Wb_shared_1 : Env → R Fl :=
  (mSeq (mAsg (gT 2 (gs1 (gN 5) (gs1 (gN 6) gs0))) (mCall M_divided (mA1 (mB (two fIx) (mA1 (mN 3) (mA1 (mK (.int 0)) mA0))) (mA1 (mB (two fIx) (mA1 (mN 4) (mA1 (mK (.int 0)) mA0))) (mA1 (mN 2) mA0)))))
  (mSeq (mSet 7 (mLc (mIs (mTup (mA1 (mK (.int 1)) (mA1 (mK (.int 2)) mA0)))) (gN 9) mYes Le_shared_2 [9]))
  (mAsg (gT 2 (gs1 (gN 3) (gs1 (gN 4) gs0))) (mTup (mA1 (mN 4) (mA1 (mTup (mA1 (mN 6) (mA1 (mB (two fIx) (mA1 (mN 7) (mA1 (mK (.int 0)) mA0))) (mA1 (mB (two fIx) (mA1 (mN 7) (mA1 (mK (.int 1)) mA0))) mA0)))) mA0))))))
noncomputable def Le_shared_3 : Env → R (BV × Env) :=
  (mCall M_scaled (mA1 (mN 10) (mA1 (mN 8) (mA1 (mN 2) mA0))))
noncomputable def B_shared : Env → R Fl :=
  (mSeq (mAsg (gT 2 (gs1 (gN 3) (gs1 (gN 4) gs0))) (mTup (mA1 (mTup (mA1 (mN 0) (mA1 (mTup (mA1 (mK (.int 1)) mA0)) (mA1 (mTup mA0) mA0)))) (mA1 (mTup (mA1 (mN 1) (mA1 (mTup mA0) (mA1 (mTup (mA1 (mK (.int 1)) mA0)) mA0)))) mA0))))
  (mSeq (mWh Wc_shared_1 Wb_shared_1 FUEL)
  (mSeq (mIf (mT (mB (two fEq) (mA1 (mB (two fIx) (mA1 (mN 3) (mA1 (mK (.int 0)) mA0))) (mA1 (mTup mA0) mA0)))) (mRet (mN 3)) mNx)
  (mSeq (mSet 8 (mCall M_turned_over (mA1 (mB (two fIx) (mA1 (mB (two fIx) (mA1 (mN 3) (mA1 (mK (.int 0)) mA0))) (mA1 (mNeg (mK (.int 1))) mA0))) (mA1 (mN 2) mA0))))
  (mRet (mB fTuple (mA1 (mLc (mIs (mN 3)) (gN 10) mYes Le_shared_3 [10]) mA0)))))))
noncomputable def M_shared : List D → R Nw := fin 3 B_shared 8
noncomputable def B_left_by : Env → R Fl :=
  (mRet (mB (two fIx) (mA1 (mCall M_divided (mA1 (mN 0) (mA1 (mN 1) (mA1 (mN 2) mA0)))) (mA1 (mK (.int 1)) mA0))))
noncomputable def M_left_by : List D → R Nw := fin 3 B_left_by 0
noncomputable def Wc_left_raised_1 : Env → R (Bool × Env) :=
  (mT (mB (two fGt) (mA1 (mN 1) (mA1 (mK (.int 0)) mA0))))
noncomputable def Wb_left_raised_1 : Env → R Fl :=
  (mSeq (mIf (mT (mB (two fEq) (mA1 (mB (two fMod) (mA1 (mN 1) (mA1 (mK (.int 2)) mA0))) (mA1 (mK (.int 1)) mA0)))) (mSet 4 (mCall M_left_by (mA1 (mCall M_multiplied (mA1 (mN 4) (mA1 (mN 5) (mA1 (mN 3) mA0)))) (mA1 (mN 2) (mA1 (mN 3) mA0))))) mNx)
  (mSeq (mSet 5 (mCall M_left_by (mA1 (mCall M_multiplied (mA1 (mN 5) (mA1 (mN 5) (mA1 (mN 3) mA0)))) (mA1 (mN 2) (mA1 (mN 3) mA0)))))
  (mAug 1 fDiv (mK (.int 2)))))
noncomputable def B_left_raised : Env → R Fl :=
  (mSeq (mSet 4 (mCall M_left_by (mA1 (mTup (mA1 (mK (.int 1)) mA0)) (mA1 (mN 2) (mA1 (mN 3) mA0)))))
  (mSeq (mSet 5 (mCall M_left_by (mA1 (mN 0) (mA1 (mN 2) (mA1 (mN 3) mA0)))))
  (mSeq (mWh Wc_left_raised_1 Wb_left_raised_1 FUEL)
  (mRet (mN 4)))))
noncomputable def M_left_raised : List D → R Nw := fin 4 B_left_raised 2
noncomputable def Fb_put_through_1 : Env → R Fl :=
  (mSet 4 (mCall M_left_by (mA1 (mCall M_blended (mA1 (mCall M_multiplied (mA1 (mN 4) (mA1 (mN 1) (mA1 (mN 3) mA0)))) (mA1 (mCall M_cut (mA1 (mLst (mA1 (mN 5) mA0)) mA0)) (mA1 (mK (.int 1)) (mA1 (mN 3) mA0))))) (mA1 (mN 2) (mA1 (mN 3) mA0)))))
noncomputable def B_put_through : Env → R Fl :=
  (mSeq (mSet 4 (mTup mA0))
  (mSeq (mFor (mIs (mB fRev (mA1 (mN 0) mA0))) (gN 5) Fb_put_through_1)
  (mRet (mN 4))))
noncomputable def M_put_through : List D → R Nw := fin 4 B_put_through 2
noncomputable def Fb_worth_at_1 : Env → R Fl :=
  (mSet 3 (mB (two fMod) (mA1 (mB (two fAdd) (mA1 (mB (two fMul) (mA1 (mN 3) (mA1 (mN 1) mA0))) (mA1 (mN 4) mA0))) (mA1 (mN 2) mA0))))
noncomputable def B_worth_at : Env → R Fl :=
  (mSeq (mSet 3 (mK (.int 0)))
  (mSeq (mFor (mIs (mB fRev (mA1 (mN 0) mA0))) (gN 4) Fb_worth_at_1)
  (mRet (mN 3))))
noncomputable def M_worth_at : List D → R Nw := fin 3 B_worth_at 2
noncomputable def Le_sloped_1 : Env → R (BV × Env) :=
  (mB (two fMod) (mA1 (mB (two fMul) (mA1 (mN 2) (mA1 (mN 3) mA0))) (mA1 (mN 1) mA0)))
noncomputable def B_sloped : Env → R Fl :=
  (mRet (mCall M_cut (mA1 (mB fSlL (mA1 (mLc (mEn (mA1 (mN 0) mA0)) (gT 2 (gs1 (gN 2) (gs1 (gN 3) gs0))) mYes Le_sloped_1 [2, 3]) (mA1 (mK (.int 1)) mA0))) mA0)))
noncomputable def M_sloped : List D → R Nw := fin 2 B_sloped 2
end Mn
end
section
namespace Mn
open PySem Rg
noncomputable def Le_lessened_1 : Env → R (BV × Env) :=
  (mB (two fMod) (mA1 (mB (two fSub) (mA1 (mN 4) (mA1 (mB (two fMul) (mA1 (mN 2) (mA1 (mN 5) mA0))) mA0))) (mA1 (mN 3) mA0)))
noncomputable def B_lessened : Env → R Fl :=
  (mSeq (mIf (mT (mB (two fEq) (mA1 (mN 2) (mA1 (mK (.int 0)) mA0)))) (mRet (mN 0)) mNx)
  (mRet (mB fTuple (mA1 (mLc (mZa (mA1 (mN 0) (mA1 (mN 1) mA0))) (gT 2 (gs1 (gN 4) (gs1 (gN 5) gs0))) mYes Le_lessened_1 [4, 5]) mA0))))
noncomputable def M_lessened : List D → R Nw := fin 4 B_lessened 2
noncomputable def Fb_lowered_1 : Env → R Fl :=
  (mSet 0 (mCall M_lessened (mA1 (mN 0) (mA1 (mB (two fDg) (mA1 (mNF 1) (mA1 (mN 3) mA0))) (mA1 (mB (two fIx) (mA1 (mN 0) (mA1 (mN 3) mA0))) (mA1 (mN 2) mA0))))))
noncomputable def B_lowered : Env → R Fl :=
  (mSeq (mFor (mKs (mNF 1)) (gN 3) Fb_lowered_1)
  (mRet (mN 0)))
noncomputable def M_lowered : List D → R Nw := fin 3 B_lowered 1
noncomputable def Le_steps_of_2 : Env → R (BV × Env) :=
  (mN 8)
noncomputable def Lt_steps_of_2 : Env → R (Bool × Env) :=
  (mT (mB (two fNe) (mA1 (mN 9) (mA1 (mK (.int 0)) mA0))))
noncomputable def Le_steps_of_3 : Env → R (BV × Env) :=
  (mB (two fMod) (mA1 (mB (two fMul) (mA1 (mN 9) (mA1 (mN 7) mA0))) (mA1 (mN 1) mA0)))
noncomputable def Le_steps_of_4 : Env → R (BV × Env) :=
  (mCall M_lessened (mA1 (mB (two fDg) (mA1 (mNF 2) (mA1 (mN 8) mA0))) (mA1 (mN 4) (mA1 (mB (two fIx) (mA1 (mB (two fDg) (mA1 (mNF 2) (mA1 (mN 8) mA0))) (mA1 (mN 6) mA0))) (mA1 (mN 1) mA0)))))
noncomputable def Lk_steps_of_4 : Env → R (BV × Env) :=
  (mN 8)
noncomputable def Fb_steps_of_1 : Env → R Fl :=
  (mSeq (mSet 4 (mCall M_lowered (mA1 (mN 3) (mA1 (mNF 2) (mA1 (mN 1) mA0)))))
  (mSeq (mSet 5 (mLc (mEn (mA1 (mN 4) mA0)) (gT 2 (gs1 (gN 8) (gs1 (gN 9) gs0))) Lt_steps_of_2 Le_steps_of_2 [8, 9]))
  (mIf (mT (mB (two fNe) (mA1 (mN 5) (mA1 (mLst mA0) mA0)))) (mSeq (mSet 6 (mB (two fIx) (mA1 (mN 5) (mA1 (mK (.int 0)) mA0))))
  (mSeq (mSet 7 (mCall M_turned_over (mA1 (mB (two fIx) (mA1 (mN 4) (mA1 (mN 6) mA0))) (mA1 (mN 1) mA0))))
  (mSeq (mSet 4 (mB fTuple (mA1 (mLc (mIs (mN 4)) (gN 9) mYes Le_steps_of_3 [9]) mA0)))
  (mSeq (mSetD 2 (mDc (mKs (mNF 2)) (gN 8) mYes Lk_steps_of_4 Le_steps_of_4 [8]))
  (mDput 2 (mN 6) (mN 4)))))) mNx)))
noncomputable def B_steps_of : Env → R Fl :=
  (mSeq (mSetD 2 mD0)
  (mSeq (mFor (mIs (mN 0)) (gN 3) Fb_steps_of_1)
  (mRet (mNF 2))))
noncomputable def M_steps_of : List D → R Nw := fin 2 B_steps_of 8
noncomputable def Le_in_order_1 : Env → R (BV × Env) :=
  (mB (two fDg) (mA1 (mNF 0) (mA1 (mN 1) mA0)))
noncomputable def B_in_order : Env → R Fl :=
  (mRet (mLc (mIs (mB fSrtD (mA1 (mNF 0) mA0))) (gN 1) mYes Le_in_order_1 [1]))
noncomputable def M_in_order : List D → R Nw := fin 1 B_in_order 1
noncomputable def Le_idle_of_1 : Env → R (BV × Env) :=
  (mN 5)
noncomputable def Lt_idle_of_1 : Env → R (Bool × Env) :=
  (mT (mB (two (fDi true)) (mA1 (mN 5) (mA1 (mNF 3) mA0))))
noncomputable def Fb_idle_of_3 : Env → R Fl :=
  (mSetIx 7 (mN 5) (mB (two fMod) (mA1 (mB (two fSub) (mA1 (mK (.int 0)) (mA1 (mB (two fIx) (mA1 (mB (two fDg) (mA1 (mNF 3) (mA1 (mN 5) mA0))) (mA1 (mN 6) mA0))) mA0))) (mA1 (mN 2) mA0))))
noncomputable def Fb_idle_of_2 : Env → R Fl :=
  (mSeq (mSet 7 (mB (two fMul) (mA1 (mLst (mA1 (mK (.int 0)) mA0)) (mA1 (mN 1) mA0))))
  (mSeq (mSetIx 7 (mN 6) (mK (.int 1)))
  (mSeq (mFor (mKs (mNF 3)) (gN 5) Fb_idle_of_3)
  (mDrop (mMe 4 fApp (mA1 (mB fTuple (mA1 (mN 7) mA0)) mA0))))))
noncomputable def B_idle_of : Env → R Fl :=
  (mSeq (mSet 3 (mCall M_steps_of (mA1 (mN 0) (mA1 (mN 2) mA0))))
  (mSeq (mSet 4 (mLst mA0))
  (mSeq (mFor (mIs (mLc (mR1 (mA1 (mN 1) mA0)) (gN 5) Lt_idle_of_1 Le_idle_of_1 [5])) (gN 6) Fb_idle_of_2)
  (mRet (mCall M_in_order (mA1 (mCall M_steps_of (mA1 (mN 4) (mA1 (mN 2) mA0))) mA0))))))
noncomputable def M_idle_of : List D → R Nw := fin 3 B_idle_of 5
end Mn
end
section
namespace Mn
open PySem Rg
def k_PLAIN_X : List Int := [0, 1]
noncomputable def Wc_powers_left_1 : Env → R (Bool × Env) :=
  (mT (mB (two fLt) (mA1 (mB fLen (mA1 (mN 3) mA0)) (mA1 (mB (two fSub) (mA1 (mB fLen (mA1 (mN 0) mA0)) (mA1 (mK (.int 1)) mA0))) mA0))))
noncomputable def Wb_powers_left_1 : Env → R Fl :=
  (mDrop (mMe 3 fApp (mA1 (mCall M_left_by (mA1 (mCall M_multiplied (mA1 (mB (two fIx) (mA1 (mN 3) (mA1 (mNeg (mK (.int 1))) mA0))) (mA1 (mN 2) (mA1 (mN 1) mA0)))) (mA1 (mN 0) (mA1 (mN 1) mA0)))) mA0)))
noncomputable def B_powers_left : Env → R Fl :=
  (mSeq (mSet 2 (mCall M_left_raised (mA1 (mK (.tup (k_PLAIN_X.map D.int))) (mA1 (mN 1) (mA1 (mN 0) (mA1 (mN 1) mA0))))))
  (mSeq (mSet 3 (mLst (mA1 (mCall M_left_by (mA1 (mTup (mA1 (mK (.int 1)) mA0)) (mA1 (mN 0) (mA1 (mN 1) mA0)))) mA0)))
  (mSeq (mWh Wc_powers_left_1 Wb_powers_left_1 FUEL)
  (mRet (mN 3)))))
noncomputable def M_powers_left : List D → R Nw := fin 2 B_powers_left 2
noncomputable def Fb_still_of_1 : Env → R Fl :=
  (mDrop (mMe 3 fApp (mA1 (mCall M_widened (mA1 (mCall M_less (mA1 (mN 5) (mA1 (mCall M_cut (mA1 (mB (two fAdd) (mA1 (mB (two fMul) (mA1 (mLst (mA1 (mK (.int 0)) mA0)) (mA1 (mN 4) mA0))) (mA1 (mLst (mA1 (mK (.int 1)) mA0)) mA0))) mA0)) (mA1 (mN 1) mA0)))) (mA1 (mN 2) mA0))) mA0)))
noncomputable def Le_still_of_3 : Env → R (BV × Env) :=
  (mB (two fIx) (mA1 (mN 9) (mA1 (mN 7) mA0)))
noncomputable def Le_still_of_2 : Env → R (BV × Env) :=
  (mB fTuple (mA1 (mLc (mIs (mN 3)) (gN 9) mYes Le_still_of_3 [9]) mA0))
noncomputable def Le_still_of_4 : Env → R (BV × Env) :=
  (mCall M_cut (mA1 (mN 8) mA0))
noncomputable def B_still_of : Env → R Fl :=
  (mSeq (mSet 2 (mB (two fSub) (mA1 (mB fLen (mA1 (mN 0) mA0)) (mA1 (mK (.int 1)) mA0))))
  (mSeq (mSet 3 (mLst mA0))
  (mSeq (mFor (mEn (mA1 (mCall M_powers_left (mA1 (mN 0) (mA1 (mN 1) mA0))) mA0)) (gT 2 (gs1 (gN 4) (gs1 (gN 5) gs0))) Fb_still_of_1)
  (mSeq (mSet 6 (mLc (mR1 (mA1 (mN 2) mA0)) (gN 7) mYes Le_still_of_2 [7]))
  (mRet (mLc (mIs (mCall M_idle_of (mA1 (mN 6) (mA1 (mN 2) (mA1 (mN 1) mA0))))) (gN 8) mYes Le_still_of_4 [8]))))))
noncomputable def M_still_of : List D → R Nw := fin 2 B_still_of 8
noncomputable def Le_stands_whole_1 : Env → R (BV × Env) :=
  (mB (two fEq) (mA1 (mCall M_worth_at (mA1 (mN 0) (mA1 (mN 2) (mA1 (mN 1) mA0)))) (mA1 (mK (.int 0)) mA0)))
noncomputable def B_stands_whole : Env → R Fl :=
  (mSeq (mIf (mT (mB (two fEq) (mA1 (mB fLen (mA1 (mN 0) mA0)) (mA1 (mK (.int 2)) mA0)))) (mRet (mK (.bl true))) mNx)
  (mSeq (mIf (mT (mB fAnyT (mA1 (mLc (mR1 (mA1 (mN 1) mA0)) (gN 2) mYes Le_stands_whole_1 [2]) mA0))) (mRet (mK (.bl false))) mNx)
  (mSeq (mIf (mT (mB (two fNe) (mA1 (mB (two fIx) (mA1 (mCall M_shared (mA1 (mN 0) (mA1 (mCall M_sloped (mA1 (mN 0) (mA1 (mN 1) mA0))) (mA1 (mN 1) mA0)))) (mA1 (mK (.int 0)) mA0))) (mA1 (mTup (mA1 (mK (.int 1)) mA0)) mA0)))) (mRet (mK (.bl false))) mNx)
  (mRet (mB (two fEq) (mA1 (mB fLen (mA1 (mCall M_still_of (mA1 (mN 0) (mA1 (mN 1) mA0))) mA0)) (mA1 (mK (.int 1)) mA0)))))))
noncomputable def M_stands_whole : List D → R Nw := fin 2 B_stands_whole 1
end Mn
end
section
namespace Mn
open PySem Rg
noncomputable def Wc_next_digits_1 : Env → R (Bool × Env) :=
  (mT (mB (two fEq) (mA1 (mB (two fIx) (mA1 (mN 2) (mA1 (mN 3) mA0))) (mA1 (mB (two fSub) (mA1 (mN 1) (mA1 (mK (.int 1)) mA0))) mA0))))
noncomputable def Wb_next_digits_1 : Env → R Fl :=
  (mSeq (mSetIx 2 (mN 3) (mK (.int 0)))
  (mAug 3 fSub (mK (.int 1))))
noncomputable def B_next_digits : Env → R Fl :=
  (mSeq (mSet 2 (mB fList (mA1 (mN 0) mA0)))
  (mSeq (mSet 3 (mB (two fSub) (mA1 (mB fLen (mA1 (mN 2) mA0)) (mA1 (mK (.int 1)) mA0))))
  (mSeq (mWh Wc_next_digits_1 Wb_next_digits_1 FUEL)
  (mSeq (mAugIx 2 fAdd (mN 3) (mK (.int 1)))
  (mRet (mN 2))))))
noncomputable def M_next_digits : List D → R Nw := fin 2 B_next_digits 2
noncomputable def Wc_least_rule_1 : Env → R (Bool × Env) :=
  (mNot (mT (mCall M_stands_whole (mA1 (mB (two fAdd) (mA1 (mB fTuple (mA1 (mN 2) mA0)) (mA1 (mTup (mA1 (mK (.int 1)) mA0)) mA0))) (mA1 (mN 1) mA0)))))
noncomputable def Wb_least_rule_1 : Env → R Fl :=
  (mSet 2 (mCall M_next_digits (mA1 (mN 2) (mA1 (mN 1) mA0))))
noncomputable def B_least_rule : Env → R Fl :=
  (mSeq (mIf (mT (mB (two fEq) (mA1 (mN 0) (mA1 (mK (.int 1)) mA0)))) (mRet (mK (.tup (k_PLAIN_X.map D.int)))) mNx)
  (mSeq (mSet 2 (mB (two fAdd) (mA1 (mLst (mA1 (mK (.int 1)) mA0)) (mA1 (mB (two fMul) (mA1 (mLst (mA1 (mK (.int 0)) mA0)) (mA1 (mB (two fSub) (mA1 (mN 0) (mA1 (mK (.int 1)) mA0))) mA0))) mA0))))
  (mSeq (mWh Wc_least_rule_1 Wb_least_rule_1 FUEL)
  (mRet (mB (two fAdd) (mA1 (mB fTuple (mA1 (mN 2) mA0)) (mA1 (mTup (mA1 (mK (.int 1)) mA0)) mA0)))))))
noncomputable def M_least_rule : List D → R Nw := fin 2 B_least_rule 1
end Mn
end
section
namespace Mn
open PySem Rg
noncomputable def Le_Field_has_1 : Env → R (BV × Env) :=
  (mCall M_is_rest (mA1 (mN 2) (mA1 (mB (fFld "Field" "base") (mA1 (mN 0) mA0)) mA0)))
noncomputable def B_Field_has : Env → R Fl :=
  (mRet (mAndV (mB (two fEq) (mA1 (mB fLen (mA1 (mN 1) mA0)) (mA1 (mB (fFld "Field" "wide") (mA1 (mN 0) mA0)) mA0))) (mB fAll (mA1 (mLc (mIs (mN 1)) (gN 2) mYes Le_Field_has_1 [2]) mA0))))
noncomputable def M_Field_has : List D → R Nw := fin 2 B_Field_has 1
noncomputable def Le_Field_need_1 : Env → R (BV × Env) :=
  (mMth "Field" "has" M_Field_has (mN 0) (mA1 (mN 2) mA0))
noncomputable def B_Field_need : Env → R Fl :=
  (mIf (mNot (mT (mB fAll (mA1 (mLc (mIs (mN 1)) (gN 2) mYes Le_Field_need_1 [2]) mA0)))) (mRaise "BadNumber" [] mA0) mNx)
noncomputable def M_Field_need : List D → R Nw := fin 2 B_Field_need 1
noncomputable def Le_Field_added_1 : Env → R (BV × Env) :=
  (mB (two fMod) (mA1 (mB (two fAdd) (mA1 (mN 4) (mA1 (mB (two fMul) (mA1 (mN 3) (mA1 (mN 5) mA0))) mA0))) (mA1 (mB (fFld "Field" "base") (mA1 (mN 0) mA0)) mA0)))
noncomputable def B_Field_added : Env → R Fl :=
  (mRet (mB fTuple (mA1 (mLc (mZa (mA1 (mN 1) (mA1 (mN 2) mA0))) (gT 2 (gs1 (gN 4) (gs1 (gN 5) gs0))) mYes Le_Field_added_1 [4, 5]) mA0)))
noncomputable def M_Field_added : List D → R Nw := fin 4 B_Field_added 2
noncomputable def Fb_Field_product_2 : Env → R Fl :=
  (mAugIx 3 fAdd (mB (two fAdd) (mA1 (mN 4) (mA1 (mN 6) mA0))) (mB (two fMul) (mA1 (mN 5) (mA1 (mN 7) mA0))))
noncomputable def Fb_Field_product_1 : Env → R Fl :=
  (mIf (mT (mB (two fNe) (mA1 (mN 5) (mA1 (mK (.int 0)) mA0)))) (mFor (mEn (mA1 (mN 2) mA0)) (gT 2 (gs1 (gN 6) (gs1 (gN 7) gs0))) Fb_Field_product_2) mNx)
noncomputable def Le_Field_product_4 : Env → R (BV × Env) :=
  (mB (two fAdd) (mA1 (mN 12) (mA1 (mB (two fMul) (mA1 (mN 9) (mA1 (mN 13) mA0))) mA0)))
noncomputable def Fb_Field_product_3 : Env → R Fl :=
  (mIf (mT (mB (two fNe) (mA1 (mN 9) (mA1 (mK (.int 0)) mA0)))) (mSet 8 (mLc (mZb (mA1 (mN 8) (mA1 (mN 10) mA0))) (gT 2 (gs1 (gN 12) (gs1 (gN 13) gs0))) mYes Le_Field_product_4 [12, 13])) mNx)
noncomputable def Le_Field_product_5 : Env → R (BV × Env) :=
  (mB (two fMod) (mA1 (mN 11) (mA1 (mB (fFld "Field" "base") (mA1 (mN 0) mA0)) mA0)))
noncomputable def B_Field_product : Env → R Fl :=
  (mSeq (mSet 3 (mB (two fMul) (mA1 (mLst (mA1 (mK (.int 0)) mA0)) (mA1 (mB (two fMul) (mA1 (mK (.int 2)) (mA1 (mB (fFld "Field" "wide") (mA1 (mN 0) mA0)) mA0))) mA0))))
  (mSeq (mFor (mEn (mA1 (mN 1) mA0)) (gT 2 (gs1 (gN 4) (gs1 (gN 5) gs0))) Fb_Field_product_1)
  (mSeq (mSet 8 (mB fSlH (mA1 (mN 3) (mA1 (mB (fFld "Field" "wide") (mA1 (mN 0) mA0)) mA0))))
  (mSeq (mFor (mZb (mA1 (mB fSlL (mA1 (mN 3) (mA1 (mB (fFld "Field" "wide") (mA1 (mN 0) mA0)) mA0))) (mA1 (mB (fFld "Field" "folds") (mA1 (mN 0) mA0)) mA0))) (gT 2 (gs1 (gN 9) (gs1 (gN 10) gs0))) Fb_Field_product_3)
  (mRet (mB fTuple (mA1 (mLc (mIs (mN 8)) (gN 11) mYes Le_Field_product_5 [11]) mA0)))))))
noncomputable def M_Field_product : List D → R Nw := fin 3 B_Field_product 11
noncomputable def B_Field_padded : Env → R Fl :=
  (mRet (mB fTuple (mA1 (mCall M_widened (mA1 (mN 1) (mA1 (mB (fFld "Field" "wide") (mA1 (mN 0) mA0)) mA0))) mA0)))
noncomputable def M_Field_padded : List D → R Nw := fin 2 B_Field_padded 0
noncomputable def Le_Field___init___1 : Env → R (BV × Env) :=
  (mSmt "Field" "padded" M_Field_padded (mA1 (mCall M_left_by (mA1 (mB (two fAdd) (mA1 (mB (two fMulT) (mA1 (mTup (mA1 (mK (.int 0)) mA0)) (mA1 (mN 4) mA0))) (mA1 (mTup (mA1 (mK (.int 1)) mA0)) mA0))) (mA1 (mN 1) (mA1 (mN 2) mA0)))) mA0))
noncomputable def Wc_Field___init___2 : Env → R (Bool × Env) :=
  (mT (mB (two fLt) (mA1 (mSfB "Field" "swings" fLen []) (mA1 (mSf "Field" "wide") mA0))))
noncomputable def Wb_Field___init___2 : Env → R Fl :=
  (mDrop (mSfApp "Field" "swings" (mSmt "Field" "padded" M_Field_padded (mA1 (mCall M_left_by (mA1 (mCall M_multiplied (mA1 (mCall M_cut (mA1 (mSfB "Field" "swings" (two fIx) [.int (-1)]) mA0)) (mA1 (mN 3) (mA1 (mN 2) mA0)))) (mA1 (mN 1) (mA1 (mN 2) mA0)))) mA0))))
noncomputable def B_Field___init__ : Env → R Fl :=
  (mSeq (mDrop (mCall M_need_polys (mA1 (mTup (mA1 (mN 1) mA0)) (mA1 (mN 2) mA0))))
  (mSeq (mIf (mOr (mNot (mT (mCh (fun i j => decide (i ≤ j)) (fun i j => decide (i ≤ j)) (mK (.int 2)) (mB fLen (mA1 (mN 1) mA0)) (mB (two fAdd) (mA1 (mK (.int 12)) (mA1 (mK (.int 1)) mA0)))))) (mT (mB (two fNe) (mA1 (mB (two fIx) (mA1 (mN 1) (mA1 (mNeg (mK (.int 1))) mA0))) (mA1 (mK (.int 1)) mA0))))) (mRaise "BadRule" [] mA0) mNx)
  (mSeq (mIf (mNot (mT (mCall M_stands_whole (mA1 (mN 1) (mA1 (mN 2) mA0))))) mBad mNx)
  (mSeq (mSfSet "Field" "ruling" (mN 1))
  (mSeq (mSfSet "Field" "base" (mN 2))
  (mSeq (mSfSet "Field" "wide" (mB (two fSub) (mA1 (mB fLen (mA1 (mN 1) mA0)) (mA1 (mK (.int 1)) mA0))))
  (mSeq (mSfSet "Field" "folds" (mLc (mR2 (mA1 (mSf "Field" "wide") (mA1 (mB (two fMul) (mA1 (mK (.int 2)) (mA1 (mSf "Field" "wide") mA0))) mA0))) (gN 4) mYes Le_Field___init___1 [4]))
  (mSeq (mSet 3 (mCall M_left_raised (mA1 (mTup (mA1 (mK (.int 0)) (mA1 (mK (.int 1)) mA0))) (mA1 (mN 2) (mA1 (mN 1) (mA1 (mN 2) mA0))))))
  (mSeq (mSfOwn "Field" "swings" (mLst (mA1 (mSmt "Field" "padded" M_Field_padded (mA1 (mTup (mA1 (mK (.int 1)) mA0)) mA0)) mA0)))
  (mWh Wc_Field___init___2 Wb_Field___init___2 FUEL))))))))))
noncomputable def M_Field___init__ : List D → R D := finN "Field" 2 B_Field___init__ 2
end Mn
end
section
namespace Mn
open PySem Rg
noncomputable def Fb_Field_swung_2 : Env → R Fl :=
  (mSet 4 (mMth "Field" "added" M_Field_added (mN 0) (mA1 (mN 4) (mA1 (mN 6) (mA1 (mN 5) mA0)))))
noncomputable def Fb_Field_swung_1 : Env → R Fl :=
  (mSeq (mSet 4 (mB (two fMulT) (mA1 (mTup (mA1 (mK (.int 0)) mA0)) (mA1 (mB (fFld "Field" "wide") (mA1 (mN 0) mA0)) mA0))))
  (mSeq (mFor (mZb (mA1 (mN 1) (mA1 (mB (fFld "Field" "swings") (mA1 (mN 0) mA0)) mA0))) (gT 2 (gs1 (gN 5) (gs1 (gN 6) gs0))) Fb_Field_swung_2)
  (mSet 1 (mN 4))))
noncomputable def B_Field_swung : Env → R Fl :=
  (mSeq (mFor (mR1 (mA1 (mB (two fMod) (mA1 (mN 2) (mA1 (mB (fFld "Field" "wide") (mA1 (mN 0) mA0)) mA0))) mA0)) (gN 3) Fb_Field_swung_1)
  (mRet (mN 1)))
noncomputable def M_Field_swung : List D → R Nw := fin 3 B_Field_swung 4
end Mn
end
section
namespace Mn
open PySem Rg
noncomputable def B_Field_over : Env → R Fl :=
  (mRet (mMth "Field" "padded" M_Field_padded (mN 0) (mA1 (mB (two fIx) (mA1 (mCall M_shared (mA1 (mCall M_cut (mA1 (mN 1) mA0)) (mA1 (mB (fFld "Field" "ruling") (mA1 (mN 0) mA0)) (mA1 (mB (fFld "Field" "base") (mA1 (mN 0) mA0)) mA0)))) (mA1 (mK (.int 1)) mA0))) mA0)))
noncomputable def M_Field_over : List D → R Nw := fin 2 B_Field_over 0
end Mn
end
section
namespace Mn
open PySem Rg
noncomputable def B_Field_prime : Env → R Fl :=
  (mRet (mB (fFld "Field" "base") (mA1 (mN 0) mA0)))
noncomputable def M_Field_prime : List D → R Nw := fin 1 B_Field_prime 0
noncomputable def B_Field_plain : Env → R Fl :=
  (mSeq (mIf (mNot (mT (mCall M_is_rest (mA1 (mN 1) (mA1 (mB (fFld "Field" "base") (mA1 (mN 0) mA0)) mA0))))) (mRaise "BadRest" [] mA0) mNx)
  (mRet (mMth "Field" "padded" M_Field_padded (mN 0) (mA1 (mTup (mA1 (mN 1) mA0)) mA0))))
noncomputable def M_Field_plain : List D → R Nw := fin 2 B_Field_plain 0
end Mn
end
section
namespace Mn
open PySem Rg
noncomputable def B_Field___len__ : Env → R Fl :=
  (mRet (mB fLen (mA1 (mB (fFld "Field" "folds") (mA1 (mN 0) mA0)) mA0)))
noncomputable def M_Field___len__ : List D → R Nw := fin 1 B_Field___len__ 0
noncomputable def Le_units_2 : Env → R (BV × Env) :=
  (mB fInt (mA1 (mB (two fEq) (mA1 (mN 2) (mA1 (mN 1) mA0))) mA0))
noncomputable def Le_units_1 : Env → R (BV × Env) :=
  (mB fTuple (mA1 (mLc (mR1 (mA1 (mLen "Field" M_Field___len__ (mA1 (mN 0) mA0)) mA0)) (gN 2) mYes Le_units_2 [2]) mA0))
noncomputable def B_units : Env → R Fl :=
  (mRet (mLc (mR1 (mA1 (mLen "Field" M_Field___len__ (mA1 (mN 0) mA0)) mA0)) (gN 1) mYes Le_units_1 [1]))
noncomputable def M_units : List D → R Nw := fin 1 B_units 2
end Mn
end
section
namespace Mn
open PySem Rg
noncomputable def Wc_trimmed_1 : Env → R (Bool × Env) :=
  (mAnd (mT (mB (two fGt) (mA1 (mN 2) (mA1 (mK (.int 0)) mA0)))) (mNot (mT (mB fAnyT (mA1 (mB (two fIx) (mA1 (mN 1) (mA1 (mB (two fSub) (mA1 (mN 2) (mA1 (mK (.int 1)) mA0))) mA0))) mA0)))))
noncomputable def Wb_trimmed_1 : Env → R Fl :=
  (mAug 2 fSub (mK (.int 1)))
noncomputable def B_trimmed : Env → R Fl :=
  (mSeq (mSet 2 (mB fLen (mA1 (mN 1) mA0)))
  (mSeq (mWh Wc_trimmed_1 Wb_trimmed_1 FUEL)
  (mRet (mB fTuple (mA1 (mB fSlH (mA1 (mN 1) (mA1 (mN 2) mA0))) mA0)))))
noncomputable def M_trimmed : List D → R Nw := fin 2 B_trimmed 1
noncomputable def Fb_over_blended_1 : Env → R Fl :=
  (mSetIx 5 (mN 6) (mMth "Field" "added" M_Field_added (mN 0) (mA1 (mB (two fIx) (mA1 (mN 5) (mA1 (mN 6) mA0))) (mA1 (mMth "Field" "product" M_Field_product (mN 0) (mA1 (mN 7) (mA1 (mN 3) mA0))) (mA1 (mK (.int 1)) mA0)))))
noncomputable def B_over_blended : Env → R Fl :=
  (mSeq (mSet 4 (mB (two fMulT) (mA1 (mTup (mA1 (mK (.int 0)) mA0)) (mA1 (mLen "Field" M_Field___len__ (mA1 (mN 0) mA0)) mA0))))
  (mSeq (mSet 5 (mB (two fAdd) (mA1 (mB fList (mA1 (mN 1) mA0)) (mA1 (mB (two fMul) (mA1 (mLst (mA1 (mN 4) mA0)) (mA1 (mB (two fSub) (mA1 (mB fLen (mA1 (mN 2) mA0)) (mA1 (mB fLen (mA1 (mN 1) mA0)) mA0))) mA0))) mA0))))
  (mSeq (mFor (mEn (mA1 (mN 2) mA0)) (gT 2 (gs1 (gN 6) (gs1 (gN 7) gs0))) Fb_over_blended_1)
  (mRet (mCall M_trimmed (mA1 (mN 0) (mA1 (mN 5) mA0)))))))
noncomputable def M_over_blended : List D → R Nw := fin 4 B_over_blended 4
noncomputable def Fb_over_divided_2 : Env → R Fl :=
  (mSetIx 3 (mB (two fAdd) (mA1 (mN 7) (mA1 (mN 9) mA0))) (mMth "Field" "added" M_Field_added (mN 0) (mA1 (mB (two fIx) (mA1 (mN 3) (mA1 (mB (two fAdd) (mA1 (mN 7) (mA1 (mN 9) mA0))) mA0))) (mA1 (mMth "Field" "product" M_Field_product (mN 0) (mA1 (mN 8) (mA1 (mN 10) mA0))) (mA1 (mB (two fSub) (mA1 (mMth "Field" "prime" M_Field_prime (mN 0) mA0) (mA1 (mK (.int 1)) mA0))) mA0)))))
noncomputable def Fb_over_divided_1 : Env → R Fl :=
  (mSeq (mSet 8 (mMth "Field" "product" M_Field_product (mN 0) (mA1 (mB (two fIx) (mA1 (mN 3) (mA1 (mB (two fSub) (mA1 (mB (two fAdd) (mA1 (mN 7) (mA1 (mN 4) mA0))) (mA1 (mK (.int 1)) mA0))) mA0))) (mA1 (mN 5) mA0))))
  (mSeq (mSetIx 6 (mN 7) (mN 8))
  (mIf (mT (mB fAnyT (mA1 (mN 8) mA0))) (mFor (mEn (mA1 (mN 2) mA0)) (gT 2 (gs1 (gN 9) (gs1 (gN 10) gs0))) Fb_over_divided_2) mNx)))
noncomputable def B_over_divided : Env → R Fl :=
  (mSeq (mSet 3 (mB fList (mA1 (mN 1) mA0)))
  (mSeq (mSet 4 (mB fLen (mA1 (mN 2) mA0)))
  (mSeq (mSet 5 (mMth "Field" "over" M_Field_over (mN 0) (mA1 (mB (two fIx) (mA1 (mN 2) (mA1 (mNeg (mK (.int 1))) mA0))) mA0)))
  (mSeq (mSet 6 (mB (two fMul) (mA1 (mLst (mA1 (mB (two fMulT) (mA1 (mTup (mA1 (mK (.int 0)) mA0)) (mA1 (mLen "Field" M_Field___len__ (mA1 (mN 0) mA0)) mA0))) mA0)) (mA1 (mB fMax (mA1 (mK (.int 0)) (mA1 (mB (two fAdd) (mA1 (mB (two fSub) (mA1 (mB fLen (mA1 (mN 1) mA0)) (mA1 (mN 4) mA0))) (mA1 (mK (.int 1)) mA0))) mA0))) mA0))))
  (mSeq (mFor (mR3 (mA1 (mB (two fSub) (mA1 (mB fLen (mA1 (mN 1) mA0)) (mA1 (mN 4) mA0))) (mA1 (mNeg (mK (.int 1))) (mA1 (mNeg (mK (.int 1))) mA0)))) (gN 7) Fb_over_divided_1)
  (mRet (mTup (mA1 (mCall M_trimmed (mA1 (mN 0) (mA1 (mN 6) mA0))) (mA1 (mCall M_trimmed (mA1 (mN 0) (mA1 (mB fSlH (mA1 (mN 3) (mA1 (mB (two fSub) (mA1 (mN 4) (mA1 (mK (.int 1)) mA0))) mA0))) mA0))) mA0)))))))))
noncomputable def M_over_divided : List D → R Nw := fin 3 B_over_divided 8
noncomputable def Wc_over_shared_1 : Env → R (Bool × Env) :=
  (mT (mB (two fNe) (mA1 (mN 2) (mA1 (mTup mA0) mA0))))
noncomputable def Wb_over_shared_1 : Env → R Fl :=
  (mPar 1 2 (mA1 (mN 2) (mA1 (mB (two fIx) (mA1 (mCall M_over_divided (mA1 (mN 0) (mA1 (mN 1) (mA1 (mN 2) mA0)))) (mA1 (mK (.int 1)) mA0))) mA0)))
noncomputable def Le_over_shared_2 : Env → R (BV × Env) :=
  (mMth "Field" "product" M_Field_product (mN 0) (mA1 (mN 4) (mA1 (mN 3) mA0)))
noncomputable def B_over_shared : Env → R Fl :=
  (mSeq (mWh Wc_over_shared_1 Wb_over_shared_1 FUEL)
  (mSeq (mIf (mT (mB (two fEq) (mA1 (mN 1) (mA1 (mTup mA0) mA0)))) (mRet (mN 1)) mNx)
  (mSeq (mSet 3 (mMth "Field" "over" M_Field_over (mN 0) (mA1 (mB (two fIx) (mA1 (mN 1) (mA1 (mNeg (mK (.int 1))) mA0))) mA0)))
  (mRet (mB fTuple (mA1 (mLc (mIs (mN 1)) (gN 4) mYes Le_over_shared_2 [4]) mA0))))))
noncomputable def M_over_shared : List D → R Nw := fin 3 B_over_shared 2
noncomputable def Fb_over_worth_1 : Env → R Fl :=
  (mSet 3 (mMth "Field" "added" M_Field_added (mN 0) (mA1 (mMth "Field" "product" M_Field_product (mN 0) (mA1 (mN 3) (mA1 (mN 2) mA0))) (mA1 (mN 4) (mA1 (mK (.int 1)) mA0)))))
noncomputable def B_over_worth : Env → R Fl :=
  (mSeq (mSet 3 (mB (two fMulT) (mA1 (mTup (mA1 (mK (.int 0)) mA0)) (mA1 (mLen "Field" M_Field___len__ (mA1 (mN 0) mA0)) mA0))))
  (mSeq (mFor (mIs (mB fRev (mA1 (mN 1) mA0))) (gN 4) Fb_over_worth_1)
  (mRet (mN 3))))
noncomputable def M_over_worth : List D → R Nw := fin 3 B_over_worth 2
end Mn
end
section
namespace Mn
open PySem Rg
noncomputable def Le_rests_worth_1 : Env → R (BV × Env) :=
  (mMth "Field" "padded" M_Field_padded (mN 0) (mA1 (mTup (mA1 (mN 3) mA0)) mA0))
noncomputable def B_rests_worth : Env → R Fl :=
  (mRet (mCall M_over_worth (mA1 (mN 0) (mA1 (mLc (mIs (mN 1)) (gN 3) mYes Le_rests_worth_1 [3]) (mA1 (mN 2) mA0)))))
noncomputable def M_rests_worth : List D → R Nw := fin 3 B_rests_worth 1
noncomputable def Wc_turns_of_1 : Env → R (Bool × Env) :=
  (mT (mB (two fLt) (mA1 (mB fLen (mA1 (mN 2) mA0)) (mA1 (mB (two fSub) (mA1 (mB fLen (mA1 (mN 0) mA0)) (mA1 (mK (.int 1)) mA0))) mA0))))
noncomputable def Wb_turns_of_1 : Env → R Fl :=
  (mDrop (mMe 2 fApp (mA1 (mCall M_put_through (mA1 (mB (two fIx) (mA1 (mN 2) (mA1 (mNeg (mK (.int 1))) mA0))) (mA1 (mB (two fIx) (mA1 (mN 2) (mA1 (mK (.int 0)) mA0))) (mA1 (mN 0) (mA1 (mN 1) mA0))))) mA0)))
noncomputable def B_turns_of : Env → R Fl :=
  (mSeq (mSet 2 (mLst (mA1 (mCall M_left_raised (mA1 (mK (.tup (k_PLAIN_X.map D.int))) (mA1 (mN 1) (mA1 (mN 0) (mA1 (mN 1) mA0))))) mA0)))
  (mSeq (mWh Wc_turns_of_1 Wb_turns_of_1 FUEL)
  (mRet (mN 2))))
noncomputable def M_turns_of : List D → R Nw := fin 2 B_turns_of 1
noncomputable def Le_lesser_1 : Env → R (BV × Env) :=
  (mMth "Field" "added" M_Field_added (mN 0) (mA1 (mMth "Field" "swung" M_Field_swung (mN 0) (mA1 (mN 4) (mA1 (mN 1) mA0))) (mA1 (mN 4) (mA1 (mB (two fSub) (mA1 (mMth "Field" "prime" M_Field_prime (mN 0) mA0) (mA1 (mK (.int 1)) mA0))) mA0))))
noncomputable def Le_lesser_3 : Env → R (BV × Env) :=
  (mB (two fIx) (mA1 (mN 6) (mA1 (mN 5) mA0)))
noncomputable def Le_lesser_2 : Env → R (BV × Env) :=
  (mB fTuple (mA1 (mLc (mIs (mN 2)) (gN 6) mYes Le_lesser_3 [6]) mA0))
noncomputable def B_lesser : Env → R Fl :=
  (mSeq (mSet 2 (mLc (mIs (mCall M_units (mA1 (mN 0) mA0))) (gN 4) mYes Le_lesser_1 [4]))
  (mSeq (mSet 3 (mLc (mR1 (mA1 (mLen "Field" M_Field___len__ (mA1 (mN 0) mA0)) mA0)) (gN 5) mYes Le_lesser_2 [5]))
  (mRet (mCall M_idle_of (mA1 (mN 3) (mA1 (mLen "Field" M_Field___len__ (mA1 (mN 0) mA0)) (mA1 (mMth "Field" "prime" M_Field_prime (mN 0) mA0) mA0)))))))
noncomputable def M_lesser : List D → R Nw := fin 2 B_lesser 5
noncomputable def Fb_spun_2 : Env → R Fl :=
  (mSetIx 3 (mN 7) (mMth "Field" "added" M_Field_added (mN 0) (mA1 (mB (two fIx) (mA1 (mN 3) (mA1 (mN 7) mA0))) (mA1 (mN 6) (mA1 (mN 8) mA0)))))
noncomputable def Fb_spun_1 : Env → R Fl :=
  (mSeq (mSet 6 (mMth "Field" "swung" M_Field_swung (mN 0) (mA1 (mN 1) (mA1 (mN 4) mA0))))
  (mFor (mEn (mA1 (mN 5) mA0)) (gT 2 (gs1 (gN 7) (gs1 (gN 8) gs0))) Fb_spun_2))
noncomputable def B_spun : Env → R Fl :=
  (mSeq (mSet 3 (mB (two fMul) (mA1 (mLst (mA1 (mB (two fMulT) (mA1 (mTup (mA1 (mK (.int 0)) mA0)) (mA1 (mLen "Field" M_Field___len__ (mA1 (mN 0) mA0)) mA0))) mA0)) (mA1 (mB fLen (mA1 (mN 2) mA0)) mA0))))
  (mSeq (mFor (mEn (mA1 (mN 2) mA0)) (gT 2 (gs1 (gN 4) (gs1 (gN 5) gs0))) Fb_spun_1)
  (mRet (mCall M_trimmed (mA1 (mN 0) (mA1 (mN 3) mA0))))))
noncomputable def M_spun : List D → R Nw := fin 3 B_spun 6
noncomputable def Fb_narrowed_1 : Env → R Fl :=
  (mSeq (mSet 5 (mCall M_over_shared (mA1 (mN 0) (mA1 (mN 1) (mA1 (mCall M_over_blended (mA1 (mN 0) (mA1 (mN 3) (mA1 (mTup (mA1 (mMth "Field" "padded" M_Field_padded (mN 0) (mA1 (mTup (mA1 (mK (.int 1)) mA0)) mA0)) mA0)) (mA1 (mMth "Field" "padded" M_Field_padded (mN 0) (mA1 (mTup (mA1 (mIfE (mT (mB (two fGt) (mA1 (mN 4) (mA1 (mK (.int 0)) mA0)))) (mB (two fSub) (mA1 (mMth "Field" "prime" M_Field_prime (mN 0) mA0) (mA1 (mN 4) mA0))) (mK (.int 0))) mA0)) mA0)) mA0))))) mA0)))))
  (mIf (mT (mCh (fun i j => decide (i < j)) (fun i j => decide (i < j)) (mK (.int 1)) (mB fLen (mA1 (mN 5) mA0)) (mB fLen (mA1 (mN 1) mA0)))) (mRet (mN 5)) mNx))
noncomputable def B_narrowed : Env → R Fl :=
  (mSeq (mSet 3 (mB (two fIx) (mA1 (mCall M_over_divided (mA1 (mN 0) (mA1 (mN 2) (mA1 (mN 1) mA0)))) (mA1 (mK (.int 1)) mA0))))
  (mSeq (mIf (mT (mB (two fLt) (mA1 (mB fLen (mA1 (mN 3) mA0)) (mA1 (mK (.int 2)) mA0)))) (mRet (mN 1)) mNx)
  (mSeq (mFor (mR1 (mA1 (mMth "Field" "prime" M_Field_prime (mN 0) mA0) mA0)) (gN 4) Fb_narrowed_1)
  (mRet (mN 1)))))
noncomputable def M_narrowed : List D → R Nw := fin 3 B_narrowed 3
noncomputable def Le_some_root_1 : Env → R (BV × Env) :=
  (mMth "Field" "padded" M_Field_padded (mN 0) (mA1 (mTup (mA1 (mN 6) mA0)) mA0))
noncomputable def Fb_some_root_2 : Env → R Fl :=
  (mIf (mT (mB (two fGt) (mA1 (mB fLen (mA1 (mN 3) mA0)) (mA1 (mK (.int 2)) mA0)))) (mSet 3 (mCall M_narrowed (mA1 (mN 0) (mA1 (mN 3) (mA1 (mCall M_spun (mA1 (mN 0) (mA1 (mN 5) (mA1 (mN 4) mA0)))) mA0))))) mNx)
noncomputable def B_some_root : Env → R Fl :=
  (mSeq (mSet 2 (mMth "Field" "prime" M_Field_prime (mN 0) mA0))
  (mSeq (mSet 3 (mB fTuple (mA1 (mLc (mIs (mN 1)) (gN 6) mYes Le_some_root_1 [6]) mA0)))
  (mSeq (mSet 4 (mB (two fAdd) (mA1 (mLst (mA1 (mCall M_left_by (mA1 (mK (.tup (k_PLAIN_X.map D.int))) (mA1 (mN 1) (mA1 (mN 2) mA0)))) mA0)) (mA1 (mB fSlH (mA1 (mCall M_turns_of (mA1 (mN 1) (mA1 (mN 2) mA0))) (mA1 (mB (two fSub) (mA1 (mB fLen (mA1 (mN 1) mA0)) (mA1 (mK (.int 2)) mA0))) mA0))) mA0))))
  (mSeq (mFor (mIs (mCall M_lesser (mA1 (mN 0) (mA1 (mB (two fSub) (mA1 (mB fLen (mA1 (mN 1) mA0)) (mA1 (mK (.int 1)) mA0))) mA0)))) (gN 5) Fb_some_root_2)
  (mRet (mMth "Field" "added" M_Field_added (mN 0) (mA1 (mB (two fMulT) (mA1 (mTup (mA1 (mK (.int 0)) mA0)) (mA1 (mLen "Field" M_Field___len__ (mA1 (mN 0) mA0)) mA0))) (mA1 (mB (two fIx) (mA1 (mN 3) (mA1 (mK (.int 0)) mA0))) (mA1 (mB (two fSub) (mA1 (mN 2) (mA1 (mK (.int 1)) mA0))) mA0)))))))))
noncomputable def M_some_root : List D → R Nw := fin 2 B_some_root 5
noncomputable def Le_all_roots_1 : Env → R (BV × Env) :=
  (mMth "Field" "swung" M_Field_swung (mN 0) (mA1 (mN 2) (mA1 (mN 3) mA0)))
noncomputable def B_all_roots : Env → R Fl :=
  (mSeq (mSet 2 (mCall M_some_root (mA1 (mN 0) (mA1 (mN 1) mA0))))
  (mRet (mB fSrtG (mA1 (mLc (mR1 (mA1 (mB (two fSub) (mA1 (mB fLen (mA1 (mN 1) mA0)) (mA1 (mK (.int 1)) mA0))) mA0)) (gN 3) mYes Le_all_roots_1 [3]) mA0))))
noncomputable def M_all_roots : List D → R Nw := fin 2 B_all_roots 2
noncomputable def B_Field_rule : Env → R Fl :=
  (mRet (mB (fFld "Field" "ruling") (mA1 (mN 0) mA0)))
noncomputable def M_Field_rule : List D → R Nw := fin 1 B_Field_rule 0
noncomputable def Wc_Leading___init___1 : Env → R (Bool × Env) :=
  (mT (mB (two fLt) (mA1 (mSfB "Leading" "table" fLen []) (mA1 (mLen "Field" M_Field___len__ (mA1 (mN 1) mA0)) mA0))))
noncomputable def Wb_Leading___init___1 : Env → R Fl :=
  (mDrop (mSfApp "Leading" "table" (mMth "Field" "product" M_Field_product (mN 2) (mA1 (mSfB "Leading" "table" (two fIx) [.int (-1)]) (mA1 (mN 3) mA0)))))
noncomputable def B_Leading___init__ : Env → R Fl :=
  (mSeq (mIf (mT (mB (two fNe) (mA1 (mMth "Field" "prime" M_Field_prime (mN 1) mA0) (mA1 (mMth "Field" "prime" M_Field_prime (mN 2) mA0) mA0)))) (mRaise "Unfit" [] mA0) mNx)
  (mSeq (mIf (mT (mB (two fNe) (mA1 (mB (two fMod) (mA1 (mLen "Field" M_Field___len__ (mA1 (mN 2) mA0)) (mA1 (mLen "Field" M_Field___len__ (mA1 (mN 1) mA0)) mA0))) (mA1 (mK (.int 0)) mA0)))) (mRaise "NotWithin" [] mA0) mNx)
  (mSeq (mDrop (mMth "Field" "need" M_Field_need (mN 2) (mA1 (mTup (mA1 (mN 3) mA0)) mA0)))
  (mSeq (mIf (mT (mB fAnyT (mA1 (mCall M_rests_worth (mA1 (mN 2) (mA1 (mMth "Field" "rule" M_Field_rule (mN 1) mA0) (mA1 (mN 3) mA0)))) mA0))) (mRaise "NoLeading" [] mA0) mNx)
  (mSeq (mSfSet "Leading" "lower" (mN 1))
  (mSeq (mSfSet "Leading" "upper" (mN 2))
  (mSeq (mSfSet "Leading" "spot" (mN 3))
  (mSeq (mSfOwn "Leading" "table" (mLst (mA1 (mMth "Field" "plain" M_Field_plain (mN 2) (mA1 (mK (.int 1)) mA0)) mA0)))
  (mWh Wc_Leading___init___1 Wb_Leading___init___1 FUEL)))))))))
noncomputable def M_Leading___init__ : List D → R D := finN "Leading" 3 B_Leading___init__ 0
end Mn
end
namespace Rg
open PySem L2
def mAp (ma mk : Env → R (List BV × Env)) : Env → R (List BV × Env) := fun Γ => (ma Γ).bind fun y => (mk y.2).bind fun z => .ok (y.1 ++ z.1, z.2)
def mMk (M : List D → R D) (ma : Env → R (List BV × Env)) : Env → R (BV × Env) := fun Γ => (ma Γ).bind fun y => match rsA y.2 y.1 with
  | none => .bad
  | some ds => if allV y.1 = true then (match M ds with
    | .ok d => .ok (.v d, y.2)
    | .exc c fs => .exc c fs
    | .bad => .bad) else .bad
def gone (is : List Nat) (Γ : Env) : Env := is.foldl (fun Γ i => Γ.set i .no) Γ
def towN : List Str := ["base", "owns", "leads"]
def towD (p : Int) : D := .ins "Tower" towN [.int p, .opq, .opq]
inductive TK where
  | o (i : Int) | l (i j : Int)
def TK.ok : TK → Prop
  | .o i => 0 ≤ i ∧ i < 100
  | .l i j => (0 ≤ i ∧ i < 100) ∧ 0 ≤ j ∧ j < 100
def TK.onO (f : Int → Int → R Nw) (p : Int) : TK → R Nw
  | .o i => f p i
  | .l _ _ => .bad
def TK.onL (f : Int → Int → Int → R Nw) (p : Int) : TK → R Nw
  | .o _ => .bad
  | .l i j => f p i j
open Classical in
noncomputable def mCaG (tq : Int → TK → R Nw) (pick : Env → Option (Int × TK)) : Env → R Fl := fun Γ => match pick Γ with
  | some (p, k) => if k.ok then (match tq p k with
    | .ok (.v d) => .ok (.rt (.v d) Γ)
    | .exc c fs => .exc c fs
    | _ => .bad) else .bad
  | none => .bad
open Classical in
noncomputable def runL (is : List Nat) (mb : Env → R Fl) (me : Env → R (BV × Env)) (Γ : Env) : R Nw := match mb Γ with
  | .ok (.nx Γ1) => (match me Γ1 with
    | .ok (.v d, Γ2) => if gone is Γ2 = Γ then .ok (.v d) else .bad
    | .exc c fs => .exc c fs
    | _ => .bad)
  | .exc c fs => .exc c fs
  | _ => .bad
end Rg
namespace Mn
open PySem Rg
noncomputable def B_Field_least_x : Env → R Fl :=
  (mRet (mMth "Field" "padded" M_Field_padded (mN 0) (mA1 (mCall M_left_by (mA1 (mTup (mA1 (mK (.int 0)) (mA1 (mK (.int 1)) mA0))) (mA1 (mB (fFld "Field" "ruling") (mA1 (mN 0) mA0)) (mA1 (mB (fFld "Field" "base") (mA1 (mN 0) mA0)) mA0)))) mA0)))
noncomputable def M_Field_least_x : List D → R Nw := fin 1 B_Field_least_x 0
noncomputable def B_Leading_image : Env → R Fl :=
  (mRet (mB (fFld "Leading" "spot") (mA1 (mN 0) mA0)))
noncomputable def M_Leading_image : List D → R Nw := fin 1 B_Leading_image 0
noncomputable def ownE : Env → R (BV × Env) :=
  (mMk M_Field___init__ (mAp (mA1 (mCall M_least_rule (mA1 (mN 1) (mA1 (mB (fFld "Tower" "base") (mA1 (mN 0) mA0)) mA0))) mA0) (mA1 (mB (fFld "Tower" "base") (mA1 (mN 0) mA0)) mA0)))
noncomputable def ownF (c : Env → R Fl) : List D → R Nw := fin 2
  (mSeq (mIf (mNot (mT (mCh (fun i j => decide (i ≤ j)) (fun i j => decide (i ≤ j)) (mK (.int 1)) (mN 1) (mK (.int 12))))) (mRaise "BadDegree" [] mA0) mNx)
  c) 0
noncomputable def goesB (MO ML : List D → R Nw) : Env → R Fl :=
  (mIf (mT (mB (two fEq) (mA1 (mB (two fMod) (mA1 (mN 1) (mA1 (mN 4) mA0))) (mA1 (mK (.int 0)) mA0)))) (mSeq (mSet 5 (mMth "Leading" "image" M_Leading_image (mMth "Tower" "lead" ML (mN 0) (mA1 (mN 4) (mA1 (mN 1) mA0))) mA0))
  (mIf (mT (mB (two fNe) (mA1 (mCall M_rests_worth (mA1 (mMth "Tower" "own" MO (mN 0) (mA1 (mN 2) mA0)) (mA1 (mN 5) (mA1 (mN 3) mA0)))) (mA1 (mMth "Leading" "image" M_Leading_image (mMth "Tower" "lead" ML (mN 0) (mA1 (mN 4) (mA1 (mN 2) mA0))) mA0) mA0)))) (mRet (mK (.bl false))) mNx)) mNx)
noncomputable def goesF (MO ML : List D → R Nw) : List D → R Nw := fin 4
  (mSeq (mFor (mR2 (mA1 (mK (.int 2)) (mA1 (mN 1) mA0))) (gN 4) (goesB MO ML))
  (mRet (mK (.bl true)))) 2
noncomputable def leadB (MG : List D → R Nw) : Env → R Fl :=
  (mIf (mT (mB (two fEq) (mA1 (mN 1) (mA1 (mN 2) mA0)))) (mSet 5 (mMth "Field" "least_x" M_Field_least_x (mN 4) mA0)) (mSeq (mSet 6 (mCall M_all_roots (mA1 (mN 4) (mA1 (mMth "Field" "rule" M_Field_rule (mN 3) mA0) mA0))))
  (mSet 5 (mB (two fIx) (mA1 (mLc (mIs (mN 6)) (gN 7) (mT (mMth "Tower" "goes_with" MG (mN 0) (mA1 (mN 1) (mA1 (mN 2) (mA1 (mN 7) mA0))))) (mN 7) [7]) (mA1 (mK (.int 0)) mA0))))))
noncomputable def leadE : Env → R (BV × Env) :=
  (mMk M_Leading___init__ (mAp (mA1 (mN 3) (mA1 (mN 4) (mA1 (mN 5) mA0))) mA0))
noncomputable def leadH (MO : List D → R Nw) : Env → R Fl :=
  (mPar 3 4 (mA1 (mMth "Tower" "own" MO (mN 0) (mA1 (mN 1) mA0)) (mA1 (mMth "Tower" "own" MO (mN 0) (mA1 (mN 2) mA0)) mA0)))
noncomputable def leadI : Env → R Fl :=
  (mIf (mT (mB (two fNe) (mA1 (mB (two fMod) (mA1 (mN 2) (mA1 (mN 1) mA0))) (mA1 (mK (.int 0)) mA0)))) (mRaise "NotWithin" [] mA0) mNx)
noncomputable def leadF (MO : List D → R Nw) (c : Env → R Fl) : List D → R Nw := fin 3
  (mSeq (leadH MO)
  (mSeq leadI
  c)) 5
end Mn
namespace Rg
open PySem L2 Mn
open Classical in
noncomputable def towO : Env → Option (Int × TK) := fun Γ => match Γ with
  | [.v (.ins c ns [.int p, .opq, .opq]), .v (.int i)] => if c = "Tower" ∧ ns = towN then some (p, .o i) else none
  | _ => none
noncomputable def tqO (p i : Int) : R Nw := runL [] mNx ownE [.v (towD p), .v (.int i)]
open Classical in
noncomputable def towL : Env → Option (Int × TK) := fun Γ => match Γ with
  | [.v (.ins c ns [.int p, .opq, .opq]), .v (.int i), .v (.int j), .v a, .v b, .no, .no, .no] => if (c = "Tower" ∧ ns = towN) ∧ tqO p i = .ok (.v a) ∧ tqO p j = .ok (.v b) then some (p, .l i j) else none
  | _ => none
noncomputable def ownT : List D → R Nw := ownF (mCaG (TK.onO tqO) towO)
noncomputable def tbL : Nat → Int → Int → Int → R Nw
  | 0 => fun _ _ _ => .bad
  | n + 1 => fun p i j => if i < n then tbL n p i j else if i = n then (match tqO p i, tqO p j with
    | .ok (.v a), .ok (.v b) => runL [5, 6, 7] (leadB (goesF ownT (leadF ownT (mCaG (TK.onL (tbL n)) towL)))) leadE [.v (towD p), .v (.int i), .v (.int j), .v a, .v b, .no, .no, .no]
    | _, _ => .bad) else .bad
noncomputable def tqL (p i j : Int) : R Nw := tbL 13 p i j
end Rg
namespace Mn
open PySem Rg
end Mn
namespace Rg
open PySem PySem.Spec PyProof.Rows L2
def kyH : List Key → Int
  | [.inl i] => hashInt i
  | ks => reduceHash (Builtin.Tuple.tupleHashOf (ks.map fun k => match k with | .inl i => hashInt i | .inr _ => 0))
def kyU : List (List Key) := (List.range 13).flatMap fun (i : Nat) => [.inl (i : Int)] :: (List.range 13).map fun (j : Nat) => [.inl (i : Int), .inl (j : Int)]
section
variable (P : Program) (w : World)
end
section
variable {P : Program} {w : World} {A : Around} {E : Value → Shared → Prop} {s : Shared} {d : Addr} {o : Obj} {es : Array DictEntry} {ep : Nat} {ks : List (List Key)} {k : List Key} {v : Value}
def KyE (R : List Key → Value → Prop) (ks : List (List Key)) (es : Array DictEntry) : Prop := ks.length = es.size ∧ ks.Nodup ∧ ∀ j (hj : j < es.size) q, ks[j]? = some q → q ∈ kyU ∧ R q es[j].key ∧ es[j].hash = kyH q
variable {R : List Key → Value → Prop}
def KyD (R : List Key → Value → Prop) (h : Heap) (d : Addr) (xs : List (List Key × Value)) : Prop :=
  ∃ o es ep, h.get? d = some o ∧ o.ExactDict ∧ o.data = .dict es ep ∧ KyE R (xs.map (·.1)) es ∧ es.toList.map (·.val) = xs.map (·.2)
theorem KyD.ty {xs : List (List Key × Value)} (h : KyD R s.heap d xs) : s.TypeIs (.ref d) "dict" := by
  obtain ⟨o, _, _, e, c, _⟩ := h
  exact ⟨o, e, c.1⟩
end
def kyB (B : Hp) (k : List Key) (v : Value) : Prop := (∃ i t, k = [.inl i] ∧ v = .int i t) ∨ ∃ i j b, k = [.inl i, .inl j] ∧ v = .ref b ∧ B b = some (.tup (k.map kV))
def KyV (p : List Key × V) (q : List Key × Value) : Prop := p.1 = q.1 ∧ RelV p.2 q.2
def KyP (a : Addr) (B : Hp) (kvs : List (List Key × V)) : Heap → Prop := fun h => kvs.length ≤ sizeLine ∧ (a == sysModules) = false ∧ ∃ xs : List (List Key × Value), Paired KyV kvs xs ∧
  ∃ o es ep, h.get? a = some o ∧ o.ExactDict ∧ o.data = .dict es ep ∧ KyE (kyB B) (xs.map (·.1)) es ∧ es.toList.map (·.val) = xs.map (·.2)
def KyO (a : Addr) (B : Hp) (kvs : List (List Key × V)) : HO := .ext (KyP a B kvs)
theorem kyp_obj {a : Addr} {B : Hp} {kvs : List (List Key × V)} {h : Heap} (x : KyP a B kvs h) : ∃ o es ep, h.get? a = some o ∧ o.data = .dict es ep := by
  obtain ⟨_, _, _, _, o, es, ep, h1, _, h2, _⟩ := x
  exact ⟨o, es, ep, h1, h2⟩
end Rg
namespace Rg
open PySem L2
abbrev Ex := Evl.Ex
theorem Ex.refl (H : Hp) : Ex H H := Evl.Ex.refl H
theorem Ex.trans {H H1 H2 : Hp} (a : Ex H H1) (b : Ex H1 H2) : Ex H H2 := Evl.Ex.trans a b
def LamO (f c : Addr) (b : LamB) (z : List (Str × Addr)) : HO := .ext fun h => ∃ pm ctv, h.get? f = some (PySem.W.kla_obj "<lambda>" b.qual b.params b.body b.scope (cloFrom z b.scope.names []) pm c ctv)
def DTp (a : Addr) (B : Hp) (kvs : List (List Key × V)) : Heap → Prop := fun h => kvs.length ≤ sizeLine ∧ (a == sysModules) = false ∧ ∃ xs : List (List Key × Addr × Value), KT B kvs xs ∧
  ∃ o es ep, h.get? a = some o ∧ o.ExactDict ∧ o.data = .dict es ep ∧ (∀ (P : Program) (w : World), es.toList = xs.map (entryOfKey (tupleKind (mixKind P w)))) ∧ (xs.map (·.1)).Nodup
def DTo (a : Addr) (B : Hp) (kvs : List (List Key × V)) : HO := .ext (DTp a B kvs)
theorem dtp_obj {a : Addr} {B : Hp} {kvs : List (List Key × V)} {h : Heap} (x : DTp a B kvs h) : ∃ o es ep, h.get? a = some o ∧ o.data = .dict es ep := by
  obtain ⟨_, _, _, _, o, es, ep, h1, _, h2, _⟩ := x
  exact ⟨o, es, ep, h1, h2⟩
theorem not_dtp {φ : Heap → Prop} {h : Heap} (hφ : φ h) (hn : ∀ a o es ep, h.get? a = some o → o.data ≠ .dict es ep) : ¬ ((∃ a B kvs, φ = DTp a B kvs) ∨ ∃ a B kvs, φ = KyP a B kvs) := by
  rintro (⟨a, B, kvs, rfl⟩ | ⟨a, B, kvs, rfl⟩)
  · obtain ⟨o, es, ep, h1, h2⟩ := dtp_obj hφ
    exact hn a o es ep h1 h2
  · obtain ⟨o, es, ep, h1, h2⟩ := kyp_obj hφ
    exact hn a o es ep h1 h2
def hAll (o : Obj) (n : Nat) : Heap := { objs := Array.replicate n o }
theorem hAll_at {o : Obj} {n : Nat} (hf : ∀ h : Heap, h.objs = #[o] → h.get? 0 = some o) {a : Addr} {q : Obj} (h : (hAll o n).get? a = some q) : q = o := by
  have z := hf { objs := #[o] } rfl
  unfold Heap.get? at h z
  unfold hAll at h
  by_cases c : a < n
  · simp [c] at h
    simp at z
    rw [z] at h
    exact (Option.some.inj h).symm
  · simp [c] at h
def TkIs (K : PySem.W.Frag) (F : Hp) (ks : List (List Key)) (u : HO) (vs : List V) : Prop := ∃ p B, u = DTo p B (ks.zip vs) ∧ (∀ b xs, B b = some (.tup xs) → SqT K F b xs) ∧ ∀ k ∈ ks, ∃ ns : List Int, k = ns.map Sum.inl
def KxIs (K : PySem.W.Frag) (F : Hp) (ks : List (List Key)) (u : HO) (vs : List V) : Prop := ∃ p B, u = KyO p B (ks.zip vs) ∧ ∀ b xs, B b = some (.tup xs) → SqT K F b xs
theorem KxIs.to {K : PySem.W.Frag} {F F' : Hp} {ks : List (List Key)} {u : HO} {vs : List V} (e : ∀ b xs, SqT K F b xs → SqT K F' b xs) (h : KxIs K F ks u vs) : KxIs K F' ks u vs := by
  obtain ⟨p, B, h1, h2⟩ := h
  exact ⟨p, B, h1, fun b xs q => e b xs (h2 b xs q)⟩
theorem TkIs.to {K : PySem.W.Frag} {F F' : Hp} {ks : List (List Key)} {u : HO} {vs : List V} (e : ∀ b xs, SqT K F b xs → SqT K F' b xs) (h : TkIs K F ks u vs) : TkIs K F' ks u vs := by
  obtain ⟨p, B, h1, h2, h3⟩ := h
  exact ⟨p, B, h1, fun b xs q => e b xs (h2 b xs q), h3⟩
mutual
inductive Rp (K : PySem.W.Frag) (F : Hp) : V → D → Prop
  | non : Rp K F .non .non
  | bl (b : Bool) : Rp K F (.bl b) (.bl b)
  | int (i : Int) : Rp K F (.int i) (.int i)
  | str (x : Str) : Rp K F (.str x) (.str x)
  | tup {a : Addr} {xs : List V} {ds : List D} : SqT K F a xs → RpA K F xs ds → Rp K F (.ref a) (.tup ds)
  | lst {a : Addr} {xs : List V} {ds : List D} : F a = some (.lst xs) → RpA K F xs ds → Rp K F (.ref a) (.lst ds)
  | ty (n : String) : Rp K F (.ty n) (.ty n)
  | fn {f c : Addr} {k : Nat} {b : LamB} {z : List (Str × Addr)} : F f = some (LamO f c b z) → F c = some (LamX.CodeO c b.qual) → Rp K F (.ref f) (.fn k b z)
  | scr {a : Addr} (ns : List Int) : SqL K F a (ns.map V.int) → Rp K F (.ref a) (.scr ns)
  | dct {a : Addr} {o : Obj} {ks : List Key} {vs : List V} {ds : List D} : F a = some (.frz o (.dK (ks.zip vs))) → ks.length = vs.length → RpA K F vs ds → Rp K F (.ref a) (.dct ks ds)
  | dcT {a : Addr} {o : Obj} {u : HO} {ks : List (List Key)} {vs : List V} {ds : List D} : F a = some (.frz o u) → TkIs K F ks u vs → ks.length = vs.length → RpA K F vs ds → Rp K F (.ref a) (.dcT ks ds)
  | ins {a dx : Addr} {c : Str} {ns : List Str} {vs : List V} {ds : List D} : F a = some (.ins (He.ga K c) dx (ns.zip vs)) → ns.length = vs.length → RpA K F vs ds → Rp K F (.ref a) (.ins c ns ds)
  | opq {a : Addr} : Rp K F (.ref a) .opq
  | adr {a : Addr} : Rp K F (.ref a) (.adr a)
inductive RpA (K : PySem.W.Frag) (F : Hp) : List V → List D → Prop
  | nil : RpA K F [] []
  | cons {v : V} {vs : List V} {d : D} {ds : List D} : Rp K F v d → RpA K F vs ds → RpA K F (v :: vs) (d :: ds)
end
section
variable {K : PySem.W.Frag} {F F' : Hp}
mutual
theorem Rp.mono (e : Ex F F') : ∀ {v : V} {d : D}, Rp K F v d → Rp K F' v d
  | _, _, .non => .non
  | _, _, .bl b => .bl b
  | _, _, .int i => .int i
  | _, _, .str x => .str x
  | _, _, .tup h a => .tup (Evl.ex_t e h) (RpA.mono e a)
  | _, _, .lst h a => .lst (e _ _ h) (RpA.mono e a)
  | _, _, .scr ns h => .scr ns (Evl.ex_l e h)
  | _, _, .ty n => .ty n
  | _, _, .fn h h2 => .fn (e _ _ h) (e _ _ h2)
  | _, _, .dct h l a => .dct (e _ _ h) l (RpA.mono e a)
  | _, _, .dcT h q l a => .dcT (e _ _ h) (q.to fun _ _ z => Evl.ex_t e z) l (RpA.mono e a)
  | _, _, .ins h l a => .ins (e _ _ h) l (RpA.mono e a)
  | _, _, .opq => .opq
  | _, _, .adr => .adr
theorem RpA.mono (e : Ex F F') : ∀ {vs : List V} {ds : List D}, RpA K F vs ds → RpA K F' vs ds
  | _, _, .nil => .nil
  | _, _, .cons h a => .cons (Rp.mono e h) (RpA.mono e a)
end
theorem RpA.length : ∀ {vs : List V} {ds : List D}, RpA K F vs ds → vs.length = ds.length
  | _, _, .nil => rfl
  | _, _, .cons _ a => by simp [RpA.length a]
theorem RpA.get : ∀ {vs : List V} {ds : List D} {i : Nat} {d : D}, RpA K F vs ds → ds[i]? = some d → ∃ v, vs[i]? = some v ∧ Rp K F v d
  | _, _, _, _, .nil, e => by simp at e
  | _, _, 0, _, .cons h _, e => by simp at e; subst e; exact ⟨_, rfl, h⟩
  | _, _, i + 1, d, .cons _ a, e => by
    obtain ⟨v, h1, h2⟩ := RpA.get (i := i) a (by simpa using e)
    exact ⟨v, by simpa using h1, h2⟩
theorem RpA.getV : ∀ {vs : List V} {ds : List D} {i : Nat} {v : V}, RpA K F vs ds → vs[i]? = some v → ∃ d, ds[i]? = some d ∧ Rp K F v d
  | _, _, _, _, .nil, e => by simp at e
  | _, _, 0, _, .cons h _, e => by simp at e; subst e; exact ⟨_, rfl, h⟩
  | _, _, i + 1, d, .cons _ a, e => by
    obtain ⟨v, h1, h2⟩ := RpA.getV (i := i) a (by simpa using e)
    exact ⟨v, by simpa using h1, h2⟩
theorem RpA.append : ∀ {vs ws : List V} {ds es : List D}, RpA K F vs ds → RpA K F ws es → RpA K F (vs ++ ws) (ds ++ es)
  | _, _, _, _, .nil, h => h
  | _, _, _, _, .cons h a, b => .cons h (RpA.append a b)
theorem RpA.set {v : V} {d : D} (h : Rp K F v d) : ∀ {vs : List V} {ds : List D} (i : Nat), RpA K F vs ds → RpA K F (vs.set i v) (ds.set i d)
  | _, _, _, .nil => .nil
  | _, _, 0, .cons _ a => .cons h a
  | _, _, i + 1, .cons q a => .cons q (RpA.set h i a)
theorem RpA.take : ∀ {vs : List V} {ds : List D} (n : Nat), RpA K F vs ds → RpA K F (vs.take n) (ds.take n)
  | _, _, 0, _ => by simp; exact .nil
  | _, _, _ + 1, .nil => .nil
  | _, _, n + 1, .cons h a => .cons h (RpA.take n a)
theorem RpA.drop : ∀ {vs : List V} {ds : List D} (n : Nat), RpA K F vs ds → RpA K F (vs.drop n) (ds.drop n)
  | _, _, 0, h => h
  | _, _, _ + 1, .nil => .nil
  | _, _, n + 1, .cons _ a => RpA.drop n a
theorem RpA.reverse : ∀ {vs : List V} {ds : List D}, RpA K F vs ds → RpA K F vs.reverse ds.reverse
  | _, _, .nil => .nil
  | _, _, .cons h a => by simp only [List.reverse_cons]; exact (RpA.reverse a).append (.cons h .nil)
theorem RpA.rep {vs : List V} {ds : List D} (h : RpA K F vs ds) : ∀ n : Nat, RpA K F (List.replicate n vs).flatten (List.replicate n ds).flatten
  | 0 => .nil
  | n + 1 => by simp only [List.replicate_succ, List.flatten_cons]; exact h.append (RpA.rep h n)
theorem RpA.dropLast {vs : List V} {ds : List D} (h : RpA K F vs ds) : RpA K F vs.dropLast ds.dropLast := by
  rw [List.dropLast_eq_take, List.dropLast_eq_take, h.length]; exact h.take _
theorem RpA.ints : ∀ {ns : List Int}, RpA K F (ns.map V.int) (ns.map D.int)
  | [] => .nil
  | n :: ns => .cons (.int n) RpA.ints
theorem RpA.toBls : ∀ {vs : List V} {ns : List Bool}, RpA K F vs (ns.map D.bl) → vs = ns.map V.bl
  | _, [], .nil => rfl
  | _, n :: ns, .cons (.bl _) a => by rw [RpA.toBls a]; rfl
end
def Mk.Is (K : PySem.W.Frag) (F : Hp) : Mk → HO → List V → Prop
  | .k ks, o, vs => o = .dK (ks.zip vs)
  | .t ks, o, vs => TkIs K F ks o vs
  | .x ks, o, vs => KxIs K F ks o vs
  | .r c ns, o, vs => ∃ dx, o = .ins (He.ga K c) dx (ns.zip vs) ∧ twB ((ns.zip vs).map (·.1)) = false
def Mk.n : Mk → Nat
  | .k ks => ks.length
  | .t ks => ks.length
  | .x ks => ks.length
  | .r _ ns => ns.length
open Classical in
noncomputable def muO : HO → Bool
  | .lst _ => true
  | .dK _ => true
  | .dT _ => true
  | .ins _ _ _ => true
  | .ext φ => decide ((∃ a B kvs, φ = DTp a B kvs) ∨ ∃ a B kvs, φ = KyP a B kvs)
  | _ => false
open Classical in
theorem Mk.Is.mu {K : PySem.W.Frag} {F : Hp} {k : Mk} {o : HO} {vs : List V} (h : k.Is K F o vs) : muO o = true := by
  cases k with
  | k ks => subst h; rfl
  | t ks =>
    obtain ⟨p, B, rfl, _⟩ := h
    exact decide_eq_true (.inl ⟨p, B, _, rfl⟩)
  | x ks =>
    obtain ⟨p, B, rfl, _⟩ := h
    exact decide_eq_true (.inr ⟨p, B, _, rfl⟩)
  | r c ns =>
    obtain ⟨dx, rfl, _⟩ := h
    rfl
theorem Mk.Is.mut {K : PySem.W.Frag} {F : Hp} {k : Mk} {o : HO} {vs : List V} (h : k.Is K F o vs) : Mut (some o) := by
  cases k with
  | k ks => subst h; trivial
  | t ks =>
    obtain ⟨p, B, rfl, _⟩ := h
    trivial
  | x ks =>
    obtain ⟨p, B, rfl, _⟩ := h
    trivial
  | r c ns =>
    obtain ⟨dx, rfl, _⟩ := h
    trivial
theorem Mk.Is.mono {K : PySem.W.Frag} {F F' : Hp} {k : Mk} {o : HO} {vs : List V} (e : Ex F F') (h : k.Is K F o vs) : k.Is K F' o vs := by
  cases k with
  | k ks => exact h
  | t ks => exact TkIs.to (fun _ _ z => Evl.ex_t e z) h
  | x ks => exact KxIs.to (fun _ _ z => Evl.ex_t e z) h
  | r c ns => exact h
theorem Mk.Is.tbl {K : PySem.W.Frag} {F : Hp} {k : Mk} {o : HO} {vs : List V} (h : k.Is K F o vs) : ∀ ps, o ≠ .tbl ps := fun ps q => by
  have := h.mu
  rw [q] at this
  cases this
theorem hAll_get {o : Obj} {n : Nat} {a : Addr} (hf : ∀ h : Heap, h.objs = #[o] → h.get? 0 = some o) (c : a < n) : (hAll o n).get? a = some o := by
  have z := hf { objs := #[o] } rfl
  unfold Heap.get? at z ⊢
  unfold hAll
  simp [c]
  simp at z
  exact z
open Classical in
theorem muO_lam {f c : Addr} {b : LamB} {z : List (Str × Addr)} : muO (LamO f c b z) = false := by
  refine decide_eq_false (not_dtp (h := hAll (PySem.W.kla_obj "<lambda>" b.qual b.params b.body b.scope (cloFrom z b.scope.names []) .none c .none) (f + 1)) ⟨_, _, hAll_get (fun h e => ?_) (Nat.lt_succ_self _)⟩ fun a o es ep h => ?_)
  · unfold Heap.get?; rw [e]; rfl
  · rw [hAll_at (fun h e => by unfold Heap.get?; rw [e]; rfl) h]
    intro q; cases q
open Classical in
theorem muO_code {c : Addr} {q : Str} : muO (LamX.CodeO c q) = false := by
  refine decide_eq_false (not_dtp (h := hAll { cls := .none, data := .fields #[.none, .str q (default : Tok)] } (c + 1)) ⟨_, _, _, hAll_get (fun h e => ?_) (Nat.lt_succ_self _), rfl, rfl⟩ fun a o es ep h => ?_)
  · unfold Heap.get?; rw [e]; rfl
  · rw [hAll_at (fun h e => by unfold Heap.get?; rw [e]; rfl) h]
    intro q; cases q
def ownd : Sl → Bool
  | .o _ => true
  | .m _ _ => true
  | _ => false
theorem gt_set_same {s : Sl} : ∀ {Γ : Env} {i : Nat}, i < Γ.length → gt (Γ.set i s) i = s
  | [], _, h => by simp at h
  | _ :: _, 0, _ => rfl
  | _ :: Γ, i + 1, h => gt_set_same (Γ := Γ) (i := i) (by simpa using h)
theorem gt_set_ne {s : Sl} : ∀ {Γ : Env} {i j : Nat}, j ≠ i → gt (Γ.set i s) j = gt Γ j
  | [], _, _, _ => rfl
  | _ :: _, 0, 0, h => absurd rfl h
  | _ :: _, 0, _ + 1, _ => rfl
  | _ :: _, _ + 1, 0, _ => rfl
  | _ :: Γ, i + 1, j + 1, h => gt_set_ne (Γ := Γ) (fun e => h (by rw [e]))
theorem gt_lt {s : Sl} : ∀ {Γ : Env} {i : Nat}, gt Γ i = s → s ≠ .no → i < Γ.length
  | [], _, h, n => absurd h.symm n
  | _ :: _, 0, _, _ => by simp
  | _ :: Γ, i + 1, h, n => by
    have := gt_lt (Γ := Γ) (i := i) h n
    simpa using this
def tws : HO → Bool
  | .ins _ _ fs => twB (fs.map (·.1))
  | _ => false
def nfO : HO → Bool
  | .tbl _ => false
  | .ins _ _ fs => !twB (fs.map (·.1))
  | _ => true
theorem nfO_nt {o : HO} (h : nfO o = true) : tws o = false := by
  cases o with
  | ins C dx fs => simpa [nfO, tws] using h
  | _ => rfl
theorem nfO_nb {o : HO} (h : nfO o = true) : ∀ ps, o ≠ .tbl ps := fun ps z => by rw [z] at h; cases h
def isTw : HO → Prop
  | .ext φ => (∃ a N, ∀ h : Heap, φ h → ∃ o es ep, h.get? a = some o ∧ o.data = .dict es ep ∧ ep ≤ N) ∧ ∃ h, φ h
  | _ => False
theorem isTw.ext {o : HO} (h : isTw o) : ∃ φ, o = .ext φ := by
  cases o with
  | ext φ => exact ⟨φ, rfl⟩
  | _ => exact h.elim
open Classical in
theorem isTw.mu {o : HO} (h : isTw o) : muO o = false := by
  obtain ⟨φ, rfl⟩ := h.ext
  refine decide_eq_false ?_
  rintro (⟨a', B, kvs, rfl⟩ | ⟨a', B, kvs, rfl⟩)
  · obtain ⟨⟨a, N, hN⟩, h0, x⟩ := h
    obtain ⟨y1, y2, xs, y3, o, es, ep, y4, y5, y6, y7, y8⟩ := x
    obtain ⟨c, di, dt, sl⟩ := o
    dsimp only at y6
    subst y6
    have y : DTp a' B kvs (hAll { cls := c, dict := di, data := .dict es (N + 1), slots := sl } (a' + 1)) :=
      ⟨y1, y2, xs, y3, _, es, N + 1, hAll_get (fun h e => by unfold Heap.get?; rw [e]; rfl) (Nat.lt_succ_self _), y5, rfl, y7, y8⟩
    obtain ⟨o', es', ep', z1, z2, z3⟩ := hN _ y
    rw [hAll_at (fun h e => by unfold Heap.get?; rw [e]; rfl) z1] at z2
    cases z2
    omega
  · obtain ⟨⟨a, N, hN⟩, h0, x⟩ := h
    obtain ⟨y1, y2, xs, y3, o, es, ep, y4, y5, y6, y7, y8⟩ := x
    obtain ⟨c, di, dt, sl⟩ := o
    dsimp only at y6
    subst y6
    have y : KyP a' B kvs (hAll { cls := c, dict := di, data := .dict es (N + 1), slots := sl } (a' + 1)) :=
      ⟨y1, y2, xs, y3, _, es, N + 1, hAll_get (fun h e => by unfold Heap.get?; rw [e]; rfl) (Nat.lt_succ_self _), y5, rfl, y7, y8⟩
    obtain ⟨o', es', ep', z1, z2, z3⟩ := hN _ y
    rw [hAll_at (fun h e => by unfold Heap.get?; rw [e]; rfl) z1] at z2
    cases z2
    omega
theorem isTw.nf {o : HO} (h : isTw o) : nfO o = true := by
  obtain ⟨φ, rfl⟩ := h.ext; rfl
theorem nTw_lam {f c : Addr} {b : LamB} {z : List (Str × Addr)} : ¬ isTw (LamO f c b z) := fun q => by
  obtain ⟨⟨a, N, hN⟩, _⟩ := q
  obtain ⟨o, es, ep, h1, h2, _⟩ := hN (hAll (PySem.W.kla_obj "<lambda>" b.qual b.params b.body b.scope (cloFrom z b.scope.names []) .none c .none) (f + 1)) ⟨_, _, hAll_get (fun h e => by unfold Heap.get?; rw [e]; rfl) (Nat.lt_succ_self _)⟩
  rw [hAll_at (fun h e => by unfold Heap.get?; rw [e]; rfl) h1] at h2
  cases h2
theorem nTw_code {c : Addr} {q : Str} : ¬ isTw (LamX.CodeO c q) := fun z => by
  obtain ⟨⟨a, N, hN⟩, _⟩ := z
  obtain ⟨o, es, ep, h1, h2, _⟩ := hN (hAll { cls := .none, data := .fields #[.none, .str q (default : Tok)] } (c + 1)) ⟨_, _, _, hAll_get (fun h e => by unfold Heap.get?; rw [e]; rfl) (Nat.lt_succ_self _), rfl, rfl⟩
  rw [hAll_at (fun h e => by unfold Heap.get?; rw [e]; rfl) h1] at h2
  cases h2
def DKp (r : Addr) (kvs : List (Key × V)) : Heap → Prop := fun h => kvs.length ≤ sizeLine ∧ (r == sysModules) = false ∧ ∃ vs, KV kvs vs ∧ ∀ (P : Program) (w : World), h.DictOf (mixKind P w) r vs
def TwA (K : PySem.W.Frag) (F H : Hp) (p : Int) (r : Addr) : Prop := ∃ φ kvs, H r = some (.ext φ) ∧ isTw (.ext φ) ∧ (∀ h, φ h → DKp r kvs h) ∧ (∀ q ∈ kvs, ∃ i : Int, q.1 = .inl i ∧ 0 ≤ i ∧ i < 100) ∧ F r = none ∧
  ∀ i v, (Sum.inl i, v) ∈ kvs → ∃ d, tqO p i = .ok (.v d) ∧ Rp K F v d
def TwL (K : PySem.W.Frag) (F H : Hp) (p : Int) (r : Addr) : Prop := ∃ φ B kvs, H r = some (.ext φ) ∧ isTw (.ext φ) ∧ (∀ h, φ h → DTp r B kvs h) ∧ (∀ b xs, B b = some (.tup xs) → SqT K F b xs) ∧ (∀ q ∈ kvs, ∃ i j : Int, q.1 = [.inl i, .inl j] ∧ (0 ≤ i ∧ i < 100) ∧ 0 ≤ j ∧ j < 100) ∧ F r = none ∧
  ∀ i j v, ([Sum.inl i, Sum.inl j], v) ∈ kvs → ∃ d, tqL p i j = .ok (.v d) ∧ Rp K F v d
def TwK (K : PySem.W.Frag) (F H : Hp) (o : HO) : Prop := ∃ C dx p r1 r2, o = .ins C dx [("base", .int p), ("owns", .ref r1), ("leads", .ref r2)] ∧ r1 ≠ r2 ∧ TwA K F H p r1 ∧ TwL K F H p r2
theorem TwK.to {K : PySem.W.Frag} {F F' H H' : Hp} {o : HO} (x : TwK K F H o) (k : ∀ b o, H b = some o → isTw o → H' b = some o) (e : Ex F F') (fr : ∀ b u, H b = some u → isTw u → F b = none → F' b = none) : TwK K F' H' o := by
  obtain ⟨C, dx, p, r1, r2, rfl, hn, ⟨φ, kvs, a1, a2, a3, a4, af, a5⟩, ⟨ψ, B, kws, b1, b2, b3, b4, b5, bf, b6⟩⟩ := x
  refine ⟨C, dx, p, r1, r2, rfl, hn, ⟨φ, kvs, k _ _ a1 a2, a2, a3, a4, fr _ _ a1 a2 af, fun i v q => ?_⟩, ⟨ψ, B, kws, k _ _ b1 b2, b2, b3, fun b xs q => Evl.ex_t e (b4 b xs q), b5, fr _ _ b1 b2 bf, fun i j v q => ?_⟩⟩
  · obtain ⟨d, h1, h2⟩ := a5 i v q; exact ⟨d, h1, h2.mono e⟩
  · obtain ⟨d, h1, h2⟩ := b6 i j v q; exact ⟨d, h1, h2.mono e⟩
def DkOf (F : Hp) (a r : Addr) : Prop := ∃ C dx p r1 r2, F a = some (.ins C dx [("base", .int p), ("owns", .ref r1), ("leads", .ref r2)]) ∧ (r = r1 ∨ r = r2)
structure Tb (K : PySem.W.Frag) (F G H : Hp) : Prop where
  t : LamX.Tabs (tabsOf K) H
  nf : ∀ b ps, F b ≠ some (.tbl ps)
  ng : ∀ b o, G b = some o → muO o = true
  tw : ∀ b o, F b = some o → tws o = true → TwK K F H o
  ti : ∀ a b r, DkOf F a r → DkOf F b r → a = b
theorem Tb.tt {K : PySem.W.Frag} {F G H H' : Hp} (x : Tb K F G H) (k : ∀ b o, H b = some o → muO o = false → H' b = some o) : LamX.Tabs (tabsOf K) H' := fun p hp => by
  obtain ⟨ps, h1, h2, h3⟩ := x.t p hp
  refine ⟨ps, k _ _ h1 rfl, h2, fun pos cv hc => ?_⟩
  obtain ⟨c, e1, e2⟩ := h3 pos cv hc
  exact ⟨c, e1, k _ _ e2 muO_code⟩
theorem Tb.toF {K : PySem.W.Frag} {F G H G' H' : Hp} (x : Tb K F G H) (k : ∀ b o, H b = some o → muO o = false → H' b = some o) (ng : ∀ b o, G' b = some o → muO o = true) : Tb K F G' H' :=
  ⟨x.tt k, x.nf, ng, fun b o q t => (x.tw b o q t).to (fun b o q h => k b o q h.mu) (Ex.refl F) (fun _ _ _ _ z => z), x.ti⟩
theorem Tb.toE {K : PySem.W.Frag} {F G H F' G' H' : Hp} (x : Tb K F G H) (k : ∀ b o, H b = some o → muO o = false → H' b = some o) (e : Ex F F') (nf : ∀ b o, F' b = some o → F b = some o ∨ (nfO o = true ∧ ∀ u, H b = some u → ¬ isTw u)) (ng : ∀ b o, G' b = some o → muO o = true) : Tb K F' G' H' := by
  have td : ∀ a r, DkOf F' a r → DkOf F a r := fun a r h => by
    obtain ⟨C, dx, p, r1, r2, h1, h2⟩ := h
    refine ⟨C, dx, p, r1, r2, (nf a _ h1).elim id fun z => ?_, h2⟩
    have : nfO (.ins C dx [("base", .int p), ("owns", .ref r1), ("leads", .ref r2)]) = false := rfl
    rw [this] at z; cases z.1
  exact ⟨x.tt k, fun b ps q => (nf b _ q).elim (x.nf b ps) (fun z => by cases z.1), ng, fun b o q t => (nf b o q).elim (fun z => (x.tw b o z t).to (fun b o q h => k b o q h.mu) e fun c u q1 q2 q3 => by
    cases y : F' c with
    | none => rfl
    | some w => exact (nf c w y).elim (fun z => by rw [q3] at z; cases z) fun z => absurd q2 (z.2 u q1)) (fun z => by rw [nfO_nt z.1] at t; cases t), fun a b r h1 h2 => x.ti a b r (td a r h1) (td b r h2)⟩
theorem mu_nTw {o : HO} (h : muO o = true) : ¬ isTw o := fun q => by rw [q.mu] at h; cases h
theorem nf_upd {F H : Hp} {p : Addr} {o : HO} (ho : nfO o = true) (hi : ∀ u, H p = some u → ¬ isTw u) : ∀ b u, upd F p o b = some u → F b = some u ∨ (nfO u = true ∧ ∀ w, H b = some w → ¬ isTw w) := fun b u q => by
  by_cases hb : b = p
  · subst hb; rw [upd_same] at q; cases q; exact .inr ⟨ho, hi⟩
  · rw [upd_ne hb] at q; exact .inl q
theorem ng_upd {G : Hp} {p : Addr} {u : HO} (h : ∀ b o, G b = some o → muO o = true) (hu : muO u = true := by rfl) : ∀ b o, upd G p u b = some o → muO o = true := fun b o q => by
  by_cases hb : b = p
  · subst hb; rw [upd_same] at q; cases q; exact hu
  · rw [upd_ne hb] at q; exact h b o q
theorem keep_upd {H : Hp} {p : Addr} {u : HO} (h : H p = none) : ∀ b o, H b = some o → muO o = false → upd H p u b = some o := fun b o q _ => by
  rw [upd_ne fun z => by rw [z, h] at q; cases q]; exact q
theorem keep_mut {H : Hp} {p : Addr} {u w : HO} (h : H p = some w) (hw : muO w = true := by rfl) : ∀ b o, H b = some o → muO o = false → upd H p u b = some o := fun b o q n => by
  rw [upd_ne fun z => by rw [z, h] at q; cases q; rw [hw] at n; cases n]; exact q
structure Wd (K : PySem.W.Frag) (F G H : Hp) : Prop where
  f : Ex F H
  g : Ex G H
  d : ∀ b, F b = none ∨ G b = none
  tb : Tb K F G H
def jn (A B : Hp) : Hp := fun b => match A b with | some o => some o | none => B b
theorem jn_l {A B : Hp} {b : Addr} {o : HO} (h : A b = some o) : jn A B b = some o := by unfold jn; rw [h]
theorem jn_r {A B : Hp} {b : Addr} (h : A b = none) : jn A B b = B b := by unfold jn; rw [h]
theorem jn_none {A B : Hp} {b : Addr} : jn A B b = none ↔ A b = none ∧ B b = none := by
  unfold jn
  cases h : A b <;> simp
theorem ex_jn_l {A B : Hp} : Ex A (jn A B) := fun _ _ h => jn_l h
theorem ex_jn_r' {A B : Hp} (d : ∀ b, A b = none ∨ B b = none) : Ex B (jn A B) := fun b o h => by
  rw [jn_r ((d b).elim id fun q => by rw [h] at q; cases q)]; exact h
theorem ex_jn {A B H : Hp} (a : Ex A H) (b : Ex B H) : Ex (jn A B) H := fun c o h => by
  cases q : A c with
  | none => rw [jn_r q] at h; exact b c o h
  | some u => rw [jn_l q] at h; cases h; exact a c _ q
def OwS (K : PySem.W.Frag) (F : Hp) (o : HO) : Sl → Prop
  | .o xs => ∃ vs, o = .lst vs ∧ RpA K F vs xs
  | .m k ds => ∃ vs, k.Is K F o vs ∧ k.n = vs.length ∧ RpA K F vs ds
  | _ => False
theorem OwS.mono {K : PySem.W.Frag} {F F' : Hp} {o : HO} {s : Sl} (e : Ex F F') (h : OwS K F o s) : OwS K F' o s := by
  cases s with
  | no => exact h
  | v d => exact h
  | o xs => obtain ⟨vs, h1, h2⟩ := h; exact ⟨vs, h1, h2.mono e⟩
  | m k ds => obtain ⟨vs, h1, h2, h3⟩ := h; exact ⟨vs, h1.mono e, h2, h3.mono e⟩
  | i c ns ds w => exact h
theorem OwS.mu {K : PySem.W.Frag} {F : Hp} {o : HO} {s : Sl} (h : OwS K F o s) : muO o = true := by
  cases s with
  | no => exact h.elim
  | v d => exact h.elim
  | o xs => obtain ⟨vs, h1, h2⟩ := h; rw [h1]; rfl
  | m k ds => obtain ⟨vs, h1, h2, h3⟩ := h; exact h1.mu
  | i c ns ds w => exact h.elim
theorem Mk.Is.nf {K : PySem.W.Frag} {F : Hp} {k : Mk} {o : HO} {vs : List V} (h : k.Is K F o vs) : nfO o = true := by
  cases k with
  | k ks => subst h; rfl
  | t ks =>
    obtain ⟨p, B, rfl, _⟩ := h
    rfl
  | x ks =>
    obtain ⟨p, B, rfl, _⟩ := h
    rfl
  | r c ns =>
    obtain ⟨dx, rfl, h⟩ := h
    show (!twB _) = true
    rw [h]; rfl
theorem OwS.nf {K : PySem.W.Frag} {F : Hp} {o : HO} {s : Sl} (h : OwS K F o s) : nfO o = true := by
  cases s with
  | no => exact h.elim
  | v d => exact h.elim
  | o xs => obtain ⟨vs, h1, h2⟩ := h; rw [h1]; rfl
  | m k ds => obtain ⟨vs, h1, h2, h3⟩ := h; exact h1.nf
  | i c ns ds w => exact h.elim
theorem OwS.own {K : PySem.W.Frag} {F : Hp} {o : HO} {s : Sl} (h : OwS K F o s) : ownd s = true := by
  cases s with
  | no => exact h.elim
  | v d => exact h.elim
  | o xs => rfl
  | m k ds => rfl
  | i c ns ds w => exact h.elim
structure RelX (K : PySem.W.Frag) (a0 : Addr) (G : Hp) (Γ : Env) (σ : L2.St) (H F O : Hp) (ad : Nat → Addr) : Prop where
  wd : Wd K F G H
  o : Ex O H
  fo : ∀ b, F b = none ∨ O b = none
  go : ∀ b, G b = none ∨ O b = none
  v : ∀ i d, gt Γ i = .v d → ∃ v, σ[i]? = some (some v) ∧ Rp K F v d
  own : ∀ i, ownd (gt Γ i) = true → σ[i]? = some (some (.ref (ad i))) ∧ ∃ o, O (ad i) = some o ∧ OwS K F o (gt Γ i)
  inj : ∀ i j, ownd (gt Γ i) = true → ownd (gt Γ j) = true → ad i = ad j → i = j
  z : ownd (gt Γ 0) = true → ad 0 = a0
  len : Γ.length = σ.length
  ol : ∀ b o, O b = some o → muO o = true ∧ nfO o = true
def RelO (K : PySem.W.Frag) (a0 : Addr) (G : Hp) (Γ : Env) (σ : L2.St) (H F : Hp) : Prop := ∃ O ad, RelX K a0 G Γ σ H F O ad
theorem none_of_ex {A H : Hp} {p : Addr} (e : Ex A H) (h : H p = none) : A p = none := Evl.fresh_back e h
theorem ex_upd {A H : Hp} {p : Addr} {o : HO} (e : Ex A H) (h : A p = none) : Ex A (upd H p o) := Evl.Ex.mut e h
theorem ex_upd2 {A H : Hp} {p : Addr} {o : HO} (e : Ex A H) : Ex (upd A p o) (upd H p o) := fun b u h => by
  by_cases hb : b = p
  · subst hb; rw [upd_same] at h ⊢; exact h
  · rw [upd_ne hb] at h ⊢; exact e b u h
theorem ex_updL {A H : Hp} {p : Addr} {o : HO} (e : Ex A H) (h : H p = some o) : Ex (upd A p o) H := fun b u hb => by
  by_cases q : b = p
  · subst q; rw [upd_same] at hb; cases hb; exact h
  · rw [upd_ne q] at hb; exact e b u hb
theorem ex_new {A : Hp} {p : Addr} {o : HO} (h : A p = none) : Ex A (upd A p o) := Evl.Ex.new h
theorem dj_upd {A B : Hp} {p : Addr} {o : HO} (d : ∀ b, A b = none ∨ B b = none) (h : B p = none) : ∀ b, upd A p o b = none ∨ B b = none := fun b => by
  by_cases hb : b = p
  · subst hb; exact .inr h
  · rw [upd_ne hb]; exact d b
theorem dj_upd' {A B : Hp} {p : Addr} {o : HO} (d : ∀ b, A b = none ∨ B b = none) (h : A p = none) : ∀ b, A b = none ∨ upd B p o b = none := fun b => by
  by_cases hb : b = p
  · subst hb; exact .inl h
  · rw [upd_ne hb]; exact d b
theorem ol_upd {O : Hp} {p : Addr} {u : HO} (h : ∀ b o, O b = some o → muO o = true ∧ nfO o = true) (hu : muO u = true := by rfl) (hn : nfO u = true := by rfl) : ∀ b o, upd O p u b = some o → muO o = true ∧ nfO o = true := fun b o q => by
  by_cases hb : b = p
  · subst hb; rw [upd_same] at q; cases q; exact ⟨hu, hn⟩
  · rw [upd_ne hb] at q; exact h b o q
theorem RelX.om {K : PySem.W.Frag} {a0 : Addr} {G : Hp} {Γ : Env} {σ : L2.St} {H F O : Hp} {ad : Nat → Addr} (x : RelX K a0 G Γ σ H F O ad) : ∀ b o, O b = some o → muO o = true := fun b o q => (x.ol b o q).1
theorem ng_jn {A B : Hp} (a : ∀ b o, A b = some o → muO o = true) (h : ∀ b o, B b = some o → muO o = true) : ∀ b o, jn A B b = some o → muO o = true := fun b o q => by
  cases e : A b with
  | none => rw [jn_r e] at q; exact h b o q
  | some u => rw [jn_l e] at q; cases q; exact a b _ e
theorem nf_jn {A B H : Hp} (h : ∀ b o, B b = some o → muO o = true ∧ nfO o = true) (hB : Ex B H) : ∀ b o, jn A B b = some o → A b = some o ∨ (nfO o = true ∧ ∀ u, H b = some u → ¬ isTw u) := fun b o q => by
  cases e : A b with
  | none =>
    rw [jn_r e] at q
    refine .inr ⟨(h b o q).2, fun u z => ?_⟩
    rw [hB b o q] at z; cases z
    exact mu_nTw (h b _ q).1
  | some u => rw [jn_l e] at q; exact .inl q
theorem ownd_o {s : Sl} {xs : List D} (h : s = .o xs) : ownd s = true := by rw [h]; rfl
theorem ownd_m {s : Sl} {k : Mk} {ds : List D} (h : s = .m k ds) : ownd s = true := by rw [h]; rfl
theorem ownd_ne {Γ : Env} {i j : Nat} {s : Sl} (hl : i < Γ.length) (hs : ownd s = false) (h : ownd (gt (Γ.set i s) j) = true) : j ≠ i ∧ ownd (gt Γ j) = true := by
  have hj : j ≠ i := fun z => by
    subst z
    rw [gt_set_same hl, hs] at h; cases h
  rw [gt_set_ne hj] at h
  exact ⟨hj, h⟩
theorem ownd_lt {Γ : Env} {i j : Nat} {s : Sl} (hs : ownd s = false) (h : ownd (gt (Γ.set i s) j) = true) : j ≠ i ∧ ownd (gt Γ j) = true := by
  by_cases hl : i < Γ.length
  · exact ownd_ne hl hs h
  · rw [List.set_eq_of_length_le (by omega)] at h
    refine ⟨fun z => ?_, h⟩
    subst z
    have : gt Γ j = .no := by
      have : ∀ (Γ : Env) (j : Nat), Γ.length ≤ j → gt Γ j = .no := by
        intro Γ
        induction Γ with
        | nil => intro j _; rfl
        | cons s Γ ih => intro j hj; cases j with
          | zero => simp at hj
          | succ j => exact ih j (by simpa using hj)
      exact this Γ j (by omega)
    rw [this] at h; cases h
section
variable {K : PySem.W.Frag} {a0 : Addr} {G : Hp} {Γ : Env} {σ : L2.St} {H F O : Hp} {ad : Nat → Addr}
theorem RelX.ow (x : RelX K a0 G Γ σ H F O ad) (i : Nat) (xs : List D) (h : gt Γ i = .o xs) : σ[i]? = some (some (.ref (ad i))) ∧ ∃ vs, O (ad i) = some (.lst vs) ∧ RpA K F vs xs := by
  obtain ⟨h1, o, h2, h3⟩ := x.own i (ownd_o h)
  rw [h] at h3
  obtain ⟨vs, rfl, h4⟩ := h3
  exact ⟨h1, vs, h2, h4⟩
theorem RelX.mw (x : RelX K a0 G Γ σ H F O ad) (i : Nat) (k : Mk) (ds : List D) (h : gt Γ i = .m k ds) : σ[i]? = some (some (.ref (ad i))) ∧ ∃ o vs, O (ad i) = some o ∧ k.Is K F o vs ∧ k.n = vs.length ∧ RpA K F vs ds := by
  obtain ⟨h1, o, h2, h3⟩ := x.own i (ownd_m h)
  rw [h] at h3
  obtain ⟨vs, h5, h4⟩ := h3
  exact ⟨h1, o, vs, h2, h5, h4⟩
end
section
variable {K : PySem.W.Frag} {a0 : Addr} {G : Hp} {Γ : Env} {σ : L2.St} {H F : Hp}
theorem RelO.wd (r : RelO K a0 G Γ σ H F) : Wd K F G H := let ⟨_, _, x⟩ := r; x.wd
theorem RelO.getv (r : RelO K a0 G Γ σ H F) {i : Nat} {d : D} (h : gt Γ i = .v d) : ∃ v, σ[i]? = some (some v) ∧ Rp K F v d := let ⟨_, _, x⟩ := r; x.v i d h
theorem RelO.geto (r : RelO K a0 G Γ σ H F) {i : Nat} {xs : List D} (h : gt Γ i = .o xs) : ∃ p vs, σ[i]? = some (some (.ref p)) ∧ H p = some (.lst vs) ∧ RpA K F vs xs ∧ F p = none ∧ G p = none := by
  obtain ⟨O, ad, x⟩ := r
  obtain ⟨h1, vs, h2, h3⟩ := x.ow i xs h
  refine ⟨ad i, vs, h1, x.o _ _ h2, h3, ?_, ?_⟩
  · exact (x.fo (ad i)).elim id fun q => by rw [h2] at q; cases q
  · exact (x.go (ad i)).elim id fun q => by rw [h2] at q; cases q
theorem RelO.getm (r : RelO K a0 G Γ σ H F) {i : Nat} {k : Mk} {ds : List D} (h : gt Γ i = .m k ds) : ∃ p o vs, σ[i]? = some (some (.ref p)) ∧ H p = some o ∧ k.Is K F o vs ∧ k.n = vs.length ∧ RpA K F vs ds ∧ F p = none ∧ G p = none := by
  obtain ⟨O, ad, x⟩ := r
  obtain ⟨h1, o, vs, h2, h3, h4, h5⟩ := x.mw i k ds h
  refine ⟨ad i, o, vs, h1, x.o _ _ h2, h3, h4, h5, ?_, ?_⟩
  · exact (x.fo (ad i)).elim id fun q => by rw [h2] at q; cases q
  · exact (x.go (ad i)).elim id fun q => by rw [h2] at q; cases q
theorem RelO.newF {p : Addr} {o : HO} (r : RelO K a0 G Γ σ H F) (h : H p = none) (ho : nfO o = true := by rfl) : Ex F (upd F p o) ∧ RelO K a0 G Γ σ (upd H p o) (upd F p o) := by
  obtain ⟨O, ad, x⟩ := r
  have hF := none_of_ex x.wd.f h
  have hG := none_of_ex x.wd.g h
  have hO := none_of_ex x.o h
  have e : Ex F (upd F p o) := ex_new hF
  refine ⟨e, O, ad, ⟨⟨ex_upd2 x.wd.f, ex_upd x.wd.g hG, dj_upd x.wd.d hG, x.wd.tb.toE (keep_upd h) e (nf_upd ho fun u z => by rw [h] at z; cases z) x.wd.tb.ng⟩, ex_upd x.o hO, dj_upd x.fo hO, x.go, fun i d q => ?_, fun i q => ?_, x.inj, x.z, x.len, x.ol⟩⟩
  · obtain ⟨v, h1, h2⟩ := x.v i d q; exact ⟨v, h1, h2.mono e⟩
  · obtain ⟨h1, u, h2, h3⟩ := x.own i q; exact ⟨h1, u, h2, h3.mono e⟩
theorem RelO.newT' {p : Addr} {o : HO} (r : RelO K a0 G Γ σ H F) (h : H p = none) (ho : muO o = true) : G p = none ∧ RelO K a0 (upd G p o) Γ σ (upd H p o) F := by
  obtain ⟨O, ad, x⟩ := r
  have hF := none_of_ex x.wd.f h
  have hG := none_of_ex x.wd.g h
  have hO := none_of_ex x.o h
  exact ⟨hG, O, ad, ⟨⟨ex_upd x.wd.f hF, ex_upd2 x.wd.g, dj_upd' x.wd.d hF, x.wd.tb.toF (keep_upd h) (ng_upd x.wd.tb.ng ho)⟩, ex_upd x.o hO, x.fo, dj_upd x.go hO, x.v, x.own, x.inj, x.z, x.len, x.ol⟩⟩
theorem RelO.newT {p : Addr} {vs : List V} (r : RelO K a0 G Γ σ H F) (h : H p = none) : G p = none ∧ RelO K a0 (upd G p (.lst vs)) Γ σ (upd H p (.lst vs)) F := r.newT' h rfl
theorem RelO.frzT {p : Addr} {o : HO} (r : RelO K a0 (upd G p o) Γ σ H F) (h : G p = none) (ho : nfO o = true := by rfl) : Ex F (upd F p o) ∧ RelO K a0 G Γ σ H (upd F p o) := by
  obtain ⟨O, ad, x⟩ := r
  have hp : upd G p o p = some o := upd_same
  have hH : H p = some o := x.wd.g p o hp
  have hF : F p = none := (x.wd.d p).elim id fun q => by rw [hp] at q; cases q
  have hO : O p = none := (x.go p).elim (fun q => by rw [hp] at q; cases q) id
  have e : Ex F (upd F p o) := ex_new hF
  have eG : Ex G (upd G p o) := ex_new h
  refine ⟨e, O, ad, ⟨⟨ex_updL x.wd.f hH, Ex.trans eG x.wd.g, fun b => ?_, x.wd.tb.toE (fun _ _ q _ => q) e (nf_upd ho fun u z => by rw [hH] at z; cases z; exact mu_nTw (x.wd.tb.ng p _ hp)) (fun b u q => x.wd.tb.ng b u (eG b u q))⟩, x.o, dj_upd x.fo hO, fun b => ?_, fun i d q => ?_, fun i q => ?_, x.inj, x.z, x.len, x.ol⟩⟩
  · by_cases hb : b = p
    · subst hb; exact .inr h
    · rw [upd_ne hb]
      exact (x.wd.d b).elim .inl fun q => .inr (by rw [upd_ne hb] at q; exact q)
  · by_cases hb : b = p
    · subst hb; exact .inl h
    · exact (x.go b).elim (fun q => .inl (by rw [upd_ne hb] at q; exact q)) .inr
  · obtain ⟨v, h1, h2⟩ := x.v i d q; exact ⟨v, h1, h2.mono e⟩
  · obtain ⟨h1, u, h2, h3⟩ := x.own i q; exact ⟨h1, u, h2, h3.mono e⟩
theorem RelO.pinT {p : Addr} {o o' : HO} (r : RelO K a0 (upd G p o) Γ σ H F) (h : G p = none) (ho : nfO o' = true) : Ex F (upd F p o') ∧ RelO K a0 G Γ σ (upd H p o') (upd F p o') := by
  obtain ⟨O, ad, x⟩ := r
  have hp : upd G p o p = some o := upd_same
  have hH : H p = some o := x.wd.g p o hp
  have hm : muO o = true := x.wd.tb.ng p o hp
  have hF : F p = none := (x.wd.d p).elim id fun q => by rw [hp] at q; cases q
  have hO : O p = none := (x.go p).elim (fun q => by rw [hp] at q; cases q) id
  have e : Ex F (upd F p o') := ex_new hF
  have eG : Ex G (upd G p o) := ex_new h
  refine ⟨e, O, ad, ⟨⟨ex_upd2 x.wd.f, ex_upd (Ex.trans eG x.wd.g) h, fun b => ?_, x.wd.tb.toE (keep_mut hH hm) e (nf_upd ho fun u z => by rw [hH] at z; cases z; exact mu_nTw hm) (fun b u q => x.wd.tb.ng b u (eG b u q))⟩, ex_upd x.o hO, dj_upd x.fo hO, fun b => ?_, fun i d q => ?_, fun i q => ?_, x.inj, x.z, x.len, x.ol⟩⟩
  · by_cases hb : b = p
    · subst hb; exact .inr h
    · rw [upd_ne hb]
      exact (x.wd.d b).elim .inl fun q => .inr (by rw [upd_ne hb] at q; exact q)
  · by_cases hb : b = p
    · subst hb; exact .inl h
    · exact (x.go b).elim (fun q => .inl (by rw [upd_ne hb] at q; exact q)) .inr
  · obtain ⟨v, h1, h2⟩ := x.v i d q; exact ⟨v, h1, h2.mono e⟩
  · obtain ⟨h1, u, h2, h3⟩ := x.own i q; exact ⟨h1, u, h2, h3.mono e⟩
theorem RelO.setv {i : Nat} {v : V} {d : D} (r : RelO K a0 G Γ σ H F) (h : Rp K F v d) : RelO K a0 G (Γ.set i (.v d)) (σ.set i (some v)) H F := by
  obtain ⟨O, ad, x⟩ := r
  refine ⟨O, ad, ⟨x.wd, x.o, x.fo, x.go, fun j e q => ?_, fun j q => ?_, fun j k q1 q2 q3 => ?_, fun q => ?_, by simpa using x.len, x.ol⟩⟩
  · by_cases hj : j = i
    · subst hj
      have hl : j < Γ.length := by simpa using gt_lt q (by simp)
      rw [gt_set_same hl] at q
      cases q
      exact ⟨v, by rw [List.getElem?_set_self (by rw [← x.len]; exact hl)], h⟩
    · rw [gt_set_ne hj] at q
      rw [List.getElem?_set_ne (Ne.symm hj)]
      exact x.v j e q
  · obtain ⟨hj, q'⟩ := ownd_lt (s := .v d) rfl q
    rw [gt_set_ne hj, List.getElem?_set_ne (Ne.symm hj)]
    exact x.own j q'
  · exact x.inj j k (ownd_lt (s := .v d) rfl q1).2 (ownd_lt (s := .v d) rfl q2).2 q3
  · exact x.z (ownd_lt (s := .v d) rfl q).2
theorem RelO.setS {i : Nat} {p : Addr} {o : HO} {s : Sl} (hi : 0 < i) (hG : G p = none) (r : RelO K a0 (upd G p o) Γ σ H F) (h : OwS K F o s) : RelO K a0 G (Γ.set i s) (σ.set i (some (.ref p))) H F := by
  obtain ⟨O, ad, x⟩ := r
  have hp : upd G p o p = some o := upd_same
  have hH : H p = some o := x.wd.g p _ hp
  have hF : F p = none := (x.wd.d p).elim id fun q => by rw [hp] at q; cases q
  have hO : O p = none := (x.go p).elim (fun q => by rw [hp] at q; cases q) id
  have eG : Ex G (upd G p o) := ex_new hG
  have key : ∀ {j}, j ≠ i → ownd (gt (Γ.set i s) j) = true → ownd (gt Γ j) = true := fun {j} hj q => by rwa [gt_set_ne hj] at q
  have nad : ∀ {j}, ownd (gt Γ j) = true → ad j ≠ p := fun {j} q z => by
    obtain ⟨_, ws, h2, _⟩ := x.own j q
    rw [z, hO] at h2; cases h2
  refine ⟨upd O p o, fun j => if j = i then p else ad j, ⟨⟨x.wd.f, Ex.trans eG x.wd.g, fun b => ?_, x.wd.tb.toF (fun _ _ q _ => q) (fun b u q => x.wd.tb.ng b u (eG b u q))⟩, ex_updL x.o hH, fun b => ?_, fun b => ?_, fun j e q => ?_, fun j q => ?_, fun j k q1 q2 q3 => ?_, fun q => ?_, by simpa using x.len, ol_upd x.ol h.mu h.nf⟩⟩
  · exact (x.wd.d b).elim .inl fun q => .inr (none_of_ex eG q)
  · by_cases hb : b = p
    · subst hb; exact .inl hF
    · rw [upd_ne hb]; exact x.fo b
  · by_cases hb : b = p
    · subst hb; exact .inl hG
    · rw [upd_ne hb]; exact (x.go b).elim (fun q => .inl (none_of_ex eG q)) .inr
  · have hj : j ≠ i := fun z => by
      subst z
      have hl : j < Γ.length := by simpa using gt_lt q (by simp)
      rw [gt_set_same hl] at q
      rw [q] at h; exact h.elim
    rw [gt_set_ne hj] at q
    rw [List.getElem?_set_ne (Ne.symm hj)]
    exact x.v j e q
  · by_cases hj : j = i
    · subst hj
      have hl : j < Γ.length := by
        have : gt (Γ.set j s) j ≠ .no := fun z => by rw [z] at q; cases q
        simpa using gt_lt rfl this
      rw [gt_set_same hl]
      simp only [if_pos]
      exact ⟨by rw [List.getElem?_set_self (by rw [← x.len]; exact hl)], o, upd_same, h⟩
    · have q' := key hj q
      obtain ⟨h1, ws, h2, h3⟩ := x.own j q'
      simp only [if_neg hj]
      rw [List.getElem?_set_ne (Ne.symm hj), gt_set_ne hj]
      exact ⟨h1, ws, by rw [upd_ne (nad q')]; exact h2, h3⟩
  · by_cases hj : j = i
    · by_cases hk : k = i
      · rw [hj, hk]
      · simp only [if_pos hj, if_neg hk] at q3
        exact absurd q3.symm (nad (key hk q2))
    · by_cases hk : k = i
      · simp only [if_neg hj, if_pos hk] at q3
        exact absurd q3 (nad (key hj q1))
      · simp only [if_neg hj, if_neg hk] at q3
        exact x.inj j k (key hj q1) (key hk q2) q3
  · have h0 : (0 : Nat) ≠ i := Nat.ne_of_lt hi
    simp only [if_neg h0]
    rw [gt_set_ne h0] at q
    exact x.z q
theorem RelO.seto {i : Nat} {p : Addr} {vs : List V} {xs : List D} (hi : 0 < i) (hG : G p = none) (r : RelO K a0 (upd G p (.lst vs)) Γ σ H F) (h : RpA K F vs xs) : RelO K a0 G (Γ.set i (.o xs)) (σ.set i (some (.ref p))) H F := RelO.setS hi hG r ⟨vs, rfl, h⟩
theorem RelO.mutS {i : Nat} {p : Addr} {o : HO} {s' : Sl} (r : RelO K a0 G Γ σ H F) (g : ownd (gt Γ i) = true) (hp : σ[i]? = some (some (.ref p))) (h : OwS K F o s') (hz : ∀ xs, s' = .o xs → ∃ ys, gt Γ i = .o ys) : RelO K a0 G (Γ.set i s') σ (upd H p o) F := by
  obtain ⟨O, ad, x⟩ := r
  obtain ⟨h1, w, h2, h3⟩ := x.own i g
  have e : ad i = p := by rw [h1] at hp; exact V.ref.inj (Option.some.inj (Option.some.inj hp))
  have hF : F p = none := (x.fo p).elim id fun q => by rw [← e, h2] at q; cases q
  have hG : G p = none := (x.go p).elim id fun q => by rw [← e, h2] at q; cases q
  have hl : i < Γ.length := gt_lt rfl (fun z => by rw [z] at g; cases g)
  refine ⟨upd O p o, ad, ⟨⟨ex_upd x.wd.f hF, ex_upd x.wd.g hG, x.wd.d, x.wd.tb.toF (keep_mut (w := w) (by rw [← e]; exact x.o _ _ h2) h3.mu) x.wd.tb.ng⟩, ex_upd2 x.o, dj_upd' x.fo hF, dj_upd' x.go hG, fun j d q => ?_, fun j q => ?_, fun j k q1 q2 q3 => ?_, fun q => ?_, by simpa using x.len, ol_upd x.ol h.mu h.nf⟩⟩
  · have hj : j ≠ i := fun z => by subst z; rw [gt_set_same hl] at q; rw [q] at h; exact h.elim
    rw [gt_set_ne hj] at q
    exact x.v j d q
  · by_cases hj : j = i
    · subst hj
      rw [gt_set_same hl]
      exact ⟨h1, o, by rw [e]; exact upd_same, h⟩
    · rw [gt_set_ne hj] at q ⊢
      obtain ⟨a1, us, a2, a3⟩ := x.own j q
      refine ⟨a1, us, ?_, a3⟩
      rw [upd_ne fun z => hj (x.inj j i q g (z.trans e.symm))]
      exact a2
  · have key : ∀ {j}, ownd (gt (Γ.set i s') j) = true → ownd (gt Γ j) = true := fun {j} q => by
      by_cases hj : j = i
      · subst hj; exact g
      · rw [gt_set_ne hj] at q; exact q
    exact x.inj j k (key q1) (key q2) q3
  · by_cases hj : 0 = i
    · subst hj
      exact x.z g
    · rw [gt_set_ne hj] at q; exact x.z q
theorem RelO.mut {i : Nat} {p : Addr} {vs : List V} {xs xs' : List D} (r : RelO K a0 G Γ σ H F) (g : gt Γ i = .o xs) (hp : σ[i]? = some (some (.ref p))) (h : RpA K F vs xs') : RelO K a0 G (Γ.set i (.o xs')) σ (upd H p (.lst vs)) F := r.mutS (ownd_o g) hp ⟨vs, rfl, h⟩ fun _ _ => ⟨xs, g⟩
theorem RelO.frzS {i : Nat} {d : D} {H' : Hp} (r : RelO K a0 G Γ σ H F) (g : ownd (gt Γ i) = true) : ∃ p o, σ[i]? = some (some (.ref p)) ∧ H p = some o ∧ OwS K F o (gt Γ i) ∧ F p = none ∧ ∀ o', nfO o' = true → (o' = o ∧ H' = H ∨ H' = upd H p o') → Rp K (upd F p o') (.ref p) d → Ex F (upd F p o') ∧ RelO K a0 G (Γ.set i (.v d)) σ H' (upd F p o') := by
  obtain ⟨O, ad, x⟩ := r
  obtain ⟨h1, o, h2, h3⟩ := x.own i g
  have hF : F (ad i) = none := (x.fo (ad i)).elim id fun q => by rw [h2] at q; cases q
  have hG : G (ad i) = none := (x.go (ad i)).elim id fun q => by rw [h2] at q; cases q
  have hl : i < Γ.length := gt_lt rfl (fun z => by rw [z] at g; cases g)
  refine ⟨ad i, o, h1, x.o _ _ h2, h3, hF, fun o' ho hh hd => ?_⟩
  have e : Ex F (upd F (ad i) o') := ex_new hF
  have hH : H (ad i) = some o := x.o _ _ h2
  have eO : Ex (fun b => if b = ad i then none else O b) O := fun b u q => by
    by_cases hb : b = ad i
    · simp [hb] at q
    · simpa [hb] using q
  have fH : Ex (upd F (ad i) o') H' := by
    rcases hh with ⟨rfl, rfl⟩ | rfl
    · exact ex_updL x.wd.f hH
    · exact ex_upd2 x.wd.f
  have gH : Ex G H' := by
    rcases hh with ⟨rfl, rfl⟩ | rfl
    · exact x.wd.g
    · exact ex_upd x.wd.g hG
  have oH : Ex (fun b => if b = ad i then none else O b) H' := by
    rcases hh with ⟨rfl, rfl⟩ | rfl
    · exact Ex.trans eO x.o
    · exact ex_upd (Ex.trans eO x.o) (if_pos rfl)
  have kH : ∀ b u, H b = some u → muO u = false → H' b = some u := by
    rcases hh with ⟨rfl, rfl⟩ | rfl
    · exact fun _ _ q _ => q
    · exact keep_mut hH h3.mu
  refine ⟨e, fun b => if b = ad i then none else O b, ad, ⟨⟨fH, gH, dj_upd x.wd.d hG, x.wd.tb.toE kH e (nf_upd ho fun u z => by rw [hH] at z; cases z; exact mu_nTw h3.mu) x.wd.tb.ng⟩, oH, fun b => ?_, fun b => ?_, fun j d' q => ?_, fun j q => ?_, fun j k q1 q2 q3 => x.inj j k (ownd_lt (s := .v d) rfl q1).2 (ownd_lt (s := .v d) rfl q2).2 q3, fun q => ?_, by simpa using x.len, fun b o q => x.ol b o (eO b o q)⟩⟩
  · by_cases hb : b = ad i
    · exact .inr (if_pos hb)
    · rw [upd_ne hb]; exact (x.fo b).elim .inl fun q => .inr (by simp [hb, q])
  · exact (x.go b).elim .inl fun q => .inr (by by_cases hb : b = ad i <;> simp [hb, q])
  · by_cases hj : j = i
    · subst hj
      rw [gt_set_same hl] at q
      cases q
      exact ⟨_, h1, hd⟩
    · rw [gt_set_ne hj] at q
      obtain ⟨v, a1, a2⟩ := x.v j d' q
      exact ⟨v, a1, a2.mono e⟩
  · obtain ⟨hj, q'⟩ := ownd_lt (s := .v d) rfl q
    rw [gt_set_ne hj]
    obtain ⟨a1, us, a2, a3⟩ := x.own j q'
    refine ⟨a1, us, ?_, a3.mono e⟩
    show (if ad j = ad i then none else O (ad j)) = _
    rw [if_neg fun z => hj (x.inj j i q' g z)]
    exact a2
  · exact x.z (ownd_lt (s := .v d) rfl q).2
theorem RelO.frz {i : Nat} {xs : List D} (r : RelO K a0 G Γ σ H F) (g : gt Γ i = .o xs) : ∃ p vs, σ[i]? = some (some (.ref p)) ∧ Ex F (upd F p (.lst vs)) ∧ RpA K F vs xs ∧ RelO K a0 G (Γ.set i (.v (.lst xs))) σ H (upd F p (.lst vs)) := by
  obtain ⟨p, o, h1, h2, h3, h4, h5⟩ := r.frzS (d := .lst xs) (H' := H) (ownd_o g)
  rw [g] at h3
  obtain ⟨vs, rfl, h6⟩ := h3
  obtain ⟨e, r'⟩ := h5 (.lst vs) rfl (.inl ⟨rfl, rfl⟩) (.lst upd_same (h6.mono (ex_new h4)))
  exact ⟨p, vs, h1, e, h6, r'⟩
theorem Mk.rp {k : Mk} {o : HO} {vs : List V} {ds : List D} {F : Hp} {p : Addr} {ob : Obj} (h : F p = some (.frz ob o)) (hi : k.Is K F o vs) (hn : k.n = vs.length) (ha : RpA K F vs ds) : Rp K F (.ref p) (k.d ds) := by
  cases k with
  | k ks => subst hi; exact .dct h hn ha
  | t ks => exact .dcT h hi hn ha
  | x ks => exact .opq
  | r c ns => exact .opq
theorem RelO.split (r : RelO K a0 G Γ σ H F) : ∃ G', Ex G G' ∧ Wd K F G' H ∧ (∀ F' H', Ex F F' → Wd K F' G' H' → RelO K a0 G Γ σ H' F') ∧
    ∀ F' H' p o, Ex F F' → G' p = none → Wd K F' (upd G' p o) H' → G p = none ∧ RelO K a0 (upd G p o) Γ σ H' F' := by
  obtain ⟨O, ad, x⟩ := r
  have dj : ∀ b, F b = none ∨ jn G O b = none := fun b => (x.wd.d b).elim .inl fun q => (x.fo b).elim .inl fun q2 => .inr (jn_none.mpr ⟨q, q2⟩)
  have exO : Ex O (jn G O) := fun b o h => by rw [jn_r ((x.go b).elim id fun q => by rw [h] at q; cases q)]; exact h
  refine ⟨jn G O, ex_jn_l, ⟨x.wd.f, ex_jn x.wd.g x.o, dj, x.wd.tb.toF (fun _ _ q _ => q) (ng_jn x.wd.tb.ng x.om)⟩, fun F' H' e w => ?_, fun F' H' p o e hp w => ?_⟩
  · refine ⟨O, ad, ⟨⟨w.f, Ex.trans ex_jn_l w.g, fun b => (w.d b).elim .inl fun q => .inr (jn_none.mp q).1, w.tb.toF (fun _ _ q _ => q) (fun b u q => w.tb.ng b u (ex_jn_l b u q))⟩, Ex.trans exO w.g, fun b => (w.d b).elim .inl fun q => .inr (jn_none.mp q).2, x.go, fun i d q => ?_, fun i q => ?_, x.inj, x.z, x.len, x.ol⟩⟩
    · obtain ⟨v, h1, h2⟩ := x.v i d q; exact ⟨v, h1, h2.mono e⟩
    · obtain ⟨h1, vs, h2, h3⟩ := x.own i q; exact ⟨h1, vs, h2, h3.mono e⟩
  · obtain ⟨g1, g2⟩ := jn_none.mp hp
    have eG : Ex (upd G p o) (upd (jn G O) p o) := ex_upd2 ex_jn_l
    have eO : Ex O (upd (jn G O) p o) := ex_upd exO g2
    refine ⟨g1, O, ad, ⟨⟨w.f, Ex.trans eG w.g, fun b => (w.d b).elim .inl fun q => .inr (none_of_ex eG q), w.tb.toF (fun _ _ q _ => q) (fun b u q => w.tb.ng b u (eG b u q))⟩, Ex.trans eO w.g, fun b => (w.d b).elim .inl fun q => .inr (none_of_ex eO q), dj_upd x.go g2, fun i d q => ?_, fun i q => ?_, x.inj, x.z, x.len, x.ol⟩⟩
    · obtain ⟨v, h1, h2⟩ := x.v i d q; exact ⟨v, h1, h2.mono e⟩
    · obtain ⟨h1, vs, h2, h3⟩ := x.own i q; exact ⟨h1, vs, h2, h3.mono e⟩
theorem RelO.io {i : Nat} {xs : List D} (r : RelO K a0 G Γ σ H F) (g : gt Γ i = .o xs) : ∃ p ws G', σ[i]? = some (some (.ref p)) ∧ Ex G G' ∧ Wd K F G' H ∧ F p = none ∧ G' p = none ∧ H p = some (.lst ws) ∧ RpA K F ws xs ∧
    (∀ F' H' ws' xs', Ex F F' → Wd K F' G' H' → F' p = none → H' p = some (.lst ws') → RpA K F' ws' xs' → RelO K a0 G (Γ.set i (.o xs')) σ H' F') ∧
    ∀ F' H' ws' xs' q o, Ex F F' → G' q = none → q ≠ p → Wd K F' (upd G' q o) H' → F' p = none → H' p = some (.lst ws') → RpA K F' ws' xs' → G q = none ∧ RelO K a0 (upd G q o) (Γ.set i (.o xs')) σ H' F' := by
  obtain ⟨O, ad, x⟩ := r
  obtain ⟨h1, ws, h2, h3⟩ := x.ow i xs g
  have hF : F (ad i) = none := (x.fo (ad i)).elim id fun q => by rw [h2] at q; cases q
  have hG : G (ad i) = none := (x.go (ad i)).elim id fun q => by rw [h2] at q; cases q
  have hl : i < Γ.length := gt_lt g (by simp)
  have eO : Ex (fun b => if b = ad i then none else O b) O := fun b u q => by
    by_cases hb : b = ad i
    · simp [hb] at q
    · simpa [hb] using q
  have exO : Ex (fun b => if b = ad i then none else O b) (jn G (fun b => if b = ad i then none else O b)) := fun b o h => by
    rw [jn_r ((x.go b).elim id fun q => by rw [eO b o h] at q; cases q)]; exact h
  have dj : ∀ b, F b = none ∨ jn G (fun b => if b = ad i then none else O b) b = none := fun b =>
    (x.wd.d b).elim .inl fun q => (x.fo b).elim .inl fun q2 => .inr (jn_none.mpr ⟨q, none_of_ex eO q2⟩)
  have hJ : jn G (fun b => if b = ad i then none else O b) (ad i) = none := jn_none.mpr ⟨hG, if_pos rfl⟩
  -- the rebuilt relation, over a frame GG that extends G
  have back : ∀ (GG : Hp) (F' H' : Hp) (ws' : List V) (xs' : List D), Ex F F' → Wd K F' GG H' → Ex (fun b => if b = ad i then none else O b) H' → (∀ b, F' b = none ∨ (fun b => if b = ad i then none else O b) b = none) →
      (∀ b, GG b = none ∨ (fun b => if b = ad i then none else O b) b = none) → GG (ad i) = none → F' (ad i) = none → H' (ad i) = some (.lst ws') → RpA K F' ws' xs' → RelO K a0 GG (Γ.set i (.o xs')) σ H' F' := by
    intro GG F' H' ws' xs' e w hO dF dG hGG hF' hH' hR
    have key : ∀ {j}, ownd (gt (Γ.set i (.o xs')) j) = true → ownd (gt Γ j) = true := fun {j} q => by
      by_cases hj : j = i
      · subst hj; exact ownd_o g
      · rw [gt_set_ne hj] at q; exact q
    refine ⟨upd (fun b => if b = ad i then none else O b) (ad i) (.lst ws'), ad, ⟨w, ex_updL hO hH', dj_upd' dF hF', dj_upd' dG hGG, fun j d q => ?_, fun j q => ?_, fun j k q1 q2 q3 => x.inj j k (key q1) (key q2) q3, fun q => ?_, by simpa using x.len, ol_upd (u := .lst ws') (fun b o q => x.ol b o (eO b o q))⟩⟩
    · have hj : j ≠ i := fun z => by subst z; rw [gt_set_same hl] at q; cases q
      rw [gt_set_ne hj] at q
      obtain ⟨v, a1, a2⟩ := x.v j d q
      exact ⟨v, a1, a2.mono e⟩
    · by_cases hj : j = i
      · subst hj
        rw [gt_set_same hl]
        exact ⟨h1, _, upd_same, ws', rfl, hR⟩
      · rw [gt_set_ne hj] at q ⊢
        obtain ⟨a1, us, a2, a3⟩ := x.own j q
        have na : ad j ≠ ad i := fun z => hj (x.inj j i q (ownd_o g) z)
        refine ⟨a1, us, ?_, a3.mono e⟩
        rw [upd_ne na]
        show (if ad j = ad i then none else O (ad j)) = _
        rw [if_neg na]
        exact a2
    · by_cases hj : 0 = i
      · subst hj; exact x.z (ownd_o g)
      · rw [gt_set_ne hj] at q; exact x.z q
  refine ⟨ad i, ws, jn G (fun b => if b = ad i then none else O b), h1, ex_jn_l, ⟨x.wd.f, ex_jn x.wd.g (Ex.trans eO x.o), dj, x.wd.tb.toF (fun _ _ q _ => q) (ng_jn x.wd.tb.ng fun b o q => x.om b o (eO b o q))⟩, hF, hJ, x.o _ _ h2, h3, fun F' H' ws' xs' e w hF' hH' hR => ?_, fun F' H' ws' xs' q o e hq hne w hF' hH' hR => ?_⟩
  · exact back G F' H' ws' xs' e ⟨w.f, Ex.trans ex_jn_l w.g, fun b => (w.d b).elim .inl fun q => .inr (jn_none.mp q).1, w.tb.toF (fun _ _ q _ => q) (fun b u q => w.tb.ng b u (ex_jn_l b u q))⟩ (Ex.trans exO w.g) (fun b => (w.d b).elim .inl fun q => .inr (jn_none.mp q).2) (fun b => (x.go b).elim .inl fun q => .inr (none_of_ex eO q)) hG hF' hH' hR
  · obtain ⟨g1, g2⟩ := jn_none.mp hq
    have eG : Ex (upd G q o) (upd (jn G (fun b => if b = ad i then none else O b)) q o) := ex_upd2 ex_jn_l
    have eO2 : Ex (fun b => if b = ad i then none else O b) (upd (jn G (fun b => if b = ad i then none else O b)) q o) := ex_upd exO g2
    exact ⟨g1, back (upd G q o) F' H' ws' xs' e ⟨w.f, Ex.trans eG w.g, fun b => (w.d b).elim .inl fun z => .inr (none_of_ex eG z), w.tb.toF (fun _ _ q _ => q) (fun b u q => w.tb.ng b u (eG b u q))⟩ (Ex.trans eO2 w.g) (fun b => (w.d b).elim .inl fun z => .inr (none_of_ex eO2 z))
      (dj_upd (fun b => (x.go b).elim .inl fun z => .inr (none_of_ex eO z)) g2) (by rw [upd_ne hne.symm]; exact hG) hF' hH' hR⟩
end
section
variable {K : PySem.W.Frag} {F F' : Hp}
theorem lf_tup (xs : List D) : lf (.tup xs) = lfA xs := by rw [lf]
theorem lf_lst (xs : List D) : lf (.lst xs) = false := by rw [lf]
theorem lf_dct (ks : List Key) (xs : List D) : lf (.dct ks xs) = lfA xs := by rw [lf]
theorem lf_dcT (ks : List (List Key)) (xs : List D) : lf (.dcT ks xs) = lfA xs := by rw [lf]
theorem lf_ins (c : Str) (ns : List Str) (ds : List D) : lf (.ins c ns ds) = false := by rw [lf]
theorem lf_scr (ns : List Int) : lf (.scr ns) = false := by rw [lf]
theorem lfA_cons (d : D) (ds : List D) : lfA (d :: ds) = (lf d && lfA ds) := by rw [lfA]
mutual
theorem Rp.less (e : ∀ a o, F a = some o → muO o = false → ¬ isTw o → F' a = some o) : ∀ {v : V} {d : D}, Rp K F v d → lf d = true → Rp K F' v d
  | _, _, .non, _ => .non
  | _, _, .bl b, _ => .bl b
  | _, _, .int i, _ => .int i
  | _, _, .str x, _ => .str x
  | _, _, .ty n, _ => .ty n
  | _, _, .opq, _ => .opq
  | _, _, .adr, _ => .adr
  | _, _, .fn h1 h2, _ => .fn (e _ _ h1 muO_lam nTw_lam) (e _ _ h2 muO_code nTw_code)
  | _, _, .dct q l a, h => .dct (e _ _ q rfl id) l (RpA.less e a ((lf_dct _ _).symm.trans h))
  | _, _, .dcT q z l a, h => .dcT (e _ _ q rfl id) (z.to fun b xs y => by
      rcases y with (y | ⟨o, y⟩) | y
      · exact .inl (.inl (e _ _ y rfl id))
      · exact .inl (.inr ⟨o, e _ _ y rfl id⟩)
      · exact .inr y) l (RpA.less e a ((lf_dcT _ _).symm.trans h))
  | _, _, .lst _ _, h => absurd ((lf_lst _).symm.trans h) Bool.false_ne_true
  | _, _, .scr _ _, h => absurd ((lf_scr _).symm.trans h) Bool.false_ne_true
  | _, _, .ins _ _ _, h => absurd ((lf_ins _ _ _).symm.trans h) Bool.false_ne_true
  | _, _, .tup q a, h => .tup (by
      rcases q with (q | ⟨o, q⟩) | q
      · exact .inl (.inl (e _ _ q rfl id))
      · exact .inl (.inr ⟨o, e _ _ q rfl id⟩)
      · exact .inr q) (RpA.less e a ((lf_tup _).symm.trans h))
theorem RpA.less (e : ∀ a o, F a = some o → muO o = false → ¬ isTw o → F' a = some o) : ∀ {vs : List V} {ds : List D}, RpA K F vs ds → lfA ds = true → RpA K F' vs ds
  | _, _, .nil, _ => .nil
  | _, _, .cons q a, h => .cons (Rp.less e q (Bool.and_eq_true_iff.mp ((lfA_cons _ _).symm.trans h)).1) (RpA.less e a (Bool.and_eq_true_iff.mp ((lfA_cons _ _).symm.trans h)).2)
end
end
theorem twB_zip {ns : List Str} {vs : List V} (h : ns.length = vs.length) : (ns.zip vs).map (·.1) = ns := by
  induction ns generalizing vs with
  | nil => rfl
  | cons n ns ih => cases vs with
    | nil => cases h
    | cons v vs => simp only [List.zip_cons_cons, List.map_cons, ih (Nat.succ.inj h)]
section
variable {K : PySem.W.Frag} {F F' : Hp}
theorem ntA_cons (d : D) (ds : List D) : ntA (d :: ds) = (ntD d && ntA ds) := by rw [ntA]
theorem ntA_ints : ∀ xs : List Int, ntA (xs.map D.int) = true
  | [] => by rw [List.map_nil, ntA]
  | x :: xs => by
    have h : ntD (.int x) = true := by simp [ntD]
    rw [List.map_cons, ntA, h, ntA_ints xs]; rfl
theorem twB_r (l : List Str) : twB ("ruling" :: l) = false := (by decide +kernel : (("ruling" : Str) == "base") = false)
theorem twB_l (l : List Str) : twB ("lower" :: l) = false := (by decide +kernel : (("lower" : Str) == "base") = false)
theorem ntA_mp {α : Type} {e : α → D} (h : ∀ x, ntD (e x) = true) : ∀ xs : List α, ntA (xs.map e) = true
  | [] => by rw [List.map_nil, ntA]
  | x :: xs => by rw [List.map_cons, ntA, h x, ntA_mp h xs]; rfl
theorem ntD_tup (xs : List D) : ntD (.tup xs) = ntA xs := by rw [ntD]
theorem ntD_lst (xs : List D) : ntD (.lst xs) = ntA xs := by rw [ntD]
theorem ntD_dct (ks : List Key) (xs : List D) : ntD (.dct ks xs) = ntA xs := by rw [ntD]
theorem ntD_dcT (ks : List (List Key)) (xs : List D) : ntD (.dcT ks xs) = ntA xs := by rw [ntD]
theorem ntD_ins (c : Str) (ns : List Str) (xs : List D) : ntD (.ins c ns xs) = (!twB ns && ntA xs) := by rw [ntD]
mutual
theorem Rp.cutT (e : ∀ a o, F a = some o → tws o = false → F' a = some o) : ∀ {v : V} {d : D}, Rp K F v d → ntD d = true → Rp K F' v d
  | _, _, .non, _ => .non
  | _, _, .bl b, _ => .bl b
  | _, _, .int i, _ => .int i
  | _, _, .str x, _ => .str x
  | _, _, .ty n, _ => .ty n
  | _, _, .opq, _ => .opq
  | _, _, .adr, _ => .adr
  | _, _, .fn h1 h2, _ => .fn (e _ _ h1 rfl) (e _ _ h2 rfl)
  | _, _, .dct q l a, h => .dct (e _ _ q rfl) l (RpA.cutT e a ((ntD_dct _ _).symm.trans h))
  | _, _, .dcT q z l a, h => .dcT (e _ _ q rfl) (z.to fun b xs y => by
      rcases y with (y | ⟨o, y⟩) | y
      · exact .inl (.inl (e _ _ y rfl))
      · exact .inl (.inr ⟨o, e _ _ y rfl⟩)
      · exact .inr y) l (RpA.cutT e a ((ntD_dcT _ _).symm.trans h))
  | _, _, .lst q a, h => .lst (e _ _ q rfl) (RpA.cutT e a ((ntD_lst _).symm.trans h))
  | _, _, .scr ns q, _ => .scr ns (by
      rcases q with (q | ⟨o, q⟩) | q
      · exact .inl (.inl (e _ _ q rfl))
      · exact .inl (.inr ⟨o, e _ _ q rfl⟩)
      · exact .inr q)
  | _, _, .ins (ns := ns) (vs := vs) q l a, h => by
      have h' := Bool.and_eq_true_iff.mp ((ntD_ins _ _ _).symm.trans h)
      exact .ins (e _ _ q (by
        show twB ((ns.zip vs).map (·.1)) = false
        rw [twB_zip l]; simpa using h'.1)) l (RpA.cutT e a h'.2)
  | _, _, .tup q a, h => .tup (by
      rcases q with (q | ⟨o, q⟩) | q
      · exact .inl (.inl (e _ _ q rfl))
      · exact .inl (.inr ⟨o, e _ _ q rfl⟩)
      · exact .inr q) (RpA.cutT e a ((ntD_tup _).symm.trans h))
theorem RpA.cutT (e : ∀ a o, F a = some o → tws o = false → F' a = some o) : ∀ {vs : List V} {ds : List D}, RpA K F vs ds → ntA ds = true → RpA K F' vs ds
  | _, _, .nil, _ => .nil
  | _, _, .cons q a, h => .cons (Rp.cutT e q (Bool.and_eq_true_iff.mp ((ntA_cons _ _).symm.trans h)).1) (RpA.cutT e a (Bool.and_eq_true_iff.mp ((ntA_cons _ _).symm.trans h)).2)
end
end
def ntF (F : Hp) : Hp := fun b => match F b with
  | some o => if tws o = true then none else some o
  | none => none
def twF (F : Hp) : Hp := fun b => match F b with
  | some o => if tws o = true then some o else none
  | none => none
def IsDk (F : Hp) (b : Addr) : Prop := ∃ a C dx p r1 r2, F a = some (.ins C dx [("base", .int p), ("owns", .ref r1), ("leads", .ref r2)]) ∧ (b = r1 ∨ b = r2)
open Classical in
noncomputable def dkF (F H : Hp) : Hp := fun b => if IsDk F b then H b else none
theorem ntF_i {F : Hp} {b : Addr} {o : HO} (h : F b = some o) (t : tws o = false) : ntF F b = some o := by
  unfold ntF; rw [h]; simp [t]
theorem ntF_o {F : Hp} {b : Addr} {o : HO} (h : ntF F b = some o) : F b = some o ∧ tws o = false := by
  unfold ntF at h
  cases q : F b with
  | none => rw [q] at h; cases h
  | some u =>
    rw [q] at h
    cases t : tws u with
    | true => simp [t] at h
    | false => simp [t] at h; subst h; exact ⟨rfl, t⟩
theorem twF_i {F : Hp} {b : Addr} {o : HO} (h : F b = some o) (t : tws o = true) : twF F b = some o := by
  unfold twF; rw [h]; simp [t]
theorem twF_o {F : Hp} {b : Addr} {o : HO} (h : twF F b = some o) : F b = some o ∧ tws o = true := by
  unfold twF at h
  cases q : F b with
  | none => rw [q] at h; cases h
  | some u =>
    rw [q] at h
    cases t : tws u with
    | false => simp [t] at h
    | true => simp [t] at h; subst h; exact ⟨rfl, t⟩
theorem twF_n {F : Hp} {b : Addr} (h : F b = none) : twF F b = none := by unfold twF; rw [h]
theorem TwK.dk {K : PySem.W.Frag} {F H : Hp} {C dx : Addr} {p : Int} {r1 r2 : Addr} (x : TwK K F H (.ins C dx [("base", .int p), ("owns", .ref r1), ("leads", .ref r2)])) {b : Addr} (h : b = r1 ∨ b = r2) : ∃ u, H b = some u ∧ isTw u := by
  obtain ⟨C', dx', p', q1, q2, e, hn, ⟨φ, kvs, a1, a2, _⟩, ⟨ψ, B, kws, b1, b2, _⟩⟩ := x
  cases e
  rcases h with rfl | rfl
  · exact ⟨_, a1, a2⟩
  · exact ⟨_, b1, b2⟩
section
variable {K : PySem.W.Frag} {F G H : Hp}
theorem Wd.dk (w : Wd K F G H) {b : Addr} (h : IsDk F b) : ∃ u, H b = some u ∧ isTw u := by
  obtain ⟨a, C, dx, p, r1, r2, e, hb⟩ := h
  exact (w.tb.tw _ _ e rfl).dk hb
theorem dkF_i (w : Wd K F G H) {b : Addr} (h : IsDk F b) : ∃ u, dkF F H b = some u ∧ H b = some u ∧ isTw u := by
  obtain ⟨u, h1, h2⟩ := w.dk h
  exact ⟨u, (if_pos h).trans h1, h1, h2⟩
theorem dkF_o (w : Wd K F G H) {b : Addr} {o : HO} (h : dkF F H b = some o) : IsDk F b ∧ H b = some o ∧ isTw o := by
  unfold dkF at h
  split at h
  · rename_i hd
    obtain ⟨u, h1, h2⟩ := w.dk hd
    rw [h] at h1; cases h1
    exact ⟨hd, h, h2⟩
  · cases h
theorem dk_ex (w : Wd K F G H) : Ex (dkF F H) H := fun _ _ h => (dkF_o w h).2.1
theorem nt_ex : Ex (ntF F) F := fun _ _ h => (ntF_o h).1
theorem tw_ex : Ex (twF F) F := fun _ _ h => (twF_o h).1
theorem hF_o (w : Wd K F G H) {b : Addr} {o : HO} (h : jn (ntF F) (dkF F H) b = some o) : (F b = some o ∧ tws o = false) ∨ (H b = some o ∧ isTw o) := by
  cases q : ntF F b with
  | some u => rw [jn_l q] at h; cases h; exact .inl (ntF_o q)
  | none => rw [jn_r q] at h; exact .inr (dkF_o w h).2
theorem Wd.hide (w : Wd K F G H) : Wd K (jn (ntF F) (dkF F H)) (jn G (twF F)) H := by
  refine ⟨ex_jn (Ex.trans nt_ex w.f) (dk_ex w), ex_jn w.g (Ex.trans tw_ex w.f), fun b => ?_, ⟨w.tb.t, fun b ps q => ?_, fun b o q => ?_, fun b o q t => ?_, fun a b r h1 h2 => ?_⟩⟩
  · cases q : jn (ntF F) (dkF F H) b with
    | none => exact .inl rfl
    | some o =>
      refine .inr (jn_none.mpr ?_)
      rcases hF_o w q with ⟨h1, h2⟩ | ⟨h1, h2⟩
      · refine ⟨(w.d b).elim (fun z => by rw [h1] at z; cases z) id, ?_⟩
        cases z : twF F b with
        | none => rfl
        | some u => obtain ⟨z1, z2⟩ := twF_o z; rw [h1] at z1; cases z1; rw [h2] at z2; cases z2
      · constructor
        · cases z : G b with
          | none => rfl
          | some u =>
            have m := w.tb.ng b u z
            have := w.g b u z
            rw [h1] at this; cases this
            rw [h2.mu] at m; cases m
        · cases z : twF F b with
          | none => rfl
          | some u =>
            obtain ⟨z1, z2⟩ := twF_o z
            have := w.f b u z1
            rw [h1] at this; cases this
            rw [nfO_nt h2.nf] at z2; cases z2
  · rcases hF_o w q with ⟨h1, _⟩ | ⟨_, h2⟩
    · exact w.tb.nf b ps h1
    · exact h2.elim
  · cases z : G b with
    | some u => rw [jn_l z] at q; cases q; exact w.tb.ng b _ z
    | none =>
      rw [jn_r z] at q
      obtain ⟨_, z2⟩ := twF_o q
      cases o with
      | ins C dx fs => rfl
      | _ => cases z2
  · rcases hF_o w q with ⟨_, h2⟩ | ⟨_, h2⟩
    · rw [h2] at t; cases t
    · rw [nfO_nt h2.nf] at t; cases t
  · obtain ⟨C, dx, p, r1, r2, q, _⟩ := h1
    rcases hF_o w q with ⟨_, h2⟩ | ⟨_, h2⟩
    · cases h2
    · exact h2.elim
theorem hide_e (F X : Hp) : ∀ a o, F a = some o → tws o = false → jn (ntF F) X a = some o := fun a o h t => jn_l (ntF_i h t)
theorem tw_g (w : Wd K F G H) : Ex (twF F) (jn G (twF F)) := ex_jn_r' fun b => (w.d b).elim (fun q => .inr (twF_n q)) .inl
open Classical in
theorem Wd.back {F' GG GR H' : Hp} (w0 : Wd K F G H) (e : Ex (jn (ntF F) (dkF F H)) F') (w : Wd K F' GG H') (eg : Ex (twF F) GG) (er : Ex GR GG) (dr : ∀ b, F b = none ∨ GR b = none) (X : Addr → Prop) (hX : ∀ b, X b → F b = none) :
    ∃ F'', Ex F F'' ∧ Wd K F'' GR H' ∧ (∀ b, X b → F'' b = none) ∧ (∀ b, F b = none → F' b = none → F'' b = none) ∧ ∀ a o, F' a = some o → muO o = false → ¬ isTw o → ¬ X a → F'' a = some o := by
  have hin : ∀ b o, F b = some o → (F' b = some o ∧ tws o = false) ∨ (GG b = some o ∧ tws o = true) := fun b o h => by
    cases t : tws o with
    | false => exact .inl ⟨e _ _ (hide_e F _ b o h t), rfl⟩
    | true => exact .inr ⟨eg _ _ (twF_i h t), rfl⟩
  have hr : ∃ F'' : Hp, (∀ b o, F b = some o → F'' b = some o) ∧ (∀ b, F b = none → F'' b = if X b ∨ (dkF F H b).isSome = true ∨ (∃ o, F' b = some o ∧ tws o = true) then none else F' b) :=
    ⟨fun b => match F b with
      | some o => some o
      | none => if X b ∨ (dkF F H b).isSome = true ∨ (∃ o, F' b = some o ∧ tws o = true) then none else F' b, fun b o h => by dsimp only; rw [h], fun b h => by dsimp only; rw [h]⟩
  obtain ⟨F'', hs, hn⟩ := hr
  have out : ∀ b o, F'' b = some o → F b = some o ∨ (F b = none ∧ F' b = some o ∧ ¬ X b ∧ tws o = false) := fun b o h => by
    cases q : F b with
    | some u => rw [hs b u q] at h; cases h; exact .inl rfl
    | none =>
      rw [hn b q] at h
      split at h
      · cases h
      · rename_i hc
        refine .inr ⟨rfl, h, fun z => hc (.inl z), ?_⟩
        cases t : tws o with
        | false => rfl
        | true => exact absurd (.inr (.inr ⟨o, h, t⟩)) hc
  have ex : Ex F F'' := hs
  have kept : ∀ b, IsDk F b → ∃ u, H b = some u ∧ H' b = some u ∧ isTw u := fun b hb => by
    obtain ⟨u, h1, h2, h3⟩ := dkF_i w0 hb
    refine ⟨u, h2, w.f _ _ (e _ _ ?_), h3⟩
    cases z : ntF F b with
    | none => rw [jn_r z]; exact h1
    | some y =>
      have := w0.f _ _ (ntF_o z).1
      rw [h2] at this; cases this
      exact jn_l z
  have dkin : ∀ a r, DkOf F'' a r → DkOf F a r := fun a r h => by
    obtain ⟨C, dx, p, r1, r2, h1, h2⟩ := h
    refine ⟨C, dx, p, r1, r2, (out a _ h1).elim id fun z => ?_, h2⟩
    have := z.2.2.2
    cases this
  have gone : ∀ b, IsDk F b → F b = none → F'' b = none := fun b hb q => by
    obtain ⟨u, h1, _⟩ := dkF_i w0 hb
    rw [hn b q, if_pos (.inr (.inl (by rw [h1]; rfl)))]
  refine ⟨F'', ex, ⟨fun b o h => ?_, Ex.trans er w.g, fun b => ?_, ⟨w.tb.t, fun b ps q => ?_, fun b o q => w.tb.ng b o (er b o q), fun b o q t => ?_, fun a b r k1 k2 => w0.tb.ti a b r (dkin a r k1) (dkin b r k2)⟩⟩, fun b hb => ?_, fun b h1 h2 => ?_, fun a o h m hi hx => ?_⟩
  · rcases out b o h with h | ⟨_, h, _⟩
    · rcases hin b o h with ⟨z, _⟩ | ⟨z, _⟩
      · exact w.f b o z
      · exact w.g b o z
    · exact w.f b o h
  · cases q : F'' b with
    | none => exact .inl rfl
    | some o =>
      refine .inr ?_
      rcases out b o q with h | ⟨_, h, _⟩
      · exact (dr b).elim (fun z => by rw [h] at z; cases z) id
      · exact none_of_ex er ((w.d b).elim (fun z => by rw [h] at z; cases z) id)
  · rcases out b _ q with h | ⟨_, h, _⟩
    · exact w0.tb.nf b ps h
    · exact w.tb.nf b ps h
  · rcases out b o q with h | ⟨_, _, _, h⟩
    · obtain ⟨C, dx, p, r1, r2, rfl, hne, ⟨φ, kvs, a1, a2, a3, a4, af, a5⟩, ⟨ψ, B, kws, b1, b2, b3, b4, b5, bf, b6⟩⟩ := w0.tb.tw b o h t
      have k1 : H' r1 = some (.ext φ) := by
        obtain ⟨u, z1, z2, _⟩ := kept r1 ⟨b, C, dx, p, r1, r2, h, .inl rfl⟩
        rw [a1] at z1; cases z1; exact z2
      have k2 : H' r2 = some (.ext ψ) := by
        obtain ⟨u, z1, z2, _⟩ := kept r2 ⟨b, C, dx, p, r1, r2, h, .inr rfl⟩
        rw [b1] at z1; cases z1; exact z2
      refine ⟨C, dx, p, r1, r2, rfl, hne, ⟨φ, kvs, k1, a2, a3, a4, gone r1 ⟨b, C, dx, p, r1, r2, h, .inl rfl⟩ af, fun i v q => ?_⟩, ⟨ψ, B, kws, k2, b2, b3, fun b xs q => Evl.ex_t ex (b4 b xs q), b5, gone r2 ⟨b, C, dx, p, r1, r2, h, .inr rfl⟩ bf, fun i j v q => ?_⟩⟩
      · obtain ⟨d, h1, h2⟩ := a5 i v q; exact ⟨d, h1, h2.mono ex⟩
      · obtain ⟨d, h1, h2⟩ := b6 i j v q; exact ⟨d, h1, h2.mono ex⟩
    · rw [h] at t; cases t
  · rw [hn b (hX b hb), if_pos (.inl hb)]
  · rw [hn b h1]; split
    · rfl
    · exact h2
  · cases q : F a with
    | some u =>
      rcases hin a u q with ⟨z, _⟩ | ⟨z, _⟩
      · rw [h] at z; cases z; exact hs a _ q
      · have := (w.d a).elim id fun y => by rw [z] at y; cases y
        rw [h] at this; cases this
    | none =>
      rw [hn a q, if_neg]
      · exact h
      · rintro (z | z | ⟨u, z1, z2⟩)
        · exact hx z
        · obtain ⟨u, hu⟩ := Option.isSome_iff_exists.mp z
          have e1 : jn (ntF F) (dkF F H) a = some u := by
            rw [jn_r (none_of_ex nt_ex q)]; exact hu
          have := e _ _ e1
          rw [h] at this; cases this
          exact hi (dkF_o w0 hu).2.2
        · rw [h] at z1; cases z1
          cases o with
          | ins C dx fs => cases m
          | _ => cases z2
end
section
variable {K : PySem.W.Frag} {a0 : Addr} {G : Hp} {Γ : Env} {σ : L2.St} {H F : Hp}
theorem RelO.borrow (r : RelO K a0 G Γ σ H F) : ∃ Fc G1, Ex G G1 ∧ Wd K Fc G1 H ∧ (∀ v d, Rp K F v d → ntD d = true → Rp K Fc v d) ∧ (∀ i xs, gt Γ i = .o xs → ntA xs = true → ∃ p, σ[i]? = some (some (.ref p)) ∧ Rp K Fc (.ref p) (.lst xs)) ∧
    ∀ F' H', Ex Fc F' → (Wd K F' G1 H' → ∃ F'', Ex F F'' ∧ RelO K a0 G Γ σ H' F'' ∧ ∀ a o, F' a = some o → muO o = false → ¬ isTw o → F'' a = some o) ∧
      ∀ p o, G1 p = none → Wd K F' (upd G1 p o) H' → ∃ F'', G p = none ∧ Ex F F'' ∧ RelO K a0 (upd G p o) Γ σ H' F'' ∧ ∀ a o, F' a = some o → muO o = false → ¬ isTw o → F'' a = some o := by
  obtain ⟨O, ad, x⟩ := r
  have w1 := x.wd.hide
  have fo1 : ∀ b, jn (ntF F) (dkF F H) b = none ∨ O b = none := fun b => by
    cases q : jn (ntF F) (dkF F H) b with
    | none => exact .inl rfl
    | some o =>
      refine .inr ?_
      rcases hF_o x.wd q with ⟨h1, _⟩ | ⟨h1, h2⟩
      · exact (x.fo b).elim (fun z => by rw [h1] at z; cases z) id
      · cases z : O b with
        | none => rfl
        | some u =>
          have := x.o b u z
          rw [h1] at this; cases this
          have := x.om b _ z
          rw [h2.mu] at this; cases this
  have go1 : ∀ b, jn G (twF F) b = none ∨ O b = none := fun b => by
    cases q : O b with
    | none => exact .inr rfl
    | some u => exact .inl (jn_none.mpr ⟨(x.go b).elim id (fun z => by rw [q] at z; cases z), twF_n ((x.fo b).elim id fun z => by rw [q] at z; cases z)⟩)
  have exO : Ex O (jn (jn (ntF F) (dkF F H)) O) := fun b o h => by rw [jn_r ((fo1 b).elim id fun q => by rw [h] at q; cases q)]; exact h
  have exF : ∀ a o, F a = some o → tws o = false → jn (jn (ntF F) (dkF F H)) O a = some o := fun a o h t => jn_l (hide_e F _ a o h t)
  refine ⟨jn (jn (ntF F) (dkF F H)) O, jn G (twF F), ex_jn_l, ⟨ex_jn w1.f x.o, w1.g, fun b => (w1.d b).elim (fun q => (go1 b).elim .inr fun q2 => .inl (jn_none.mpr ⟨q, q2⟩)) .inr, w1.tb.toE (fun _ _ q _ => q) ex_jn_l (nf_jn x.ol x.o) w1.tb.ng⟩,
    fun v d h n => h.cutT exF n, fun i xs q n => ?_, fun F' H' e => ?_⟩
  · obtain ⟨h1, vs, h2, h3⟩ := x.ow i xs q
    exact ⟨ad i, h1, .lst (exO _ _ h2) (h3.cutT exF n)⟩
  · have e1 : Ex (jn (ntF F) (dkF F H)) F' := Ex.trans ex_jn_l e
    have core : ∀ GG GR : Hp, Wd K F' GG H' → Ex (twF F) GG → Ex GR GG → (∀ b, F b = none ∨ GR b = none) → (∀ b, GR b = none ∨ O b = none) → ∃ F'', Ex F F'' ∧ RelO K a0 GR Γ σ H' F'' ∧ ∀ a o, F' a = some o → muO o = false → ¬ isTw o → F'' a = some o := fun GG GR w eg er dr gr => by
      obtain ⟨F'', h1, h2, h3, _, h4⟩ := x.wd.back e1 w eg er dr (fun b => (O b).isSome = true) fun b hb => (x.fo b).elim id fun z => by rw [z] at hb; cases hb
      refine ⟨F'', h1, ⟨O, ad, ⟨h2, Ex.trans exO (Ex.trans e w.f), fun b => ?_, gr, fun i d q => ?_, fun i q => ?_, x.inj, x.z, x.len, x.ol⟩⟩, fun a o q m n => h4 a o q m n fun hO => ?_⟩
      · cases q : O b with
        | none => exact .inr rfl
        | some u => exact .inl (h3 b (by rw [q]; rfl))
      · obtain ⟨v, a1, a2⟩ := x.v i d q; exact ⟨v, a1, a2.mono h1⟩
      · obtain ⟨a1, vs, a2, a3⟩ := x.own i q; exact ⟨a1, vs, a2, a3.mono h1⟩
      · obtain ⟨u, hu⟩ := Option.isSome_iff_exists.mp hO
        have := e _ _ (exO _ _ hu)
        rw [q] at this; cases this
        rw [x.om a _ hu] at m; cases m
    refine ⟨fun w => core _ G w (tw_g x.wd) ex_jn_l (fun b => x.wd.d b) x.go, fun p o hp w => ?_⟩
    obtain ⟨g1, g2⟩ := jn_none.mp hp
    have hF' : F' p = none := (w.d p).elim id fun q => by rw [upd_same] at q; cases q
    have hF : F p = none := by
      cases q : F p with
      | none => rfl
      | some u =>
        cases t : tws u with
        | true => rw [twF_i q t] at g2; cases g2
        | false => rw [e _ _ (exF p u q t)] at hF'; cases hF'
    obtain ⟨F'', h1, h2, h3⟩ := core _ (upd G p o) w (Ex.trans (tw_g x.wd) (ex_new hp)) (ex_upd2 ex_jn_l) (fun b => by
      by_cases hb : b = p
      · subst hb; exact .inl hF
      · rw [upd_ne hb]; exact x.wd.d b) (fun b => by
      by_cases hb : b = p
      · subst hb; exact .inr (none_of_ex exO (none_of_ex e hF'))
      · rw [upd_ne hb]; exact x.go b)
    exact ⟨F'', g1, h1, h2, h3⟩
end
def SelfI (K : PySem.W.Frag) (a0 : Addr) (F S : Hp) (s : Sl) (v0 : Option (Option V)) : Prop := (∀ b o, S b = some o → b = a0 ∨ nfO o = true) ∧ ∀ c ns ds w, s = .i c ns ds w → v0 = some (some (.ref a0)) ∧ ∃ dx vs, ns.length = vs.length ∧ RpA K F vs ds ∧ (match w with
  | none => S a0 = some (.ins (He.ga K c) dx (ns.zip vs))
  | some (f, xs) => ∃ q ws, F a0 = some (.ins (He.ga K c) dx (ns.zip vs ++ [(f, .ref q)])) ∧ S q = some (.lst ws) ∧ RpA K F ws xs)
theorem SelfI.to {K : PySem.W.Frag} {a0 : Addr} {F F' S : Hp} {s s' : Sl} {v v' : Option (Option V)} (h : SelfI K a0 F S s v) (e : Ex F F') (k : ∀ c ns ds w, s' = .i c ns ds w → s = s' ∧ v = v') : SelfI K a0 F' S s' v' := ⟨h.1, fun c ns ds w q => by
  obtain ⟨k1, k2⟩ := k c ns ds w q
  obtain ⟨h1, dx, vs, h2, h3, h4⟩ := h.2 c ns ds w (k1.trans q)
  refine ⟨k2 ▸ h1, dx, vs, h2, h3.mono e, ?_⟩
  cases w with
  | none => exact h4
  | some p =>
    obtain ⟨f, xs⟩ := p
    obtain ⟨q, ws, a2, a3, a4⟩ := h4
    exact ⟨q, ws, e _ _ a2, a3, a4.mono e⟩⟩
def Rel (K : PySem.W.Frag) (a0 : Addr) (G : Hp) (Γ : Env) (σ : L2.St) (H F : Hp) : Prop := ∃ S, SelfI K a0 F S (gt Γ 0) (σ[0]?) ∧ (∀ b, G b = none ∨ S b = none) ∧ RelO K a0 (jn G S) Γ σ H F
theorem jn_upd {G S : Hp} {p : Addr} {o : HO} : jn (upd G p o) S = upd (jn G S) p o := by
  funext b
  by_cases h : b = p
  · subst h; rw [upd_same, jn_l upd_same]
  · rw [upd_ne h]; unfold jn; rw [upd_ne h]
theorem sg_new {G S : Hp} {p : Addr} {o : HO} (d : ∀ b, G b = none ∨ S b = none) (h : S p = none) : ∀ b, upd G p o b = none ∨ S b = none := dj_upd d h
theorem sg_old {G S : Hp} {p : Addr} {o : HO} (h : G p = none) (d : ∀ b, upd G p o b = none ∨ S b = none) : S p = none ∧ ∀ b, G b = none ∨ S b = none :=
  ⟨(d p).elim (fun q => by rw [upd_same] at q; cases q) id, fun b => (d b).elim (fun q => .inl (none_of_ex (ex_new h) q)) .inr⟩
theorem ex_jn_r {A B : Hp} (d : ∀ b, A b = none ∨ B b = none) : Ex B (jn A B) := fun b o h => by
  rw [jn_r ((d b).elim id fun q => by rw [h] at q; cases q)]; exact h
theorem Wd.less {K : PySem.W.Frag} {F G G' H : Hp} (e : Ex G G') (w : Wd K F G' H) : Wd K F G H := ⟨w.f, Ex.trans e w.g, fun b => (w.d b).elim .inl fun q => .inr (none_of_ex e q), w.tb.toF (fun _ _ q _ => q) fun b o q => w.tb.ng b o (e b o q)⟩
theorem gt0_set {Γ : Env} {i : Nat} {s : Sl} (h : ∀ c ns ds w, s ≠ .i c ns ds w) {σ σ' : L2.St} (hσ : ∀ j, j ≠ i → σ'[j]? = σ[j]?) : ∀ c ns ds w, gt (Γ.set i s) 0 = .i c ns ds w → gt Γ 0 = gt (Γ.set i s) 0 ∧ σ[0]? = σ'[0]? := fun c ns ds w q => by
  have hi : i ≠ 0 := fun z => by
    subst z
    cases Γ with
    | nil => cases q
    | cons t Γ => exact h c ns ds w q
  exact ⟨(gt_set_ne (Ne.symm hi)).symm, (hσ 0 (Ne.symm hi)).symm⟩
section
variable {K : PySem.W.Frag} {a0 : Addr} {G : Hp} {Γ : Env} {σ : L2.St} {H F : Hp}
theorem Rel.wd (r : Rel K a0 G Γ σ H F) : Wd K F G H := let ⟨_, _, _, x⟩ := r; x.wd.less ex_jn_l
theorem Rel.getv (r : Rel K a0 G Γ σ H F) {i : Nat} {d : D} (h : gt Γ i = .v d) : ∃ v, σ[i]? = some (some v) ∧ Rp K F v d := let ⟨_, _, _, x⟩ := r; x.getv h
theorem Rel.geto (r : Rel K a0 G Γ σ H F) {i : Nat} {xs : List D} (h : gt Γ i = .o xs) : ∃ p vs, σ[i]? = some (some (.ref p)) ∧ H p = some (.lst vs) ∧ RpA K F vs xs ∧ F p = none ∧ G p = none := by
  obtain ⟨S, _, _, x⟩ := r
  obtain ⟨p, vs, h1, h2, h3, h4, h5⟩ := x.geto h
  exact ⟨p, vs, h1, h2, h3, h4, (jn_none.mp h5).1⟩
theorem Rel.getm (r : Rel K a0 G Γ σ H F) {i : Nat} {k : Mk} {ds : List D} (h : gt Γ i = .m k ds) : ∃ p o vs, σ[i]? = some (some (.ref p)) ∧ H p = some o ∧ k.Is K F o vs ∧ k.n = vs.length ∧ RpA K F vs ds ∧ F p = none ∧ G p = none := by
  obtain ⟨S, _, _, x⟩ := r
  obtain ⟨p, o, vs, h1, h2, hi, h3, h4, h5, h6⟩ := x.getm h
  exact ⟨p, o, vs, h1, h2, hi, h3, h4, h5, (jn_none.mp h6).1⟩
theorem Rel.newF {p : Addr} {o : HO} (r : Rel K a0 G Γ σ H F) (h : H p = none) (ho : nfO o = true := by rfl) : Ex F (upd F p o) ∧ Rel K a0 G Γ σ (upd H p o) (upd F p o) := by
  obtain ⟨S, si, d, x⟩ := r
  obtain ⟨e, x'⟩ := x.newF h ho
  exact ⟨e, S, si.to e fun _ _ _ _ _ => ⟨rfl, rfl⟩, d, x'⟩
theorem Rel.newT' {p : Addr} {o : HO} (r : Rel K a0 G Γ σ H F) (h : H p = none) (ho : muO o = true) : G p = none ∧ Rel K a0 (upd G p o) Γ σ (upd H p o) F := by
  obtain ⟨S, si, d, x⟩ := r
  obtain ⟨e, x'⟩ := x.newT' h ho
  obtain ⟨g1, g2⟩ := jn_none.mp e
  exact ⟨g1, S, si, sg_new d g2, by rw [jn_upd]; exact x'⟩
theorem Rel.newT {p : Addr} {vs : List V} (r : Rel K a0 G Γ σ H F) (h : H p = none) : G p = none ∧ Rel K a0 (upd G p (.lst vs)) Γ σ (upd H p (.lst vs)) F := r.newT' h rfl
theorem Rel.frzT {p : Addr} {o : HO} (r : Rel K a0 (upd G p o) Γ σ H F) (h : G p = none) (ho : nfO o = true := by rfl) : Ex F (upd F p o) ∧ Rel K a0 G Γ σ H (upd F p o) := by
  obtain ⟨S, si, d, x⟩ := r
  obtain ⟨g, d'⟩ := sg_old h d
  rw [jn_upd] at x
  obtain ⟨e, x'⟩ := x.frzT (jn_none.mpr ⟨h, g⟩) ho
  exact ⟨e, S, si.to e fun _ _ _ _ _ => ⟨rfl, rfl⟩, d', x'⟩
theorem Rel.pinT {p : Addr} {o o' : HO} (r : Rel K a0 (upd G p o) Γ σ H F) (h : G p = none) (ho : nfO o' = true) : Ex F (upd F p o') ∧ Rel K a0 G Γ σ (upd H p o') (upd F p o') := by
  obtain ⟨S, si, d, x⟩ := r
  obtain ⟨g, d'⟩ := sg_old h d
  rw [jn_upd] at x
  obtain ⟨e, x'⟩ := x.pinT (jn_none.mpr ⟨h, g⟩) ho
  exact ⟨e, S, si.to e fun _ _ _ _ _ => ⟨rfl, rfl⟩, d', x'⟩
theorem set_get {σ : L2.St} {i : Nat} {v : Option V} : ∀ j, j ≠ i → (σ.set i v)[j]? = σ[j]? := fun j h => List.getElem?_set_ne (Ne.symm h)
theorem Rel.setv {i : Nat} {v : V} {d : D} (r : Rel K a0 G Γ σ H F) (h : Rp K F v d) : Rel K a0 G (Γ.set i (.v d)) (σ.set i (some v)) H F := by
  obtain ⟨S, si, dd, x⟩ := r
  exact ⟨S, si.to (Ex.refl F) (gt0_set (fun _ _ _ _ z => by cases z) set_get), dd, x.setv h⟩
theorem Rel.setS {i : Nat} {p : Addr} {o : HO} {s : Sl} (hi : 0 < i) (hG : G p = none) (r : Rel K a0 (upd G p o) Γ σ H F) (h : OwS K F o s) : Rel K a0 G (Γ.set i s) (σ.set i (some (.ref p))) H F := by
  obtain ⟨S, si, d, x⟩ := r
  obtain ⟨g, d'⟩ := sg_old hG d
  rw [jn_upd] at x
  exact ⟨S, si.to (Ex.refl F) (gt0_set (fun _ _ _ _ z => by rw [z] at h; exact h) set_get), d', RelO.setS hi (jn_none.mpr ⟨hG, g⟩) x h⟩
theorem Rel.seto {i : Nat} {p : Addr} {vs : List V} {xs : List D} (hi : 0 < i) (hG : G p = none) (r : Rel K a0 (upd G p (.lst vs)) Γ σ H F) (h : RpA K F vs xs) : Rel K a0 G (Γ.set i (.o xs)) (σ.set i (some (.ref p))) H F := Rel.setS hi hG r ⟨vs, rfl, h⟩
theorem Rel.mutS {i : Nat} {p : Addr} {o : HO} {s' : Sl} (r : Rel K a0 G Γ σ H F) (g : ownd (gt Γ i) = true) (hp : σ[i]? = some (some (.ref p))) (h : OwS K F o s') (hz : ∀ xs, s' = .o xs → ∃ ys, gt Γ i = .o ys) : Rel K a0 G (Γ.set i s') σ (upd H p o) F := by
  obtain ⟨S, si, d, x⟩ := r
  exact ⟨S, si.to (Ex.refl F) (gt0_set (fun _ _ _ _ z => by rw [z] at h; exact h) fun _ _ => rfl), d, x.mutS g hp h hz⟩
theorem Rel.mut {i : Nat} {p : Addr} {vs : List V} {xs xs' : List D} (r : Rel K a0 G Γ σ H F) (g : gt Γ i = .o xs) (hp : σ[i]? = some (some (.ref p))) (h : RpA K F vs xs') : Rel K a0 G (Γ.set i (.o xs')) σ (upd H p (.lst vs)) F := r.mutS (ownd_o g) hp ⟨vs, rfl, h⟩ fun _ _ => ⟨xs, g⟩
theorem Rel.frz {i : Nat} {xs : List D} (r : Rel K a0 G Γ σ H F) (g : gt Γ i = .o xs) : ∃ p vs, σ[i]? = some (some (.ref p)) ∧ Ex F (upd F p (.lst vs)) ∧ RpA K F vs xs ∧ Rel K a0 G (Γ.set i (.v (.lst xs))) σ H (upd F p (.lst vs)) := by
  obtain ⟨S, si, dd, x⟩ := r
  obtain ⟨p, vs, h1, h2, h3, h4⟩ := x.frz g
  exact ⟨p, vs, h1, h2, h3, S, si.to h2 (gt0_set (fun _ _ _ _ z => by cases z) fun _ _ => rfl), dd, h4⟩
theorem Rel.split (r : Rel K a0 G Γ σ H F) : ∃ G', Ex G G' ∧ Wd K F G' H ∧ (∀ F' H', Ex F F' → Wd K F' G' H' → Rel K a0 G Γ σ H' F') ∧
    ∀ F' H' p o, Ex F F' → G' p = none → Wd K F' (upd G' p o) H' → G p = none ∧ Rel K a0 (upd G p o) Γ σ H' F' := by
  obtain ⟨S, si, d, x⟩ := r
  obtain ⟨G', h1, h2, h3, h4⟩ := x.split
  refine ⟨G', Ex.trans ex_jn_l h1, h2, fun F' H' e w => ⟨S, si.to e fun _ _ _ _ _ => ⟨rfl, rfl⟩, d, h3 F' H' e w⟩, fun F' H' p o e g w => ?_⟩
  obtain ⟨g1, x'⟩ := h4 F' H' p o e g w
  obtain ⟨g2, g3⟩ := jn_none.mp g1
  exact ⟨g2, S, si.to e fun _ _ _ _ _ => ⟨rfl, rfl⟩, sg_new d g3, by rw [jn_upd]; exact x'⟩
theorem Rel.io {i : Nat} {xs : List D} (r : Rel K a0 G Γ σ H F) (g : gt Γ i = .o xs) : ∃ p ws G', σ[i]? = some (some (.ref p)) ∧ Ex G G' ∧ Wd K F G' H ∧ F p = none ∧ G' p = none ∧ H p = some (.lst ws) ∧ RpA K F ws xs ∧
    (∀ F' H' ws' xs', Ex F F' → Wd K F' G' H' → F' p = none → H' p = some (.lst ws') → RpA K F' ws' xs' → Rel K a0 G (Γ.set i (.o xs')) σ H' F') ∧
    ∀ F' H' ws' xs' q o, Ex F F' → G' q = none → q ≠ p → Wd K F' (upd G' q o) H' → F' p = none → H' p = some (.lst ws') → RpA K F' ws' xs' → G q = none ∧ Rel K a0 (upd G q o) (Γ.set i (.o xs')) σ H' F' := by
  obtain ⟨S, si, d, x⟩ := r
  obtain ⟨p, ws, G', h1, h2, h3, h4, h5, h6, h7, h8, h9⟩ := x.io g
  refine ⟨p, ws, G', h1, Ex.trans ex_jn_l h2, h3, h4, h5, h6, h7, fun F' H' ws' xs' e w f1 f2 f3 => ⟨S, si.to e (gt0_set (fun _ _ _ _ z => by cases z) fun _ _ => rfl), d, h8 F' H' ws' xs' e w f1 f2 f3⟩, fun F' H' ws' xs' q o e g' ne w f1 f2 f3 => ?_⟩
  obtain ⟨g1, x'⟩ := h9 F' H' ws' xs' q o e g' ne w f1 f2 f3
  obtain ⟨g2, g3⟩ := jn_none.mp g1
  exact ⟨g2, S, si.to e (gt0_set (fun _ _ _ _ z => by cases z) fun _ _ => rfl), sg_new d g3, by rw [jn_upd]; exact x'⟩
theorem Rel.borrow (r : Rel K a0 G Γ σ H F) : ∃ Fc G', Ex G G' ∧ Wd K Fc G' H ∧ (∀ v d, Rp K F v d → ntD d = true → Rp K Fc v d) ∧ (∀ i xs, gt Γ i = .o xs → ntA xs = true → ∃ p, σ[i]? = some (some (.ref p)) ∧ Rp K Fc (.ref p) (.lst xs)) ∧
    ∀ F' H', Ex Fc F' → (Wd K F' G' H' → ∃ F'', Ex F F'' ∧ Rel K a0 G Γ σ H' F'' ∧ ∀ a o, F' a = some o → muO o = false → ¬ isTw o → F'' a = some o) ∧
      ∀ p o, G' p = none → Wd K F' (upd G' p o) H' → ∃ F'', G p = none ∧ Ex F F'' ∧ Rel K a0 (upd G p o) Γ σ H' F'' ∧ ∀ a o, F' a = some o → muO o = false → ¬ isTw o → F'' a = some o := by
  obtain ⟨S, si, d, x⟩ := r
  obtain ⟨Fc, G1, h0, h2, hc, h3, h4⟩ := x.borrow
  refine ⟨Fc, G1, Ex.trans ex_jn_l h0, h2, hc, h3, fun F' H' e => ⟨fun w => ?_, fun p o g w => ?_⟩⟩
  · obtain ⟨F'', a1, a2, a3⟩ := (h4 F' H' e).1 w
    exact ⟨F'', a1, ⟨S, si.to a1 fun _ _ _ _ _ => ⟨rfl, rfl⟩, d, a2⟩, a3⟩
  · obtain ⟨F'', g', a1, a2, a3⟩ := (h4 F' H' e).2 p o g w
    obtain ⟨g2, g3⟩ := jn_none.mp g'
    exact ⟨F'', g2, a1, ⟨S, si.to a1 fun _ _ _ _ _ => ⟨rfl, rfl⟩, sg_new d g3, by rw [jn_upd]; exact a2⟩, a3⟩
end
theorem jn_e {G : Hp} : jn G (fun _ => none) = G := by
  funext b
  unfold jn
  cases G b <;> rfl
theorem Rel.ofO {K : PySem.W.Frag} {a0 : Addr} {G : Hp} {Γ : Env} {σ : L2.St} {H F : Hp} (h : ∀ c ns ds w, gt Γ 0 ≠ .i c ns ds w) (x : RelO K a0 G Γ σ H F) : Rel K a0 G Γ σ H F :=
  ⟨fun _ => none, ⟨fun _ _ z => (by cases z), fun c ns ds w q => absurd q (h c ns ds w)⟩, fun _ => .inr rfl, by rw [jn_e]; exact x⟩
theorem Rel.len {K : PySem.W.Frag} {a0 : Addr} {G : Hp} {Γ : Env} {σ : L2.St} {H F : Hp} (r : Rel K a0 G Γ σ H F) : Γ.length = σ.length := let ⟨_, _, _, _, _, x⟩ := r; x.len
end Rg
namespace Rg
open PySem L2
def Nw.d : Nw → D
  | .v d => d
  | .o xs => .lst xs
inductive FsA (K : PySem.W.Frag) (F : Hp) : List (Str × V) → List (Str × D) → Prop
  | nil : FsA K F [] []
  | cons {n : Str} {v : V} {d : D} {gs : List (Str × V)} {fs : List (Str × D)} : Rp K F v d → FsA K F gs fs → FsA K F ((n, v) :: gs) ((n, d) :: fs)
def XOk (K : PySem.W.Frag) (mg : Str → Option Value) (G F H : Hp) (c : Str) (fs : List (Str × D)) (ca dd : Addr) : Prop :=
  Wd K F G H ∧ mg c = some (.ref ca) ∧ ∃ gs, H dd = some (.xd gs) ∧ FsA K F gs fs
section
variable (K : PySem.W.Frag) (mg : Str → Option Value) (a0 : Addr) (G F : Hp) (σ : L2.St) (W : WX)
def OkG {α : Type} (P : α → Prop) : R α → Prop
  | .ok a => P a
  | .exc c fs => ∀ ca dd σ H F', Ex F F' → XOk K mg G F' H c fs ca dd → W (.ref ca) (some dd) σ H
  | .bad => False
def PX (Q : VK) : BV × Env → Prop
  | (.v d, Γ) => ∀ v H F', Ex F F' → Rel K a0 G Γ σ H F' → Rp K F' v d → Q v H
  | (.o xs, Γ) => ∀ p vs H F', Ex F F' → G p = none → Rel K a0 (upd G p (.lst vs)) Γ σ H F' → RpA K F' vs xs → Q (.ref p) H
  | (.s i, Γ) => ∀ v H F', Ex F F' → Rel K a0 G Γ σ H F' → σ[i]? = some (some v) → Q v H
def BOk (F : Hp) (v : V) : BV → Prop
  | .v d => Rp K F v d
  | .s i => σ[i]? = some (some v)
  | .o _ => False
end
inductive BsA (K : PySem.W.Frag) (σ : L2.St) (F : Hp) : List V → List BV → Prop
  | nil : BsA K σ F [] []
  | cons {v : V} {b : BV} {vs : List V} {bs : List BV} : BOk K σ F v b → BsA K σ F vs bs → BsA K σ F (v :: vs) (b :: bs)
section
variable (K : PySem.W.Frag) (mg : Str → Option Value) (a0 : Addr) (G F : Hp) (σ : L2.St) (W : WX)
def PAs (Q : List V → Hp → Prop) : List BV × Env → Prop := fun y => ∀ vs H F', Ex F F' → Rel K a0 G y.2 σ H F' → BsA K σ F' vs y.1 → Q vs H
def PTs (Q : Bool → Hp → Prop) : Bool × Env → Prop := fun y => ∀ H F', Ex F F' → Rel K a0 G y.2 σ H F' → Q y.1 H
end
section
variable {K : PySem.W.Frag} {mg : Str → Option Value} {a0 : Addr} {G F F1 : Hp} {σ : L2.St} {W : WX}
theorem okG_bind {α β : Type} {P : β → Prop} {P' : α → Prop} {r : R α} {f : α → R β} (h : OkG K mg G F W P (r.bind f)) (k : ∀ a, r = .ok a → OkG K mg G F W P (f a) → P' a) : OkG K mg G F W P' r := by
  cases r with
  | ok a => exact k a rfl h
  | exc c fs => exact h
  | bad => exact h
theorem okG_mono {α : Type} {P P' : α → Prop} {r : R α} (e : Ex F F1) (h : OkG K mg G F W P r) (k : ∀ a, r = .ok a → P a → P' a) : OkG K mg G F1 W P' r := by
  cases r with
  | ok a => exact k a rfl h
  | exc c fs => exact fun ca dd σ H F' e' => h ca dd σ H F' (Ex.trans e e')
  | bad => exact h
theorem BOk.mono {v : V} {b : BV} (e : Ex F F1) (h : BOk K σ F v b) : BOk K σ F1 v b := by
  cases b with
  | v d => exact Rp.mono e h
  | s i => exact h
  | o xs => exact h
theorem BsA.mono (e : Ex F F1) : ∀ {vs : List V} {bs : List BV}, BsA K σ F vs bs → BsA K σ F1 vs bs
  | _, _, .nil => .nil
  | _, _, .cons h a => .cons (h.mono e) (BsA.mono e a)
theorem PX_fz {Q : VK} {b : BV} {Γ : Env} (h : ∀ v H F', Ex F F' → Rel K a0 G Γ σ H F' → BOk K σ F' v b.fz → Q v H) : PX K a0 G F σ Q (b, Γ) := by
  cases b with
  | v d => exact h
  | s i => exact h
  | o xs =>
    intro p vs H F' e hG r hv
    obtain ⟨e2, r2⟩ := r.frzT hG
    exact h (.ref p) H _ (Ex.trans e e2) r2 (.lst upd_same (hv.mono e2))
theorem PX.mono {Q : VK} {x : BV × Env} (e : Ex F F1) (h : PX K a0 G F σ Q x) : PX K a0 G F1 σ Q x := by
  obtain ⟨b, Γ⟩ := x
  cases b with
  | v d => exact fun v H F' e' => h v H F' (Ex.trans e e')
  | s i => exact fun v H F' e' => h v H F' (Ex.trans e e')
  | o xs => exact fun p vs H F' e' => h p vs H F' (Ex.trans e e')
end
def SdX (K : PySem.W.Frag) (mg : Str → Option Value) (W : WX) (t : TE) (m : Env → R (BV × Env)) : Prop :=
  ∀ a0 G Γ σ H F Q, Rel K a0 G Γ σ H F → OkG K mg G F W (PX K a0 G F σ Q) (m Γ) → t σ H Q
def SdA (K : PySem.W.Frag) (mg : Str → Option Value) (W : WX) (t : TA) (m : Env → R (List BV × Env)) : Prop :=
  ∀ a0 G Γ σ H F Q, Rel K a0 G Γ σ H F → OkG K mg G F W (PAs K a0 G F σ Q) (m Γ) → t σ H Q
def SdT (K : PySem.W.Frag) (mg : Str → Option Value) (W : WX) (t : TT) (m : Env → R (Bool × Env)) : Prop :=
  ∀ a0 G Γ σ H F Q, Rel K a0 G Γ σ H F → OkG K mg G F W (PTs K a0 G F σ Q) (m Γ) → t σ H Q
def SX (X : Cx) (W : WX) (e : Expr) (m : Env → R (BV × Env)) : Prop := ∃ t, PE X e t ∧ SdX X.K X.mg W t m
def SA (X : Cx) (W : WX) (es : List Expr) (m : Env → R (List BV × Env)) : Prop := ∃ t, PA X es t ∧ SdA X.K X.mg W t m
def ST (X : Cx) (W : WX) (e : Expr) (m : Env → R (Bool × Env)) : Prop := ∃ t, PT X e t ∧ SdT X.K X.mg W t m
def SW (X : Cx) (W : WX) (e : Expr) (m : Env → R (Bool × Env)) : Prop := ∃ t, PW X e t ∧ SdT X.K X.mg W t m
def Rh (K : PySem.W.Frag) (F H : Hp) (v : V) (d : D) : Prop := (∃ p vs ds, v = .ref p ∧ d = .lst ds ∧ H p = some (.lst vs) ∧ RpA K F vs ds) ∨ Rp K F v d
inductive RhA (K : PySem.W.Frag) (F H : Hp) : List V → List D → Prop
  | nil : RhA K F H [] []
  | cons {v : V} {vs : List V} {d : D} {ds : List D} : Rh K F H v d → RhA K F H vs ds → RhA K F H (v :: vs) (d :: ds)
section
variable {K : PySem.W.Frag} {F H : Hp} {v : V}
theorem Rh.lst {ds : List D} (e : Ex F H) (h : Rh K F H v (.lst ds)) : ∃ p vs, v = .ref p ∧ H p = some (.lst vs) ∧ RpA K F vs ds := by
  rcases h with ⟨p, vs, ds', rfl, q, h1, h2⟩ | h
  · cases q; exact ⟨p, vs, rfl, h1, h2⟩
  · cases h with
    | lst h1 h2 => exact ⟨_, _, rfl, e _ _ h1, h2⟩
theorem Rh.rp {d : D} (h : Rh K F H v d) (n : ∀ ds, d ≠ .lst ds) : Rp K F v d := by
  rcases h with ⟨p, vs, ds', rfl, q, h1, h2⟩ | h
  · exact absurd q (n _)
  · exact h
theorem Rh.tup {ds : List D} (e : Ex F H) (h : Rh K F H v (.tup ds)) : ∃ p vs, v = .ref p ∧ SqT K H p vs ∧ RpA K F vs ds := by
  have h := h.rp (fun _ z => by cases z)
  cases h with
  | tup h1 h2 => exact ⟨_, _, rfl, Evl.ex_t e h1, h2⟩
theorem Rh.int {i : Int} (h : Rh K F H v (.int i)) : v = .int i := by
  have h := h.rp (fun _ z => by cases z)
  cases h; rfl
theorem Rh.bl {i : Bool} (h : Rh K F H v (.bl i)) : v = .bl i := by
  have h := h.rp (fun _ z => by cases z)
  cases h; rfl
theorem Rh.str {i : Str} (h : Rh K F H v (.str i)) : v = .str i := by
  have h := h.rp (fun _ z => by cases z)
  cases h; rfl
theorem Rh.ty {n : String} (h : Rh K F H v (.ty n)) : v = .ty n := by
  have h := h.rp (fun _ z => by cases z)
  cases h; rfl
theorem Rh.non (h : Rh K F H v .non) : v = .non := by
  have h := h.rp (fun _ z => by cases z)
  cases h; rfl
theorem Rh.scr {ns : List Int} (e : Ex F H) (h : Rh K F H v (.scr ns)) : ∃ p, v = .ref p ∧ SqL K H p (ns.map V.int) := by
  have h := h.rp (fun _ z => by cases z)
  cases h with
  | scr _ h1 => exact ⟨_, rfl, Evl.ex_l e h1⟩
end
def Yld (K : PySem.W.Frag) (F H : Hp) (nw : Nw) (Q : VK) : Prop := match nw with
  | .v d => (∀ v, Rp K F v d → Q v H) ∧ ∀ ds p vs, d = .tup ds → H p = none → RpA K F vs ds → Q (.ref p) (upd H p (.tup vs))
  | .o xs => ∀ p vs, H p = none → RpA K F vs xs → Q (.ref p) (upd H p (.lst vs))
section
variable {K : PySem.W.Frag} {mg : Str → Option Value} {a0 : Addr} {G F F1 H : Hp} {Γ : Env} {σ : L2.St} {W : WX}
theorem Rel.rs {v : V} {b : BV} {d : D} (r : Rel K a0 G Γ σ H F) (h : BOk K σ F v b) (e : rs Γ b = some d) : Rh K F H v d := by
  cases b with
  | v d' => cases e; exact .inr h
  | o xs => exact h.elim
  | s i =>
    have h : σ[i]? = some (some v) := h
    unfold Rg.rs at e
    dsimp only at e
    cases q : gt Γ i with
    | no => rw [q] at e; cases e
    | m _ _ => rw [q] at e; cases e
    | i _ _ _ _ => rw [q] at e; cases e
    | v d' =>
      rw [q] at e; cases e
      obtain ⟨v', h1, h2⟩ := r.getv q
      rw [h1] at h; cases h
      exact .inr h2
    | o xs =>
      rw [q] at e; cases e
      obtain ⟨p, vs, h1, h2, h3, _⟩ := r.geto q
      rw [h1] at h; cases h
      exact .inl ⟨p, vs, xs, rfl, rfl, h2, h3⟩
theorem Rel.rsA (r : Rel K a0 G Γ σ H F) : ∀ {vs : List V} {bs : List BV} {ds : List D}, BsA K σ F vs bs → rsA Γ bs = some ds → RhA K F H vs ds
  | _, _, _, .nil, e => by cases e; exact .nil
  | _, _, _, .cons (b := b) (bs := bs) h a, e => by
    unfold Rg.rsA at e
    cases q : Rg.rs Γ b with
    | none => rw [q] at e; cases e
    | some d =>
      rw [q] at e
      cases q2 : Rg.rsA Γ bs with
      | none => rw [Option.bind_some, q2] at e; cases e
      | some ds =>
        rw [Option.bind_some, q2] at e; cases e
        exact .cons (r.rs h q) (r.rsA a q2)
theorem Rel.yld {nw : Nw} {Q : VK} (r : Rel K a0 G Γ σ H F1) (e : Ex F F1) (h : PX K a0 G F σ Q (nw.bv, Γ)) : Yld K F1 H nw Q := by
  cases nw with
  | v d =>
    refine ⟨fun v hv => h v H F1 e r hv, fun ds p vs hd hp hvs => ?_⟩
    subst hd
    obtain ⟨e2, r2⟩ := r.newF (o := .tup vs) hp
    exact h (.ref p) _ _ (Ex.trans e e2) r2 (.tup (.inl (.inl upd_same)) (hvs.mono e2))
  | o xs =>
    intro p vs hp hvs
    obtain ⟨hG, r2⟩ := r.newT (vs := vs) hp
    exact h p vs _ F1 e hG r2 hvs
theorem sdA_nil : SdA K mg W tNil mA0 := fun a0 G Γ σ H F Q r h => h [] H F (Ex.refl F) r .nil
theorem sdA_cons {t : TE} {tr : TA} {m : Env → R (BV × Env)} {mr : Env → R (List BV × Env)} (ht : SdX K mg W t m) (hr : SdA K mg W tr mr) : SdA K mg W (tCons t tr) (mA1 m mr) := by
  intro a0 G Γ σ H F Q r h
  refine ht a0 G Γ σ H F _ r (okG_bind h fun x _ hx => ?_)
  obtain ⟨b, Γ1⟩ := x
  refine PX_fz fun v H1 F1 e1 r1 hv => ?_
  refine hr a0 G Γ1 σ H1 F1 _ r1 (okG_mono e1 (okG_bind hx fun y _ hy => hy) fun y _ hy => ?_)
  exact fun vs H2 F2 e2 r2 hb => hy (v :: vs) H2 F2 (Ex.trans e1 e2) r2 (.cons (hv.mono e2) hb)
theorem RelO.up {H' : Hp} (r : RelO K a0 G Γ σ H F) (e : Ex H H') : RelO K a0 G Γ σ H' F := by
  obtain ⟨O, ad, x⟩ := r
  exact ⟨O, ad, ⟨⟨Ex.trans x.wd.f e, Ex.trans x.wd.g e, x.wd.d, x.wd.tb.toF (fun b o q _ => e b o q) x.wd.tb.ng⟩, Ex.trans x.o e, x.fo, x.go, x.v, x.own, x.inj, x.z, x.len, x.ol⟩⟩
theorem Rel.up {H' : Hp} (r : Rel K a0 G Γ σ H F) (e : Ex H H') : Rel K a0 G Γ σ H' F := let ⟨S, si, d, x⟩ := r; ⟨S, si, d, x.up e⟩
theorem sdX_BG {t : TE} {ta : TA} {r : List V → Hp → VK → Prop} {bf : List D → Option Nw} {ma : Env → R (List BV × Env)} (ha : SdA K mg W ta ma) (ht : ∀ σ H Q, (ta σ H fun vs H1 => r vs H1 Q) → t σ H Q)
    (hr : ∀ F H vs ds nw Q, Ex F H → RhA K F H vs ds → bf ds = some nw → (∀ H', Ex H H' → Yld K F H' nw Q) → r vs H Q) : SdX K mg W t (mB bf ma) := by
  intro a0 G Γ σ H F Q rel h
  refine ht σ H Q (ha a0 G Γ σ H F _ rel (okG_bind h fun y _ hy => ?_))
  obtain ⟨bs, Γ1⟩ := y
  intro vs H1 F1 e1 r1 hb
  dsimp only at hy
  cases q : rsA Γ1 bs with
  | none => rw [q] at hy; exact hy.elim
  | some ds =>
    rw [q, Option.bind_some] at hy
    cases q2 : bf ds with
    | none => rw [q2] at hy; exact hy.elim
    | some nw =>
      rw [q2] at hy
      exact hr F1 H1 vs ds nw Q r1.wd.f (r1.rsA hb q) q2 fun H' e' => (r1.up e').yld e1 hy
theorem sdX_B {t : TE} {ta : TA} {r : List V → Hp → VK → Prop} {bf : List D → Option Nw} {ma : Env → R (List BV × Env)} (ha : SdA K mg W ta ma) (ht : ∀ σ H Q, (ta σ H fun vs H1 => r vs H1 Q) → t σ H Q)
    (hr : ∀ F H vs ds nw Q, Ex F H → RhA K F H vs ds → bf ds = some nw → Yld K F H nw Q → r vs H Q) : SdX K mg W t (mB bf ma) :=
  sdX_BG ha ht fun F H vs ds nw Q e hv hf hy => hr F H vs ds nw Q e hv hf (hy H (Ex.refl H))
theorem sdT_of {t : TE} {m : Env → R (BV × Env)} (h : SdX K mg W t m) : SdT K mg W (tB t) (mT m) := by
  intro a0 G Γ σ H F Q r hk
  refine h a0 G Γ σ H F _ r (okG_bind hk fun x _ hx => ?_)
  obtain ⟨b, Γ1⟩ := x
  dsimp only at hx
  cases b with
  | s i => exact hx.elim
  | o xs => exact hx.elim
  | v d =>
    cases d with
    | bl k => exact fun v H1 F1 e1 r1 hv => by cases hv; exact ⟨k, rfl, hx H1 F1 e1 r1⟩
    | _ => exact hx.elim
theorem sdT_and {t u : TT} {a b : Env → R (Bool × Env)} (h1 : SdT K mg W t a) (h2 : SdT K mg W u b) : SdT K mg W (tAnd t u) (mAnd a b) := by
  intro a0 G Γ σ H F Q r hk
  refine h1 a0 G Γ σ H F _ r (okG_bind hk fun x _ hx => ?_)
  obtain ⟨k, Γ1⟩ := x
  intro H1 F1 e1 r1
  dsimp only at hx ⊢
  cases k with
  | true => simp only [if_true] at hx ⊢; exact h2 a0 G Γ1 σ H1 F1 Q r1 (okG_mono e1 hx fun y _ hy H2 F2 e2 => hy H2 F2 (Ex.trans e1 e2))
  | false => exact hx H1 F1 e1 r1
theorem sdT_or {t u : TT} {a b : Env → R (Bool × Env)} (h1 : SdT K mg W t a) (h2 : SdT K mg W u b) : SdT K mg W (tOr t u) (mOr a b) := by
  intro a0 G Γ σ H F Q r hk
  refine h1 a0 G Γ σ H F _ r (okG_bind hk fun x _ hx => ?_)
  obtain ⟨k, Γ1⟩ := x
  intro H1 F1 e1 r1
  dsimp only at hx ⊢
  cases k with
  | false => simp only [Bool.false_eq_true, if_false] at hx ⊢; exact h2 a0 G Γ1 σ H1 F1 Q r1 (okG_mono e1 hx fun y _ hy H2 F2 e2 => hy H2 F2 (Ex.trans e1 e2))
  | true => exact hx H1 F1 e1 r1
theorem sdT_not {t : TT} {a : Env → R (Bool × Env)} (h1 : SdT K mg W t a) : SdT K mg W (tNot t) (mNot a) := by
  intro a0 G Γ σ H F Q r hk
  exact h1 a0 G Γ σ H F _ r (okG_bind hk fun x _ hx H1 F1 e1 r1 => hx H1 F1 e1 r1)
theorem sdX_if {c : TT} {t u : TE} {mc : Env → R (Bool × Env)} {a b : Env → R (BV × Env)} (hc : SdT K mg W c mc) (h1 : SdX K mg W t a) (h2 : SdX K mg W u b) : SdX K mg W (tIf c t u) (mIfE mc a b) := by
  intro a0 G Γ σ H F Q r hk
  refine hc a0 G Γ σ H F _ r (okG_bind hk fun x _ hx => ?_)
  obtain ⟨k, Γ1⟩ := x
  intro H1 F1 e1 r1
  dsimp only at hx ⊢
  cases k with
  | true => simp only [if_true] at hx ⊢; exact h1 a0 G Γ1 σ H1 F1 Q r1 (okG_mono e1 hx fun y _ hy => hy.mono e1)
  | false => simp only [Bool.false_eq_true, if_false] at hx ⊢; exact h2 a0 G Γ1 σ H1 F1 Q r1 (okG_mono e1 hx fun y _ hy => hy.mono e1)
end
section
variable {X : Cx} {W : WX} {e a b c : Expr} {es : List Expr} {pos : Pos}
theorem sx_name (i : Nat) {x : Str} (hN : X.N[i]? = some x := by rfl) (hv : Vis X.env.scope x := by first | exact Or.inl rfl | exact Or.inr (Or.inl rfl) | exact Or.inr (Or.inr rfl)) (hd : (x == ("__debug__" : Str)) = false := by decide)
    (hcd : (x == ("__classdict__" : Str)) = false := by decide) : SX X W (.Name x pos) (mN i) := by
  refine ⟨_, pe_var hN hv hd hcd, fun a0 G Γ σ H F Q r h => ?_⟩
  unfold mN at h
  cases q : gt Γ i with
  | no => rw [q] at h; exact h.elim
  | m _ _ => rw [q] at h; exact h.elim
  | i _ _ _ _ => rw [q] at h; exact h.elim
  | v d =>
    rw [q] at h
    obtain ⟨v, h1, h2⟩ := r.getv q
    exact ⟨v, h1, h v H F (Ex.refl F) r h2⟩
  | o xs =>
    rw [q] at h
    obtain ⟨p, vs, h1, h2, _⟩ := r.geto q
    exact ⟨.ref p, h1, h (.ref p) H F (Ex.refl F) r h1⟩
theorem sx_const {v : V} {d : D} (h : PE X e (tC v)) (hr : ∀ K F, Rp K F v d) : SX X W e (mK d) :=
  ⟨_, h, fun a0 G Γ σ H F Q r hk => hk v H F (Ex.refl F) r (hr _ _)⟩
theorem sx_int {i : Int} {j : Nat} : SX X W (.Constant (.int i) j pos) (mK (.int i)) := sx_const pe_int fun _ _ => .int i
theorem sx_bl {i : Bool} {j : Nat} : SX X W (.Constant (.bool i) j pos) (mK (.bl i)) := sx_const pe_bl fun _ _ => .bl i
theorem sx_non {j : Nat} : SX X W (.Constant .none j pos) (mK .non) := sx_const pe_non fun _ _ => .non
theorem sx_str {i : Str} {j : Nat} : SX X W (.Constant (.str i) j pos) (mK (.str i)) := sx_const pe_str fun _ _ => .str i
theorem sa_nil : SA X W [] mA0 := ⟨_, pa_nil, sdA_nil⟩
theorem sa_cons {m : Env → R (BV × Env)} {mr : Env → R (List BV × Env)} (h : SX X W e m) (hr : SA X W es mr) (hs : starEach (e :: es) X.env = (false, eval e X.env) :: starEach es X.env := by rfl) : SA X W (e :: es) (mA1 m mr) := by
  obtain ⟨t, p, s⟩ := h
  obtain ⟨t', p', s'⟩ := hr
  exact ⟨_, pa_cons p p' hs, sdA_cons s s'⟩
def OpS (X : Cx) (f : Value → Value → Sem Value) (bf : List D → Option Nw) : Prop := ∃ r, OpR X f r ∧ ∀ F H x y dx dy nw Q, Ex F H → Rh X.K F H x dx → Rh X.K F H y dy → bf [dx, dy] = some nw → Yld X.K F H nw Q → r x y H Q
theorem sdX_op {f : Value → Value → Sem Value} {bf : List D → Option Nw} {r : R2} {ta tb : TE} {ma mb : Env → R (BV × Env)} (hl : ∀ ds nw, bf ds = some nw → ds.length = 2)
    (hr : ∀ F H x y dx dy nw Q, Ex F H → Rh X.K F H x dx → Rh X.K F H y dy → bf [dx, dy] = some nw → Yld X.K F H nw Q → r x y H Q) (ha : SdX X.K X.mg W ta ma) (hb : SdX X.K X.mg W tb mb) :
    SdX X.K X.mg W (tOp r ta tb) (mB bf (mA1 ma (mA1 mb mA0))) := by
  refine sdX_B (r := fun vs H Q => match vs with | [x, y] => r x y H Q | _ => False) (sdA_cons ha (sdA_cons hb sdA_nil)) (fun σ H Q h => h) fun F H vs ds nw Q e hv hf hy => ?_
  have := hl ds nw hf
  cases hv with
  | nil => simp at this
  | cons h1 hv =>
    cases hv with
    | nil => simp at this
    | cons h2 hv =>
      cases hv with
      | nil => exact hr F H _ _ _ _ nw Q e h1 h2 hf hy
      | cons _ _ => simp at this
end
end Rg
namespace Rg
open PySem L2
theorem sz_le {n : Nat} (h : n ≤ SZ) : n ≤ sizeLine := Nat.le_trans h (by decide)
theorem sz_lt {n : Nat} (h : n < SZ) : n < sizeLine := Nat.lt_of_lt_of_le h (by decide)
section
variable {K : PySem.W.Frag} {F H : Hp}
theorem dpInts : ∀ ns : List Int, DpAll K H (ns.map V.int) (ns.map PyData.int)
  | [] => .nil
  | n :: ns => .cons (.int n) (dpInts ns)
mutual
theorem Rp.dp (e : Ex F H) : ∀ {v : V} {d : D}, Rp K F v d → SeqAt.shaped (toP d) = true → Dp K H v (toP d)
  | _, _, .non, _ => by rw [toP]; exact .non
  | _, _, .bl b, _ => by rw [toP]; exact .bl b
  | _, _, .int i, _ => by rw [toP]; exact .int i
  | _, _, .str x, _ => by rw [toP]; exact .str x
  | _, _, .tup h a, hs => by rw [toP] at hs ⊢; exact .tup (Evl.ex_t e h) (RpA.dp e a (SeqAt.canLay_of_shaped hs))
  | _, _, .lst h a, hs => by rw [toP] at hs ⊢; exact .lst (.inl (.inl (e _ _ h))) (RpA.dp e a (SeqAt.canLay_of_shaped hs))
  | _, _, .scr ns h, _ => by rw [toP]; exact .lst (Evl.ex_l e h) (dpInts ns)
  | _, _, .ty n, hs => by
    rw [toP] at hs
    have := SeqAt.canLay_of_shaped hs
    simp [PyData.canLay0] at this
  | _, _, .fn _ _, hs => by
    rw [toP] at hs
    have := SeqAt.canLay_of_shaped hs
    simp [PyData.canLay0] at this
  | _, _, .dct _ _ _, hs => by
    rw [toP] at hs
    have := SeqAt.canLay_of_shaped hs
    simp [PyData.canLay0] at this
  | _, _, .dcT _ _ _ _, hs => by
    rw [toP] at hs
    have := SeqAt.canLay_of_shaped hs
    simp [PyData.canLay0] at this
  | _, _, .ins _ _ _, hs => by
    rw [toP] at hs
    have := SeqAt.canLay_of_shaped hs
    simp [PyData.canLay0] at this
theorem Rp.dpc (e : Ex F H) : ∀ {v : V} {d : D}, Rp K F v d → (toP d).canLay0 = true → Dp K H v (toP d)
  | _, _, .non, _ => by rw [toP]; exact .non
  | _, _, .bl b, _ => by rw [toP]; exact .bl b
  | _, _, .int i, _ => by rw [toP]; exact .int i
  | _, _, .str x, _ => by rw [toP]; exact .str x
  | _, _, .tup h a, hs => by rw [toP] at hs ⊢; exact .tup (Evl.ex_t e h) (RpA.dp e a hs)
  | _, _, .lst h a, hs => by rw [toP] at hs ⊢; exact .lst (.inl (.inl (e _ _ h))) (RpA.dp e a hs)
  | _, _, .scr ns h, _ => by rw [toP]; exact .lst (Evl.ex_l e h) (dpInts ns)
  | _, _, .ty n, hs => by rw [toP] at hs; simp [PyData.canLay0] at hs
  | _, _, .fn _ _, hs => by rw [toP] at hs; simp [PyData.canLay0] at hs
  | _, _, .dct _ _ _, hs => by rw [toP] at hs; simp [PyData.canLay0] at hs
  | _, _, .dcT _ _ _ _, hs => by rw [toP] at hs; simp [PyData.canLay0] at hs
  | _, _, .ins _ _ _, hs => by rw [toP] at hs; simp [PyData.canLay0] at hs
theorem RpA.dp (e : Ex F H) : ∀ {vs : List V} {ds : List D}, RpA K F vs ds → PyData.canLay0 (.tuple (toPA ds)) = true → DpAll K H vs (toPA ds)
  | _, _, .nil, _ => by rw [toPA]; exact .nil
  | _, _, .cons (d := d) (ds := ds) h a, hs => by
    rw [toPA] at hs ⊢
    have hs' : (toP d).canLay0 = true ∧ PyData.canLayAll0 (toPA ds) = true := by simpa [PyData.canLay0, PyData.canLayAll0] using hs
    exact .cons (Rp.dpc e h hs'.1) (RpA.dp e a (by simpa [PyData.canLay0] using hs'.2))
end
theorem Rh.dp {v : V} {d : D} (e : Ex F H) (h : Rh K F H v d) (hs : SeqAt.shaped (toP d) = true) : Dp K H v (toP d) := by
  rcases h with ⟨p, vs, ds, rfl, rfl, h1, h2⟩ | h
  · rw [toP] at hs ⊢
    exact .lst (.inl (.inl h1)) (h2.dp e (SeqAt.canLay_of_shaped hs))
  · exact h.dp e hs
end
section
variable {X : Cx}
theorem os_eq (hu : X.A.units + 64 < cLine) : OpS X (compareOp .Eq) fEq := by
  refine ⟨_, op_eqD hu, fun F H x y dx dy nw Q e hx hy hf hq => ?_⟩
  simp only [fEq] at hf
  split at hf
  · rename_i h
    cases hf
    have h := Bool.and_eq_true_iff.mp h
    exact ⟨_, _, hx.dp e h.1, hy.dp e h.2, h.1, h.2, hq.1 _ (.bl _)⟩
  · cases hf
theorem os_ne (hu : X.A.units + 64 < cLine) : OpS X (compareOp .NotEq) fNe := by
  refine ⟨_, op_neD hu, fun F H x y dx dy nw Q e hx hy hf hq => ?_⟩
  simp only [fNe] at hf
  split at hf
  · rename_i h
    cases hf
    have h := Bool.and_eq_true_iff.mp h
    exact ⟨_, _, hx.dp e h.1, hy.dp e h.2, h.1, h.2, hq.1 _ (.bl _)⟩
  · cases hf
end
noncomputable def fPow : List D → Option Nw
  | [.int i, .int j] => @ite _ (0 ≤ j ∧ j ≤ 1000000 ∧ i.natAbs < 2 ^ 64) (Classical.propDecidable _) (some (.v (.int (i ^ j.toNat)))) none
  | _ => none
section
variable {X : Cx}
theorem os_add : OpS X (binaryOp .Add) fAdd := by
  refine ⟨_, op_add.or (op_cat.or (op_catA.or op_add_str)), fun F H x y dx dy nw Q e hx hy hf hq => ?_⟩
  cases dx <;> cases dy <;> simp only [fAdd] at hf <;> try (cases hf; done)
  case int.int i j => cases hf; cases hx.int; cases hy.int; exact .inl ⟨i, j, rfl, rfl, hq.1 _ (.int _)⟩
  case str.str a b =>
    split at hf
    · rename_i hz; cases hf; cases hx.str; cases hy.str; exact .inr (.inr (.inr ⟨a, b, rfl, rfl, sz_le hz, hq.1 _ (.str _)⟩))
    · cases hf
  case tup.tup a b =>
    split at hf
    · rename_i hz
      cases hf
      obtain ⟨p, vs, rfl, h1, h2⟩ := hx.tup e
      obtain ⟨q, ws, rfl, h3, h4⟩ := hy.tup e
      have hx' := hx.rp (fun _ z => by cases z)
      have hy' := hy.rp (fun _ z => by cases z)
      refine .inr (.inr (.inl ⟨p, q, vs, ws, rfl, rfl, h1, h3, ?_, fun z => hq.1 _ ?_, fun z z2 => hq.1 _ ?_, fun z z2 r hr => hq.2 _ r _ rfl hr (h2.append h4)⟩))
      · rw [h2.length, h4.length]; exact sz_le hz
      · subst z; cases h2; exact hy'
      · subst z2; cases h4; rw [List.append_nil]; exact hx'
    · cases hf
  case lst.lst a b =>
    split at hf
    · rename_i hz
      cases hf
      obtain ⟨p, vs, rfl, h1, h2⟩ := hx.lst e
      obtain ⟨q, ws, rfl, h3, h4⟩ := hy.lst e
      refine .inr (.inl ⟨p, q, vs, ws, rfl, rfl, h1, h3, ?_, fun r hr => hq r _ hr (h2.append h4)⟩)
      rw [h2.length, h4.length]; exact sz_le hz
    · cases hf
theorem os_sub : OpS X (binaryOp .Sub) fSub := by
  refine ⟨_, op_sub, fun F H x y dx dy nw Q e hx hy hf hq => ?_⟩
  cases dx <;> cases dy <;> simp only [fSub] at hf <;> try (cases hf; done)
  case int.int i j => cases hf; cases hx.int; cases hy.int; exact ⟨i, j, rfl, rfl, hq.1 _ (.int _)⟩
theorem os_mul : OpS X (binaryOp .Mult) fMul := by
  refine ⟨_, op_mul.or op_rep, fun F H x y dx dy nw Q e hx hy hf hq => ?_⟩
  cases dx <;> cases dy <;> simp only [fMul] at hf <;> try (cases hf; done)
  case int.int i j =>
    split at hf
    · rename_i hz; cases hf; cases hx.int; cases hy.int; exact .inl ⟨i, j, rfl, rfl, hz, hq.1 _ (.int _)⟩
    · cases hf
  case lst.int a k =>
    split at hf
    · rename_i hz
      cases hf
      cases hy.int
      obtain ⟨p, vs, rfl, h1, h2⟩ := hx.lst e
      refine .inr ⟨p, k, vs, rfl, rfl, h1, ?_, ?_, ?_, fun r hr => hq r _ hr (h2.rep _)⟩
      · have := hz.1; omega
      · have := hz.2.1; omega
      · rw [h2.length]; exact sz_le hz.2.2
    · cases hf
theorem os_mod : OpS X (binaryOp .Mod) fMod := by
  refine ⟨_, op_mod, fun F H x y dx dy nw Q e hx hy hf hq => ?_⟩
  cases dx <;> cases dy <;> simp only [fMod] at hf <;> try (cases hf; done)
  case int.int i j =>
    split at hf
    · rename_i hz; cases hf; cases hx.int; cases hy.int; exact ⟨i, j, rfl, rfl, hz, hq.1 _ (.int _)⟩
    · cases hf
theorem cdivW {i j : Int} (h : 0 < j ∧ j < 2 ^ 128) : CDivW i j := wide_div (b := 128) h.1 (by omega) (by decide) (by decide)
theorem os_div : OpS X (binaryOp .FloorDiv) fDiv := by
  refine ⟨_, op_fdivW, fun F H x y dx dy nw Q e hx hy hf hq => ?_⟩
  cases dx <;> cases dy <;> simp only [fDiv] at hf <;> try (cases hf; done)
  case int.int i j =>
    split at hf
    · rename_i hz; cases hf; cases hx.int; cases hy.int; exact ⟨i, j, rfl, rfl, cdivW hz, hq.1 _ (.int _)⟩
    · cases hf
theorem os_pow : OpS X (binaryOp .Pow) fPow := by
  refine ⟨_, op_pow, fun F H x y dx dy nw Q e hx hy hf hq => ?_⟩
  cases dx <;> cases dy <;> simp only [fPow] at hf <;> try (cases hf; done)
  case int.int i j =>
    split at hf
    · rename_i hz; cases hf; cases hx.int; cases hy.int; exact ⟨i, j, rfl, rfl, hz, hq.1 _ (.int _)⟩
    · cases hf
end
abbrev fGe := fCmp fun i j => decide (j ≤ i)
section
variable {X : Cx}
theorem os_cmp {op : CmpOp} {p : Int → Int → Bool} (h : OpR X (compareOp op) (rI0 fun i j => .bl (p i j))) : OpS X (compareOp op) (fCmp p) := by
  refine ⟨_, h, fun F H x y dx dy nw Q e hx hy hf hq => ?_⟩
  cases dx <;> cases dy <;> simp only [fCmp] at hf <;> try (cases hf; done)
  case int.int i j => cases hf; cases hx.int; cases hy.int; exact ⟨i, j, rfl, rfl, hq.1 _ (.bl _)⟩
theorem os_lt : OpS X (compareOp .Lt) fLt := os_cmp op_lt
theorem os_gt : OpS X (compareOp .Gt) fGt := os_cmp op_gt
theorem os_ge : OpS X (compareOp .GtE) fGe := os_cmp op_ge
end
section
variable {X : Cx}
end
def isNon : D → Bool
  | .non => true
  | _ => false
def fIs (neg : Bool) : List D → Option Nw
  | [d, .non] => some (.v (.bl (if neg then !isNon d else isNon d)))
  | _ => none
theorem Rh.isN {K : PySem.W.Frag} {F H : Hp} {v : V} {d : D} (h : Rh K F H v d) : decide (v = .non) = isNon d := by
  rcases h with ⟨p, vs, ds, rfl, rfl, _⟩ | h
  · rfl
  · cases h <;> rfl
section
variable {X : Cx}
theorem os_is : OpS X (compareOp .Is) (fIs false) := by
  refine ⟨_, op_isN, fun F H x y dx dy nw Q e hx hy hf hq => ?_⟩
  cases dy <;> simp only [fIs] at hf <;> try (cases hf; done)
  cases hf
  refine ⟨hy.non, hq.1 _ ?_⟩
  rw [hx.isN]
  exact .bl _
end
section
variable {X : Cx} {W : WX} {a b c : Expr} {pos : Pos} {ma mb mc : Env → R (BV × Env)}
theorem two_len {bf : List D → Option Nw} : ∀ ds nw, two bf ds = some nw → ds.length = 2
  | [], _, h => by simp [two] at h
  | [_], _, h => by simp [two] at h
  | [_, _], _, _ => rfl
  | _ :: _ :: _ :: _, _, h => by simp [two] at h
theorem sx_bin {op : Operator} {bf : List D → Option Nw} (ho : OpS X (binaryOp op) bf) (ha : SX X W a ma) (hb : SX X W b mb) : SX X W (.BinOp a op b pos) (mB (two bf) (mA1 ma (mA1 mb mA0))) := by
  obtain ⟨r, h1, h2⟩ := ho
  obtain ⟨ta, pa, sa⟩ := ha
  obtain ⟨tb, pb, sb⟩ := hb
  exact ⟨_, pe_op h1 pa pb, sdX_op (f := binaryOp op) two_len h2 sa sb⟩
theorem sx_cmp {op : CmpOp} {bf : List D → Option Nw} (ho : OpS X (compareOp op) bf) (ha : SX X W a ma) (hb : SX X W b mb) (hm : behindInMarks op b = false) : SX X W (.Compare a [op] [b] pos) (mB (two bf) (mA1 ma (mA1 mb mA0))) := by
  obtain ⟨r, h1, h2⟩ := ho
  obtain ⟨ta, pa, sa⟩ := ha
  obtain ⟨tb, pb, sb⟩ := hb
  exact ⟨_, pe_cmpR h1 pa pb hm, sdX_op (f := compareOp op) two_len h2 sa sb⟩
theorem st_cmp {op : CmpOp} {bf : List D → Option Nw} (ho : OpS X (compareOp op) bf) (ha : SX X W a ma) (hb : SX X W b mb) (hm : behindInMarks op b = false) : ST X W (.Compare a [op] [b] pos) (mT (mB (two bf) (mA1 ma (mA1 mb mA0)))) := by
  obtain ⟨r, h1, h2⟩ := ho
  obtain ⟨ta, pa, sa⟩ := ha
  obtain ⟨tb, pb, sb⟩ := hb
  exact ⟨_, pt_cmpR h1 pa pb hm, sdT_of (sdX_op (f := compareOp op) two_len h2 sa sb)⟩
theorem sdX_chain {p q : Int → Int → Bool} {ta tb tc : TE} (ha : SdX X.K X.mg W ta ma) (hb : SdX X.K X.mg W tb mb) (hc : SdX X.K X.mg W tc mc) :
    SdX X.K X.mg W (tChain (rI0 fun i j => .bl (p i j)) (rI0 fun i j => .bl (q i j)) ta tb tc) (mCh p q ma mb mc) := by
  intro a0 G Γ σ H F Q r h
  have key := sdA_cons ha (sdA_cons hb sdA_nil) a0 G Γ σ H F (fun vs H2 => match vs with
    | [x, y] => rI0 (fun i j => .bl (p i j)) x y H2 fun z H3 => ∃ k, z = .bl k ∧ (if k = true then tc σ H3 fun w' H4 => rI0 (fun i j => .bl (q i j)) y w' H4 Q else Q (.bl false) H3)
    | _ => False) r (okG_bind h fun y _ hy => ?_)
  · exact key
  · obtain ⟨bs, Γ1⟩ := y
    intro vs H1 F1 e1 r1 hb
    dsimp only at hy
    cases q1 : rsA Γ1 bs with
    | none => rw [q1] at hy; exact hy.elim
    | some ds =>
      rw [q1] at hy
      have hv := r1.rsA hb q1
      try dsimp only at hy
      split at hy
      · rename_i i j e
        cases e
        cases hv with
        | cons h1 hv =>
          cases hv with
          | cons h2 hv =>
            cases hv
            cases h1.int
            cases h2.int
            refine ⟨i, j, rfl, rfl, _, rfl, ?_⟩
            split at hy
            · rename_i hp
              rw [if_pos hp]
              refine hc a0 G Γ1 σ H1 F1 _ r1 (okG_mono e1 (okG_bind hy fun z _ hz => hz) fun z _ hz => ?_)
              obtain ⟨b, Γ2⟩ := z
              refine PX_fz fun v H2 F2 e2 r2 hv2 => ?_
              dsimp only at hz
              cases q2 : rs Γ2 b.fz with
              | none => rw [q2] at hz; exact hz.elim
              | some d =>
                rw [q2] at hz
                have h3 := r2.rs hv2 q2
                cases d <;> try exact hz.elim
                rename_i k
                cases h3.int
                exact ⟨j, k, rfl, rfl, hz (.bl _) H2 F2 (Ex.trans e1 e2) r2 (.bl _)⟩
            · rename_i hp
              rw [if_neg hp]
              exact hy (.bl false) H1 F1 e1 r1 (.bl _)
      · exact hy.elim
theorem sx_chain {op op' : CmpOp} {p q : Int → Int → Bool} (ho : OpR X (compareOp op) (rI0 fun i j => .bl (p i j))) (ho' : OpR X (compareOp op') (rI0 fun i j => .bl (q i j))) (ha : SX X W a ma) (hb : SX X W b mb) (hc : SX X W c mc)
    (hm : lastMarks [op, op'] [b, c] = false := by with_unfolding_all rfl) : SX X W (.Compare a [op, op'] [b, c] pos) (mCh p q ma mb mc) := by
  obtain ⟨ta, pa, sa⟩ := ha
  obtain ⟨tb, pb, sb⟩ := hb
  obtain ⟨tc, pc, sc⟩ := hc
  exact ⟨_, pe_chain ho ho' pa pb pc hm, sdX_chain sa sb sc⟩
theorem st_chain {op op' : CmpOp} {p q : Int → Int → Bool} (ho : OpR X (compareOp op) (rI0 fun i j => .bl (p i j))) (ho' : OpR X (compareOp op') (rI0 fun i j => .bl (q i j))) (ha : SX X W a ma) (hb : SX X W b mb) (hc : SX X W c mc)
    (hm : lastMarks [op, op'] [b, c] = false := by with_unfolding_all rfl) : ST X W (.Compare a [op, op'] [b, c] pos) (mT (mCh p q ma mb mc)) := by
  obtain ⟨ta, pa, sa⟩ := ha
  obtain ⟨tb, pb, sb⟩ := hb
  obtain ⟨tc, pc, sc⟩ := hc
  exact ⟨_, pt_chain ho ho' pa pb pc hm, sdT_of (sdX_chain sa sb sc)⟩
theorem sx_neg (ha : SX X W a ma) : SX X W (.UnaryOp .USub a pos) (mNeg ma) := by
  obtain ⟨ta, pa, sa⟩ := ha
  refine ⟨_, pe_un un_neg pa, sdX_B (r := fun vs H Q => match vs with | [x] => rU (fun i => .int (-i)) x H Q | _ => False) (sdA_cons sa sdA_nil) (fun σ H Q h => h) fun F H vs ds nw Q e hv hf hy => ?_⟩
  unfold fNeg at hf
  split at hf
  · rename_i i
    cases hf
    cases hv with
    | cons h1 hv => cases hv; cases h1.int; exact ⟨i, rfl, hy.1 _ (.int _)⟩
  · cases hf
theorem st_val (h : SX X W a ma) (he : ∀ whole, isTrue a X.env whole = (do let v ← whole; standAt a.pos; holding [v] (truthy v)) := by intro _; rfl) : ST X W a (mT ma) := by
  obtain ⟨t, p, s⟩ := h
  exact ⟨_, pt_val p he, sdT_of s⟩
variable {ta tb : Env → R (Bool × Env)} {rest : List Expr}
theorem sw_and1 (h : ST X W a ta) : SW X W (.BoolOp .And [a] pos) ta := let ⟨_, p, s⟩ := h; ⟨_, pw_and1 p, s⟩
theorem sw_or1 (h : ST X W a ta) : SW X W (.BoolOp .Or [a] pos) ta := let ⟨_, p, s⟩ := h; ⟨_, pw_or1 p, s⟩
theorem sw_and (h : ST X W a ta) (h2 : SW X W (.BoolOp .And (b :: rest) pos) tb) : SW X W (.BoolOp .And (a :: b :: rest) pos) (mAnd ta tb) := let ⟨_, p, s⟩ := h; let ⟨_, p2, s2⟩ := h2; ⟨_, pw_and p p2, sdT_and s s2⟩
theorem sw_or (h : ST X W a ta) (h2 : SW X W (.BoolOp .Or (b :: rest) pos) tb) : SW X W (.BoolOp .Or (a :: b :: rest) pos) (mOr ta tb) := let ⟨_, p, s⟩ := h; let ⟨_, p2, s2⟩ := h2; ⟨_, pw_or p p2, sdT_or s s2⟩
theorem SW.t (h : SW X W a ta) : ST X W a ta := let ⟨_, p, s⟩ := h; ⟨_, p.pt, s⟩
theorem st_not (h : ST X W a ta) : ST X W (.UnaryOp .Not a pos) (mNot ta) := let ⟨_, p, s⟩ := h; ⟨_, pt_not p, sdT_not s⟩
theorem sx_if {mc' : Env → R (Bool × Env)} (hc : ST X W c mc') (ha : SX X W a ma) (hb : SX X W b mb) : SX X W (.IfExp c a b pos) (mIfE mc' ma mb) := let ⟨_, p, s⟩ := hc; let ⟨_, p1, s1⟩ := ha; let ⟨_, p2, s2⟩ := hb; ⟨_, pe_ifExp p p1 p2, sdX_if s s1 s2⟩
def mNotV (a : Env → R (BV × Env)) : Env → R (BV × Env) := fun Γ => (mT a Γ).bind fun x => .ok (.v (.bl (!x.1)), x.2)
theorem sx_and (h : SX X W a ma) (h2 : SX X W (.BoolOp .And (b :: rest) pos) mb) : SX X W (.BoolOp .And (a :: b :: rest) pos) (mAndV ma mb) := by
  obtain ⟨t, p, s⟩ := h
  obtain ⟨t2, p2, s2⟩ := h2
  refine ⟨_, pe_and p p2, fun a0 G Γ σ H F Q r hk => ?_⟩
  refine sdT_of s a0 G Γ σ H F (fun c H1 => if c = true then t2 σ H1 Q else Q (.bl false) H1) r (okG_bind hk fun x _ hx => ?_)
  obtain ⟨k, Γ1⟩ := x
  intro H1 F1 e1 r1
  dsimp only at hx ⊢
  cases k with
  | true => simp only [if_true] at hx ⊢; exact s2 a0 G Γ1 σ H1 F1 Q r1 (okG_mono e1 hx fun y _ hy => hy.mono e1)
  | false => simp only [Bool.false_eq_true, if_false] at hx ⊢; exact hx _ H1 F1 e1 r1 (.bl _)
theorem sx_one {op : BoolOp} (h : SX X W a ma) : SX X W (.BoolOp op [a] pos) ma := let ⟨_, p, s⟩ := h; ⟨_, pe_one p, s⟩
end
end Rg
namespace Rg
open PySem L2
theorem RhA.one {K : PySem.W.Frag} {F H : Hp} {vs : List V} {d : D} (h : RhA K F H vs [d]) : ∃ x, vs = [x] ∧ Rh K F H x d := by
  cases h with
  | cons h1 h => cases h; exact ⟨_, rfl, h1⟩
theorem RhA.two {K : PySem.W.Frag} {F H : Hp} {vs : List V} {d d2 : D} (h : RhA K F H vs [d, d2]) : ∃ x y, vs = [x, y] ∧ Rh K F H x d ∧ Rh K F H y d2 := by
  cases h with
  | cons h1 h => cases h with
    | cons h2 h => cases h; exact ⟨_, _, rfl, h1, h2⟩
theorem RhA.three {K : PySem.W.Frag} {F H : Hp} {vs : List V} {d d2 d3 : D} (h : RhA K F H vs [d, d2, d3]) : ∃ x y z, vs = [x, y, z] ∧ Rh K F H x d ∧ Rh K F H y d2 ∧ Rh K F H z d3 := by
  cases h with
  | cons h1 h => cases h with
    | cons h2 h => cases h with
      | cons h3 h => cases h; exact ⟨_, _, _, rfl, h1, h2, h3⟩
section
variable {X : Cx} {W : WX} {e a b c : Expr} {es : List Expr} {pos : Pos} {m ma mb mc : Env → R (BV × Env)} {mas : Env → R (List BV × Env)}
def CalS (X : Cx) (f : Value) (bf : List D → Option Nw) : Prop := ∃ r, CallR X f r ∧ ∀ F H vs ds nw Q, Ex F H → RhA X.K F H vs ds → bf ds = some nw → Yld X.K F H nw Q → r vs H Q
theorem sx_callB {x : Str} {id : String} {bf : List D → Option Nw} {p : Pos} (hc : CalS X (.builtin id) bf) (hg : Gl X x) (hm : X.mg x = none) (hv : bootBuiltins x = some (.builtin id)) (ha : SA X W (e :: es) mas) (hn : x ≠ "__name__" := by decide)
    (hdb : (x == ("__debug__" : Str)) = false := by decide) (he : starEach (e :: es) X.env = (false, eval e X.env) :: starEach es X.env := by rfl) (hpl : (backTo pos (starEach es X.env)).any (·.1) = false := by rfl) :
    SX X W (.Call (.Name x p) (e :: es) [] pos) (mB bf mas) := by
  obtain ⟨r, h1, h2⟩ := hc
  obtain ⟨t, pa, sa⟩ := ha
  exact ⟨_, pe_callB h1 hg hm hv pa hn hdb he hpl, sdX_B (r := r) sa (fun σ H Q h => h) h2⟩
theorem sx_callTy {x : Str} {T : String} {bf : List D → Option Nw} {p : Pos} (hc : CalS X (.type T) bf) (hg : Gl X x) (hm : X.mg x = none) (hv : bootBuiltins x = some (.type T)) (ha : SA X W (e :: es) mas) (hn : x ≠ "__name__" := by decide)
    (hdb : (x == ("__debug__" : Str)) = false := by decide) (he : starEach (e :: es) X.env = (false, eval e X.env) :: starEach es X.env := by rfl) (hpl : (backTo pos (starEach es X.env)).any (·.1) = false := by rfl) :
    SX X W (.Call (.Name x p) (e :: es) [] pos) (mB bf mas) := by
  obtain ⟨r, h1, h2⟩ := hc
  obtain ⟨t, pa, sa⟩ := ha
  exact ⟨_, pe_callTy h1 hg hm hv pa hn hdb he hpl, sdX_B (r := r) sa (fun σ H Q h => h) h2⟩
theorem sx_ty {x : Str} {n : String} (hg : Gl X x) (hm : X.mg x = none) (hv : bootBuiltins x = some (.type n)) (hn : x ≠ "__name__" := by decide) (hd : (x == ("__debug__" : Str)) = false := by decide) : SX X W (.Name x pos) (mK (.ty n)) :=
  sx_const (pe_bltn hg hm hv (v := .ty n) rfl hn hd) fun _ _ => .ty n
theorem sx_globI {x : Str} {i : Int} {t : Tok} (hg : Gl X x) (hm : X.mg x = some (.int i t)) (hd : (x == ("__debug__" : Str)) = false := by decide) : SX X W (.Name x pos) (mK (.int i)) :=
  sx_const (pe_glob hg hm (v := .int i) ⟨t, rfl⟩ hd) fun _ _ => .int i
theorem cs_len : CalS X (.builtin "len") fLen := by
  refine ⟨_, call_len, fun F H vs ds nw Q e hv hf hq => ?_⟩
  cases hv with
  | nil => simp [fLen] at hf
  | cons h hv =>
    cases hv with
    | cons _ _ => simp [fLen] at hf
    | nil =>
      rename_i d
      cases d <;> simp only [fLen] at hf <;> try (cases hf; done)
      case str x =>
        split at hf
        · rename_i hz; cases hf; cases h.str; exact ⟨_, _, rfl, ⟨sz_le hz, rfl⟩, hq.1 _ (.int _)⟩
        · cases hf
      case lst xs =>
        cases hf
        obtain ⟨p, vs, rfl, h1, h2⟩ := h.lst e
        exact ⟨_, _, rfl, .inl ⟨vs, SqL.of h1, h2.length.symm⟩, hq.1 _ (.int _)⟩
      case tup xs =>
        cases hf
        obtain ⟨p, vs, rfl, h1, h2⟩ := h.tup e
        exact ⟨_, _, rfl, .inr ⟨vs, h1, h2.length.symm⟩, hq.1 _ (.int _)⟩
      case scr xs =>
        cases hf
        obtain ⟨p, rfl, h1⟩ := h.scr e
        exact ⟨_, _, rfl, .inl ⟨_, h1, by rw [List.length_map]⟩, hq.1 _ (.int _)⟩
theorem cs_list : CalS X (.type "list") fList := by
  refine ⟨_, call_list_of, fun F H vs ds nw Q e hv hf hq => ?_⟩
  cases hv with
  | nil => simp [fList] at hf
  | cons h hv =>
    cases hv with
    | cons _ _ => simp [fList] at hf
    | nil =>
      rename_i d
      cases d <;> simp only [fList] at hf <;> try (cases hf; done)
      case lst xs =>
        cases hf
        obtain ⟨p, vs, rfl, h1, h2⟩ := h.lst e
        exact ⟨p, vs, rfl, .inl (SqL.of h1), fun l hl => hq l vs hl h2⟩
      case tup xs =>
        cases hf
        obtain ⟨p, vs, rfl, h1, h2⟩ := h.tup e
        exact ⟨p, vs, rfl, .inr h1, fun l hl => hq l vs hl h2⟩
theorem cs_int : CalS X (.type "int") fInt := by
  refine ⟨_, call_int1, fun F H vs ds nw Q e hv hf hq => ?_⟩
  cases hv with
  | nil => simp [fInt] at hf
  | cons h hv =>
    cases hv with
    | cons _ _ => simp [fInt] at hf
    | nil =>
      rename_i d
      cases d <;> simp only [fInt] at hf <;> try (cases hf; done)
      case int i => cases hf; cases h.int; exact .inl ⟨i, rfl, hq.1 _ (.int _)⟩
      case bl k => cases hf; cases h.bl; exact .inr ⟨k, rfl, hq.1 _ (.int _)⟩
def fAbs : List D → Option Nw
  | [.int i] => some (.v (.int (if i < 0 then -i else i)))
  | _ => none
theorem cs_abs : CalS X (.builtin "abs") fAbs := by
  refine ⟨_, call_abs, fun F H vs ds nw Q e hv hf hq => ?_⟩
  cases hv with
  | nil => simp [fAbs] at hf
  | cons h hv =>
    cases hv with
    | cons _ _ => simp [fAbs] at hf
    | nil =>
      rename_i d
      cases d <;> simp only [fAbs] at hf <;> try (cases hf; done)
      case int i => cases hf; cases h.int; exact ⟨i, rfl, hq.1 _ (.int _)⟩
theorem cs_max (hc : X.calm = true) : CalS X (.builtin "max") fMax := by
  refine ⟨_, call_max2 hc, fun F H vs ds nw Q e hv hf hq => ?_⟩
  unfold fMax at hf
  split at hf
  · rename_i i j
    cases hf
    obtain ⟨x, y, rfl, h1, h2⟩ := hv.two
    cases h1.int
    cases h2.int
    exact ⟨i, j, rfl, hq.1 _ (.int _)⟩
  · cases hf
def fMin : List D → Option Nw
  | [.int i, .int j] => some (.v (.int (if j < i then j else i)))
  | _ => none
theorem blsOf_eq : ∀ {ds : List D} {ns : List Bool}, blsOf ds = some ns → ds = ns.map D.bl
  | [], ns, h => by simp only [blsOf] at h; cases h; rfl
  | d :: ds, ns, h => by
    cases d <;> simp only [blsOf] at h <;> try (cases h; done)
    rename_i i
    cases q : blsOf ds with
    | none => rw [q] at h; cases h
    | some ms => rw [q] at h; cases h; rw [blsOf_eq q]; rfl
theorem blsOf_map : ∀ ns : List Bool, blsOf (ns.map D.bl) = some ns
  | [] => rfl
  | n :: ns => by simp only [List.map_cons, blsOf, blsOf_map ns]; rfl
theorem cs_all (hc : X.calm = true) : CalS X (.builtin "all") fAll := by
  refine ⟨_, cr_all hc, fun F H vs ds nw Q e hv hf hq => ?_⟩
  cases hv with
  | nil => simp [fAll] at hf
  | cons h hv =>
    cases hv with
    | cons _ _ => simp [fAll] at hf
    | nil =>
      rename_i d
      cases d <;> simp only [fAll] at hf <;> try (cases hf; done)
      case lst xs =>
        cases q : blsOf xs with
        | none => rw [q] at hf; cases hf
        | some bs =>
          rw [q] at hf; cases hf
          obtain ⟨p, vs, rfl, h1, h2⟩ := h.lst e
          rw [blsOf_eq q] at h2
          rw [h2.toBls] at h1
          exact ⟨p, bs, rfl, SqL.of h1, hq.1 _ (.bl _)⟩
def tyn : D → Option String
  | .non => some "NoneType"
  | .bl _ => some "bool"
  | .int _ => some "int"
  | .str _ => some "str"
  | .tup _ => some "tuple"
  | .lst _ => some "list"
  | _ => none
def isT (a b : String) : Bool := a == b || (a == "bool" && b == "int")
def isTys : List String := ["NoneType", "bool", "int", "str", "tuple", "list"]
def isCls : List String := ["bool", "int", "str", "tuple", "list"]
theorem kit_tab : ∀ a ∈ isTys, ∀ b ∈ isCls, kitB a b = some (isT a b) := by decide +kernel
def fIsi : List D → Option Nw
  | [d, .ty n] => if n ∈ isCls then (tyn d).map fun t => .v (.bl (isT t n)) else none
  | _ => none
def fIsi2 (a b : String) : List D → Option Nw
  | [d] => if a ∈ isCls ∧ b ∈ isCls then (tyn d).map fun t => .v (.bl (isT t a || isT t b)) else none
  | _ => none
theorem tyn_mem {d : D} {t : String} (h : tyn d = some t) : t ∈ isTys := by
  cases d <;> simp only [tyn] at h <;> first | (cases h; decide) | cases h
theorem tyx {K : PySem.W.Frag} {F H : Hp} {v : V} {d : D} {t : String} (e : Ex F H) (h : Rh K F H v d) (ht : tyn d = some t) : TyX K H v (.type t) := by
  cases d <;> simp only [tyn] at ht <;> try (cases ht; done)
  case non => cases ht; cases h.non; exact .base .non
  case bl => cases ht; cases h.bl; exact .base (.bl _)
  case int => cases ht; cases h.int; exact .base (.int _)
  case str => cases ht; cases h.str; exact .base (.str _)
  case lst =>
    cases ht
    obtain ⟨p, vs, rfl, h1, h2⟩ := h.lst e
    exact .base (.lst h1)
  case tup =>
    cases ht
    obtain ⟨p, vs, rfl, h1, h2⟩ := h.tup e
    rcases h1 with (h1 | ⟨o, h1⟩) | ⟨o, its, n, hk, hc, _⟩
    · exact .base (.tup h1)
    · exact .fTuple h1
    · exact .kTuple hk hc
theorem cs_isi : CalS X (.builtin "isinstance") fIsi := by
  refine ⟨_, call_isi, fun F H vs ds nw Q e hv hf hq => ?_⟩
  unfold fIsi at hf
  split at hf
  · rename_i d n
    split at hf
    · rename_i hn
      cases q : tyn d with
      | none => rw [q] at hf; cases hf
      | some t =>
        rw [q] at hf; cases hf
        obtain ⟨x, y, rfl, h1, h2⟩ := hv.two
        cases h2.ty
        exact ⟨x, .ty n, .type t, .type n, _, rfl, .ty n, tyx e h1 q, kit_ty (kit_tab t (tyn_mem q) n hn), hq.1 _ (.bl _)⟩
    · cases hf
  · cases hf
theorem sx_isi2 {na nb : String} {xa xb : Str} {p pa pb tp : Pos} {k : Nat} (hg : Gl X "isinstance") (hm : X.mg "isinstance" = none) (he : SX X W e m) (ga : Gl X xa) (ma : X.mg xa = none) (va : bootBuiltins xa = some (.type na)) (gb : Gl X xb) (mb : X.mg xb = none) (vb : bootBuiltins xb = some (.type nb))
    (hv : bootBuiltins "isinstance" = some (.builtin "isinstance") := by decide +kernel) (hna : xa ≠ "__name__" := by decide) (hda : (xa == ("__debug__" : Str)) = false := by decide) (hnb : xb ≠ "__name__" := by decide) (hdb : (xb == ("__debug__" : Str)) = false := by decide)
    (hs : starEach [e, .Tuple [.Name xa pa, .Name xb pb] k tp] X.env = (false, eval e X.env) :: starEach [.Tuple [.Name xa pa, .Name xb pb] k tp] X.env := by rfl)
    (hs2 : starEach [.Tuple [.Name xa pa, .Name xb pb] k tp] X.env = (false, eval (.Tuple [.Name xa pa, .Name xb pb] k tp) X.env) :: starEach [] X.env := by rfl)
    (hs3 : starEach [.Name xa pa, .Name xb pb] X.env = (false, eval (.Name xa pa) X.env) :: starEach [.Name xb pb] X.env := by rfl) (hs4 : starEach [.Name xb pb] X.env = (false, eval (.Name xb pb) X.env) :: starEach [] X.env := by rfl)
    (hpl : (backTo pos (starEach [.Tuple [.Name xa pa, .Name xb pb] k tp] X.env)).any (·.1) = false := by rfl) :
    SX X W (.Call (.Name "isinstance" p) [e, .Tuple [.Name xa pa, .Name xb pb] k tp] [] pos) (mB (fIsi2 na nb) (mA1 m mA0)) := by
  obtain ⟨t, pt, st⟩ := he
  refine ⟨_, pe_callB call_isiT hg hm hv (pa_cons pt (pa_cons (pe_tup (pa_cons (pe_bltn ga ma va (v := .ty na) rfl hna hda) (pa_cons (pe_bltn gb mb vb (v := .ty nb) rfl hnb hdb) pa_nil hs4) hs3)) pa_nil hs2) hs) (by decide) (by decide) hs hpl,
    sdX_BG (r := fun vs H Q => match vs with | [x] => 2 ≤ sizeLine ∧ ∀ p, H p = none → rIsiT X.K [x, .ref p] (upd H p (.tup [.ty na, .ty nb])) Q | _ => False) (sdA_cons st sdA_nil) (fun σ H Q h => h) fun F H vs ds nw Q e hv hf hy => ?_⟩
  unfold fIsi2 at hf
  split at hf
  · rename_i d
    split at hf
    · rename_i hn
      cases q : tyn d with
      | none => rw [q] at hf; cases hf
      | some t =>
        rw [q] at hf; cases hf
        obtain ⟨x, rfl, h1⟩ := hv.one
        refine ⟨by decide, fun p hp => ?_⟩
        have e2 : Ex H (upd H p (.tup [.ty na, .ty nb])) := ex_new hp
        have h1' : Rh X.K F (upd H p (.tup [.ty na, .ty nb])) x d := by
          rcases h1 with ⟨p', vs, ds, rfl, rfl, a1, a2⟩ | h1
          · exact .inl ⟨p', vs, ds, rfl, rfl, e2 _ _ a1, a2⟩
          · exact .inr h1
        refine ⟨x, p, _, .type t, [.type na, .type nb], isT t na || isT t nb, rfl, upd_same, .cons (.ty na) (.cons (.ty nb) .nil), tyx (Ex.trans e e2) h1' q, ?_, (hy _ e2).1 _ (.bl _)⟩
        refine kitAny_cons (kit_ty (kit_tab t (tyn_mem q) na hn.1)) (fun z => ?_) (fun z => by rw [z, Bool.true_or])
        rw [z, Bool.false_or]
        refine kitAny_cons (kit_ty (kit_tab t (tyn_mem q) nb hn.2)) (fun z => ?_) (fun z => z)
        rw [z]; exact kitAny_nil
    · cases hf
  · cases hf
theorem Rel.fzA {K : PySem.W.Frag} {a0 : Addr} {G : Hp} {σ : L2.St} {H : Hp} : ∀ {bs : List BV} {vs : List V} {Γ : Env} {F : Hp} {ds : List D} {Γ' : Env}, Rel K a0 G Γ σ H F → BsA K σ F vs bs →
    fzL bs Γ = some (ds, Γ') → ∃ F', Ex F F' ∧ Rel K a0 G Γ' σ H F' ∧ RpA K F' vs ds
  | [], _, Γ, F, ds, Γ', r, .nil, h => by
    simp only [fzL] at h
    cases h
    exact ⟨F, Ex.refl F, r, .nil⟩
  | b :: bs, _, Γ, F, ds, Γ', r, .cons hb a, h => by
    simp only [fzL] at h
    cases q : fzL bs Γ with
    | none => rw [q] at h; cases h
    | some z =>
      rw [q] at h
      obtain ⟨es, Γ1⟩ := z
      obtain ⟨F1, e1, r1, h1⟩ := Rel.fzA r a q
      simp only [Option.bind_some, fz1] at h
      cases b with
      | o xs => cases h
      | v d => cases h; exact ⟨F1, e1, r1, .cons (Rp.mono e1 hb) h1⟩
      | s i =>
        have hb : σ[i]? = some (some _) := hb
        dsimp only at h
        cases g : gt Γ1 i with
        | no => rw [g] at h; cases h
        | m _ _ => rw [g] at h; cases h
        | i _ _ _ _ => rw [g] at h; cases h
        | v d =>
          rw [g] at h; cases h
          obtain ⟨v, a1, a2⟩ := r1.getv g
          rw [a1] at hb; cases hb
          exact ⟨F1, e1, r1, .cons a2 h1⟩
        | o xs =>
          rw [g] at h; cases h
          obtain ⟨p, vs, a1, e2, a2, r2⟩ := r1.frz g
          rw [a1] at hb; cases hb
          exact ⟨_, Ex.trans e1 e2, r2, .cons (.lst upd_same (a2.mono e2)) (h1.mono e2)⟩
theorem sdA_fz {K : PySem.W.Frag} {mg : Str → Option Value} {t : TA} {ma : Env → R (List BV × Env)} (h : SdA K mg W t ma) {a0 : Addr} {G : Hp} {Γ : Env} {σ : L2.St} {H F : Hp} {Q : List V → Hp → Prop} (r : Rel K a0 G Γ σ H F)
    (hk : OkG K mg G F W (fun y => ∀ vs H' F', Ex F F' → Rel K a0 G y.2 σ H' F' → RpA K F' vs y.1 → Q vs H') (mFzA ma Γ)) : t σ H Q := by
  refine h a0 G Γ σ H F Q r (okG_bind hk fun y _ hy => ?_)
  intro vs H1 F1 e1 r1 hb
  cases x : fzL y.1 y.2 with
  | none => rw [x] at hy; exact hy.elim
  | some z =>
    rw [x] at hy
    obtain ⟨ds, Γ'⟩ := z
    obtain ⟨F2, e2, r2, h2⟩ := Rel.fzA r1 hb x
    exact hy vs H1 F2 (Ex.trans e1 e2) r2 h2
theorem sx_tup {k : Nat} (h : SA X W es mas) : SX X W (.Tuple es k pos) (mTup mas) := by
  obtain ⟨t, p, s⟩ := h
  refine ⟨_, pe_tup p, fun a0 G Γ σ H F Q r hk => ?_⟩
  refine sdA_fz s r (okG_bind hk fun y _ hy vs H1 F1 e1 r1 hv => ?_)
  split at hy
  · rename_i hz
    refine ⟨by rw [hv.length]; exact sz_le hz, fun p hp => ?_⟩
    obtain ⟨e2, r2⟩ := r1.newF (o := .tup vs) hp
    exact hy (.ref p) _ _ (Ex.trans e1 e2) r2 (.tup (.inl (.inl upd_same)) (hv.mono e2))
  · exact hy.elim
theorem sx_lst (h : SA X W es mas) : SX X W (.List es pos) (mLst mas) := by
  obtain ⟨t, p, s⟩ := h
  refine ⟨_, pe_lst p, fun a0 G Γ σ H F Q r hk => ?_⟩
  refine sdA_fz s r (okG_bind hk fun y _ hy vs H1 F1 e1 r1 hv => ?_)
  split at hy
  · rename_i hz
    refine ⟨by rw [hv.length]; exact sz_le hz, fun p hp => ?_⟩
    obtain ⟨hG, r2⟩ := r1.newT (vs := vs) hp
    exact hy p vs _ F1 e1 hG r2 hv
  · exact hy.elim
theorem RpA.atI {K : PySem.W.Frag} {F : Hp} {vs : List V} {ds : List D} {i : Int} {d : D} (h : RpA K F vs ds) (e : atI ds i = some d) : ∃ v, L2.atI vs i = some v ∧ Rp K F v d := by
  unfold L2.atI at e ⊢
  rw [h.length]
  cases q : ixN ds.length i with
  | none => rw [q] at e; cases e
  | some j =>
    rw [q] at e
    exact h.get e
theorem sx_ix (ha : SX X W a ma) (hb : SX X W b mb) (hs : PlainIx b := by exact fun _ _ => rfl) : SX X W (.Subscript a b pos) (mB (two fIx) (mA1 ma (mA1 mb mA0))) := by
  obtain ⟨ta, pa, sa⟩ := ha
  obtain ⟨tb, pb, sb⟩ := hb
  refine ⟨_, pe_ix ix_seq pa pb hs, sdX_op (f := getItem) two_len (fun F H x y dx dy nw Q e hx hy hf hq => ?_) sa sb⟩
  simp only [two] at hf
  unfold fIx at hf
  split at hf
  · rename_i xs i h0
    cases h0
    cases q : L2.atI xs i with
    | none => rw [q] at hf; cases hf
    | some d =>
      rw [q] at hf; cases hf
      cases hy.int
      obtain ⟨p, vs, rfl, h1, h2⟩ := hx.lst e
      obtain ⟨v, h3, h4⟩ := h2.atI q
      exact .inl ⟨p, vs, i, v, rfl, rfl, SqL.of h1, h3, hq.1 _ h4⟩
  · rename_i xs i h0
    cases h0
    cases q : L2.atI xs i with
    | none => rw [q] at hf; cases hf
    | some d =>
      rw [q] at hf; cases hf
      cases hy.int
      obtain ⟨p, vs, rfl, h1, h2⟩ := hx.tup e
      obtain ⟨v, h3, h4⟩ := h2.atI q
      exact .inr (.inl ⟨p, vs, i, v, rfl, rfl, h1, h3, hq.1 _ h4⟩)
  · rename_i x i h0
    cases h0
    split at hf
    · rename_i hz
      cases q : L2.atI x.cps.toList i with
      | none => rw [q] at hf; cases hf
      | some c =>
        rw [q] at hf; cases hf
        cases hy.int
        cases hx.str
        exact .inr (.inr ⟨x, i, c, rfl, rfl, sz_le hz, q, hq.1 _ (.str _)⟩)
    · cases hf
  · cases hf
theorem RpA.cut {K : PySem.W.Frag} {F : Hp} {vs : List V} {ds : List D} (h : RpA K F vs ds) (lo hi : Option Int) : RpA K F (cutV vs lo hi) (cutD ds lo hi) := by
  unfold cutV cutD
  rw [h.length]
  exact (h.drop _).take _
theorem sl_any {F H : Hp} {x : V} {d : D} {nw : Nw} {lo hi : Option Int} {Q : VK} (e : Ex F H) (hx : Rh X.K F H x d) (hf : fSl lo hi d = some nw) (hq : Yld X.K F H nw Q) : (rSlL X.K x lo hi H Q ∨ rSlA X.K x lo hi H Q) := by
  cases d <;> simp only [fSl] at hf <;> try (cases hf; done)
  case lst xs =>
    cases hf
    obtain ⟨p, vs, rfl, h1, h2⟩ := hx.lst e
    exact .inl ⟨p, vs, rfl, SqL.of h1, fun q hp => hq q _ hp (h2.cut lo hi)⟩
  case scr ns =>
    cases hf
    obtain ⟨p, rfl, h1⟩ := hx.scr e
    exact .inl ⟨p, _, rfl, h1, fun q hp => hq q _ hp (RpA.ints.cut lo hi)⟩
  case tup xs =>
    cases hf
    have hx' := hx.rp (fun _ z => by cases z)
    obtain ⟨p, vs, rfl, h1, h2⟩ := hx.tup e
    refine .inr ⟨p, vs, rfl, h1, fun z => hq.1 _ ?_, fun _ q hp => hq.2 _ q _ rfl hp (h2.cut lo hi)⟩
    have : cutD xs lo hi = xs := by
      unfold cutD
      rw [h2.length] at z
      rw [z.1, z.2]
      simp
    rw [this]
    exact hx'
theorem sx_slH {p2 : Pos} (ha : SX X W a ma) (hb : SX X W b mb) : SX X W (.Subscript a (.Slice none (some b) none p2) pos) (mB fSlH (mA1 ma (mA1 mb mA0))) := by
  obtain ⟨ta, pa, sa⟩ := ha
  obtain ⟨tb, pb, sb⟩ := hb
  refine ⟨_, pe_slice (sl_list.or sl_tupA) pa po_none (po_some pb), sdX_B (r := fun vs H Q => match vs with | [x, y] => ∃ i, y = .int i ∧ (rSlL X.K x none (some i) H Q ∨ rSlA X.K x none (some i) H Q) | _ => False) (sdA_cons sa (sdA_cons sb sdA_nil)) (fun σ H Q h => h) fun F H vs ds nw Q e hv hf hy => ?_⟩
  unfold fSlH at hf
  split at hf
  · rename_i x i
    obtain ⟨x, y, rfl, h1, h2⟩ := hv.two
    cases h2.int
    exact ⟨i, rfl, sl_any e h1 hf hy⟩
  · cases hf
end
end Rg
namespace Rg
open PySem L2
def PF (K : PySem.W.Frag) (a0 : Addr) (G F : Hp) (E : Ends) : Fl → Prop
  | .nx Γ => ∀ σ H F', Ex F F' → Rel K a0 G Γ σ H F' → E.nx σ H
  | .bk Γ => ∀ σ H F', Ex F F' → Rel K a0 G Γ σ H F' → E.bk σ H
  | .ct Γ => ∀ σ H F', Ex F F' → Rel K a0 G Γ σ H F' → E.ct σ H
  | .rt (.v d) Γ => ∀ σ v H F', Ex F F' → Rel K a0 G Γ σ H F' → Rp K F' v d → E.rt v H
  | .rt (.o xs) Γ => ∀ σ p vs H F', Ex F F' → G p = none → Rel K a0 (upd G p (.lst vs)) Γ σ H F' → RpA K F' vs xs → E.rt (.ref p) H
def SdS (K : PySem.W.Frag) (mg : Str → Option Value) (W : WX) (t : TS) (m : Env → R Fl) : Prop :=
  ∀ a0 G Γ σ H F E, Rel K a0 G Γ σ H F → OkG K mg G F W (PF K a0 G F E) (m Γ) → t E σ H
def SS (X : Cx) (W : WX) (st : Stmt) (m : Env → R Fl) : Prop := ∃ t, PS X st t ∧ SdS X.K X.mg W t m
def SSs (X : Cx) (W : WX) (st : List Stmt) (m : Env → R Fl) : Prop := ∃ t, PSs X st t ∧ SdS X.K X.mg W t m
section
variable {K : PySem.W.Frag} {mg : Str → Option Value} {a0 : Addr} {G F F1 H : Hp} {Γ : Env} {σ : L2.St} {W : WX}
theorem PF.mono {E : Ends} {f : Fl} (e : Ex F F1) (h : PF K a0 G F E f) : PF K a0 G F1 E f := by
  cases f with
  | nx Γ => exact fun σ H F' e' => h σ H F' (Ex.trans e e')
  | bk Γ => exact fun σ H F' e' => h σ H F' (Ex.trans e e')
  | ct Γ => exact fun σ H F' e' => h σ H F' (Ex.trans e e')
  | rt w Γ =>
    cases w with
    | v d => exact fun σ v H F' e' => h σ v H F' (Ex.trans e e')
    | o xs => exact fun σ p vs H F' e' => h σ p vs H F' (Ex.trans e e')
theorem RelO.forget {i : Nat} {o : Option V} (r : RelO K a0 G Γ σ H F) : RelO K a0 G (Γ.set i .no) (σ.set i o) H F := by
  obtain ⟨O, ad, x⟩ := r
  have key : ∀ {j s}, gt (Γ.set i .no) j = s → s ≠ .no → j ≠ i ∧ gt Γ j = s := fun {j s} q n => by
    have hj : j ≠ i := fun z => by
      subst z
      have hl : j < Γ.length := by simpa using gt_lt q n
      rw [gt_set_same hl] at q; exact n q.symm
    rw [gt_set_ne hj] at q
    exact ⟨hj, q⟩
  refine ⟨O, ad, ⟨x.wd, x.o, x.fo, x.go, fun j d q => ?_, fun j q => ?_, fun j k q1 q2 q3 => x.inj j k (ownd_lt (s := .no) rfl q1).2 (ownd_lt (s := .no) rfl q2).2 q3, fun q => x.z (ownd_lt (s := .no) rfl q).2, by simpa using x.len, x.ol⟩⟩
  · obtain ⟨hj, q'⟩ := key q (by simp)
    rw [List.getElem?_set_ne (Ne.symm hj)]
    exact x.v j d q'
  · obtain ⟨hj, q'⟩ := ownd_lt (s := .no) rfl q
    rw [List.getElem?_set_ne (Ne.symm hj), gt_set_ne hj]
    exact x.own j q'
theorem Rel.forget {i : Nat} {o : Option V} (r : Rel K a0 G Γ σ H F) : Rel K a0 G (Γ.set i .no) (σ.set i o) H F := by
  obtain ⟨S, si, d, x⟩ := r
  exact ⟨S, si.to (Ex.refl F) (gt0_set (fun _ _ _ _ z => by cases z) set_get), d, x.forget⟩
theorem RelO.giveS {i : Nat} (r : RelO K a0 G Γ σ H F) (g : ownd (gt Γ i) = true) : ∃ p o, σ[i]? = some (some (.ref p)) ∧ G p = none ∧ RelO K a0 (upd G p o) (Γ.set i .no) σ H F ∧ OwS K F o (gt Γ i) := by
  obtain ⟨O, ad, x⟩ := r
  obtain ⟨h1, o, h2, h3⟩ := x.own i g
  have hF : F (ad i) = none := (x.fo (ad i)).elim id fun q => by rw [h2] at q; cases q
  have hG : G (ad i) = none := (x.go (ad i)).elim id fun q => by rw [h2] at q; cases q
  have hl : i < Γ.length := gt_lt rfl (fun z => by rw [z] at g; cases g)
  have key : ∀ {j s}, gt (Γ.set i .no) j = s → s ≠ .no → j ≠ i ∧ gt Γ j = s := fun {j s} q n => by
    have hj : j ≠ i := fun z => by subst z; rw [gt_set_same hl] at q; exact n q.symm
    rw [gt_set_ne hj] at q
    exact ⟨hj, q⟩
  have eO : Ex (fun b => if b = ad i then none else O b) O := fun b u q => by
    by_cases hb : b = ad i
    · simp [hb] at q
    · simpa [hb] using q
  refine ⟨ad i, o, h1, hG, ⟨fun b => if b = ad i then none else O b, ad, ⟨⟨x.wd.f, ex_updL x.wd.g (x.o _ _ h2), dj_upd' x.wd.d hF, x.wd.tb.toF (fun _ _ q _ => q) (ng_upd x.wd.tb.ng h3.mu)⟩, Ex.trans eO x.o, fun b => (x.fo b).elim .inl fun q => .inr (none_of_ex eO q), fun b => ?_, fun j d q => ?_, fun j q => ?_,
    fun j k q1 q2 q3 => x.inj j k (ownd_lt (s := .no) rfl q1).2 (ownd_lt (s := .no) rfl q2).2 q3, fun q => x.z (ownd_lt (s := .no) rfl q).2, by simpa using x.len, fun b o q => x.ol b o (eO b o q)⟩⟩, h3⟩
  · by_cases hb : b = ad i
    · exact .inr (if_pos hb)
    · rw [upd_ne hb]; exact (x.go b).elim .inl fun q => .inr (none_of_ex eO q)
  · obtain ⟨hj, q'⟩ := key q (by simp)
    exact x.v j d q'
  · obtain ⟨hj, q'⟩ := ownd_lt (s := .no) rfl q
    rw [gt_set_ne hj]
    obtain ⟨a1, us, a2, a3⟩ := x.own j q'
    refine ⟨a1, us, ?_, a3⟩
    show (if ad j = ad i then none else O (ad j)) = _
    rw [if_neg fun z => hj (x.inj j i q' g z)]
    exact a2
theorem Rel.giveS {i : Nat} (r : Rel K a0 G Γ σ H F) (g : ownd (gt Γ i) = true) : ∃ p o, σ[i]? = some (some (.ref p)) ∧ G p = none ∧ Rel K a0 (upd G p o) (Γ.set i .no) σ H F ∧ OwS K F o (gt Γ i) := by
  obtain ⟨S, si, d, x⟩ := r
  obtain ⟨p, o, h1, h2, h3, h4⟩ := x.giveS g
  obtain ⟨g1, g2⟩ := jn_none.mp h2
  exact ⟨p, o, h1, g1, ⟨S, si.to (Ex.refl F) (gt0_set (fun _ _ _ _ z => by cases z) fun _ _ => rfl), sg_new d g2, by rw [jn_upd]; exact h3⟩, h4⟩
theorem Rel.give {i : Nat} {xs : List D} (r : Rel K a0 G Γ σ H F) (g : gt Γ i = .o xs) : ∃ p vs, σ[i]? = some (some (.ref p)) ∧ G p = none ∧ Rel K a0 (upd G p (.lst vs)) (Γ.set i .no) σ H F ∧ RpA K F vs xs := by
  obtain ⟨p, o, h1, h2, h3, h4⟩ := r.giveS (ownd_o g)
  rw [g] at h4
  obtain ⟨vs, rfl, h5⟩ := h4
  exact ⟨p, vs, h1, h2, h3, h5⟩
end
def mRetN : Env → R Fl := fun Γ => .ok (.rt (.v .non) Γ)
def mBk : Env → R Fl := fun Γ => .ok (.bk Γ)
def mCt : Env → R Fl := fun Γ => .ok (.ct Γ)
section
variable {X : Cx} {W : WX} {st : Stmt} {sts : List Stmt} {e a b c : Expr} {pos : Pos} {m ma mb : Env → R Fl} {me mi : Env → R (BV × Env)} {mc : Env → R (Bool × Env)} {mas : Env → R (List BV × Env)}
theorem ss_nil : SSs X W [] mNx := ⟨_, pss_nil, fun a0 G Γ σ H F E r h => h σ H F (Ex.refl F) r⟩
theorem ss_cons (h1 : SS X W st ma) (h2 : SSs X W sts mb) : SSs X W (st :: sts) (mSeq ma mb) := by
  obtain ⟨t, p, s⟩ := h1
  obtain ⟨u, q, z⟩ := h2
  refine ⟨_, pss_cons p q, fun a0 G Γ σ H F E r h => ?_⟩
  refine s a0 G Γ σ H F { E with nx := u E } r (okG_bind h fun f _ hf => ?_)
  cases f with
  | nx Γ1 => exact fun σ1 H1 F1 e1 r1 => z a0 G Γ1 σ1 H1 F1 E r1 (okG_mono e1 hf fun f _ hf => hf.mono e1)
  | bk Γ1 => exact hf
  | ct Γ1 => exact hf
  | rt w Γ1 => cases w <;> exact hf
theorem ss_one (h1 : SS X W st ma) : SSs X W [st] ma := let ⟨_, p, s⟩ := h1; ⟨_, pss_one p, s⟩
theorem ss_expr (h : SX X W e me) (hs : swapsWith e none pos.line X.env = pure false := by rfl) : SS X W (.Expr e pos) (mDrop me) := by
  obtain ⟨t, p, s⟩ := h
  refine ⟨_, ps_expr p hs, fun a0 G Γ σ H F E r h => ?_⟩
  refine s a0 G Γ σ H F _ r (okG_bind h fun x _ hx => ?_)
  obtain ⟨b, Γ1⟩ := x
  exact PX_fz fun v H1 F1 e1 r1 _ => hx σ H1 F1 e1 r1
theorem ss_ret (h : SX X W e me) : SS X W (.Return (some e) pos) (mRet me) := by
  obtain ⟨t, p, s⟩ := h
  refine ⟨_, ps_ret p, fun a0 G Γ σ H F E r h => ?_⟩
  refine s a0 G Γ σ H F _ r (okG_bind h fun x _ hx => ?_)
  obtain ⟨b, Γ1⟩ := x
  cases b with
  | v d => exact fun v H1 F1 e1 r1 hv => hx σ v H1 F1 e1 r1 hv
  | o xs => exact fun p vs H1 F1 e1 hG r1 hv => hx σ p vs H1 F1 e1 hG r1 hv
  | s i =>
    intro v H1 F1 e1 r1 hv
    dsimp only at hx
    cases g : gt Γ1 i with
    | no => rw [g] at hx; exact hx.elim
    | m _ _ => rw [g] at hx; exact hx.elim
    | i _ _ _ _ => rw [g] at hx; exact hx.elim
    | v d =>
      rw [g] at hx
      obtain ⟨v', h1, h2⟩ := r1.getv g
      rw [h1] at hv; cases hv
      exact hx σ v H1 F1 e1 r1 h2
    | o xs =>
      rw [g] at hx
      obtain ⟨p, vs, h1, hG, r2, h2⟩ := r1.give g
      rw [h1] at hv; cases hv
      exact hx σ p vs H1 F1 e1 hG r2 h2
theorem ss_if {sa sb : List Stmt} (hc : ST X W c mc) (ha : SSs X W sa ma) (hb : SSs X W sb mb) : SS X W (.If c sa sb pos) (mIf mc ma mb) := by
  obtain ⟨t, p, s⟩ := hc
  obtain ⟨t1, p1, s1⟩ := ha
  obtain ⟨t2, p2, s2⟩ := hb
  refine ⟨_, ps_if p p1 p2, fun a0 G Γ σ H F E r h => ?_⟩
  refine s a0 G Γ σ H F _ r (okG_bind h fun x _ hx => ?_)
  obtain ⟨k, Γ1⟩ := x
  intro H1 F1 e1 r1
  dsimp only at hx ⊢
  cases k with
  | true => simp only [if_true] at hx ⊢; exact s1 a0 G Γ1 σ H1 F1 E r1 (okG_mono e1 hx fun y _ hy => hy.mono e1)
  | false => simp only [Bool.false_eq_true, if_false] at hx ⊢; exact s2 a0 G Γ1 σ H1 F1 E r1 (okG_mono e1 hx fun y _ hy => hy.mono e1)
theorem Rel.stB {K : PySem.W.Frag} {a0 : Addr} {G F : Hp} {σ : L2.St} {i : Nat} {b : BV} {Γ Γ' : Env} {N : L2.St → Hp → Prop} (hs : Rg.stB i b Γ = some Γ') (h : ∀ σ H F', Ex F F' → Rel K a0 G Γ' σ H F' → N σ H) :
    PX K a0 G F σ (fun v H => N (σ.set i (some v)) H) (b, Γ) := by
  cases b with
  | v d => cases hs; exact fun v H F' e r hv => h _ H F' e (r.setv hv)
  | o xs =>
    unfold Rg.stB at hs
    dsimp only at hs
    split at hs
    · rename_i hi; cases hs; exact fun p vs H F' e hG r hv => h _ H F' e (Rel.seto hi hG r hv)
    · cases hs
  | s j =>
    intro v H F' e r hv
    unfold Rg.stB at hs
    dsimp only at hs
    cases g : gt Γ j with
    | no => rw [g] at hs; cases hs
    | m _ _ => rw [g] at hs; cases hs
    | i _ _ _ _ => rw [g] at hs; cases hs
    | v d =>
      rw [g] at hs; cases hs
      obtain ⟨v', h1, h2⟩ := r.getv g
      rw [h1] at hv; cases hv
      exact h _ H F' e (r.setv h2)
    | o xs =>
      rw [g] at hs; cases hs
      obtain ⟨p, vs, h1, e2, h2, r2⟩ := r.frz g
      rw [h1] at hv; cases hv
      exact h _ H _ (Ex.trans e e2) (r2.setv (.lst upd_same (h2.mono e2)))
theorem sdS_set {t : TE} {i : Nat} (s : SdX X.K X.mg W t me) : SdS X.K X.mg W (tAsg t (gName i)) (mSet i me) := by
  intro a0 G Γ σ H F E r h
  refine s a0 G Γ σ H F _ r (okG_bind h fun x _ hx => ?_)
  obtain ⟨b, Γ1⟩ := x
  dsimp only at hx
  cases q : Rg.stB i b Γ1 with
  | none => rw [q] at hx; exact hx.elim
  | some Γ2 => rw [q] at hx; exact Rel.stB q fun σ H F' e r => hx σ H F' e r
theorem ss_set (i : Nat) {x : Str} {pos' : Pos} (hN : X.N.Nodup) (h : SX X W e me) (hi : X.N[i]? = some x := by rfl) (hx : Loc X.env.scope x := by first | exact Or.inl rfl | exact Or.inr rfl) (hs : swapsWith e (some (.Name x pos')) pos.line X.env = pure false := by rfl)
    (hf : X.fn x = true ∨ X.env.scope.names.lookup x = some .local := by first | exact .inl rfl | exact .inr rfl | assumption) : SS X W (.Assign [.Name x pos'] e pos) (mSet i me) := by
  obtain ⟨t, p, s⟩ := h
  exact ⟨_, ps_set hN hi hx p hs hf, sdS_set s⟩
theorem wipe_set_ne (σ : L2.St) (v : Option V) (i : Nat) : ∀ vs : List Nat, i ∉ vs → wipe (σ.set i v) vs = (wipe σ vs).set i v
  | [], _ => rfl
  | w :: vs, h => by
    have h' : i ≠ w ∧ i ∉ vs := ⟨fun z => h (by rw [z]; exact List.mem_cons_self ..), fun z => h (List.mem_cons_of_mem _ z)⟩
    simp only [wipe, wipe_set_ne σ v i vs h'.2]
    exact List.set_comm _ _ h'.1
theorem wipe_set (σ : L2.St) (v : Option V) (i : Nat) : ∀ vs : List Nat, i ∈ vs → wipe (σ.set i v) vs = wipe σ vs
  | [], h => by simp at h
  | w :: vs, h => by
    by_cases hm : i ∈ vs
    · simp only [wipe, wipe_set σ v i vs hm]
    · have e : i = w := (List.mem_cons.mp h).resolve_right hm
      subst e
      simp only [wipe, wipe_set_ne σ v i vs hm, List.set_set]
def Wp (σ' σ : L2.St) (ws : List Nat) : Prop := ∀ vs, (∀ w ∈ ws, w ∈ vs) → wipe σ' vs = wipe σ vs
def SdG (K : PySem.W.Frag) (g : TG) (f : D → Env → Option Env) (ws : List Nat) : Prop := ∀ a0 G Γ σ H F v d Γ' Q, Rel K a0 G Γ σ H F → Rp K F v d → f d Γ = some Γ' → (∀ σ' H' F', Ex F F' → Rel K a0 G Γ' σ' H' F' → Wp σ' σ ws → Q σ' H') → g v σ H Q
def SdGs (K : PySem.W.Frag) (g : TGs) (f : List D → Env → Option Env) (ws : List Nat) : Prop := ∀ a0 G Γ σ H F vs ds Γ' Q, Rel K a0 G Γ σ H F → RpA K F vs ds → f ds Γ = some Γ' → (∀ σ' H' F', Ex F F' → Rel K a0 G Γ' σ' H' F' → Wp σ' σ ws → Q σ' H') → g vs σ H Q
def SG (X : Cx) (tg : Expr) (f : D → Env → Option Env) (ws : List Nat) : Prop := ∃ g, PG X tg g ∧ SdG X.K g f ws
def SGs (X : Cx) (tgs : List Expr) (f : List D → Env → Option Env) (ws : List Nat) : Prop := ∃ g, PGs X tgs g ∧ SdGs X.K g f ws
theorem sg_name (i : Nat) {x : Str} (hN : X.N.Nodup) (hi : X.N[i]? = some x := by rfl) (hx : Loc X.env.scope x := by first | exact Or.inl rfl | exact Or.inr rfl) (hf : X.fn x = true ∨ X.env.scope.names.lookup x = some .local := by first | exact .inl rfl | exact .inr rfl | assumption) :
    SG X (.Name x pos) (gN i) [i] :=
  ⟨_, pg_name hN hi hx hf, fun a0 G Γ σ H F v d Γ' Q r hv hf h => by cases hf; exact h _ H F (Ex.refl F) (r.setv hv) fun vs hw => wipe_set σ _ i vs (hw i (List.mem_cons_self ..))⟩
theorem sgs_nil : SGs X [] gs0 [] := ⟨_, pgs_nil, fun a0 G Γ σ H F vs ds Γ' Q r hv hf h => by
  cases hv with
  | nil => cases hf; exact ⟨rfl, h σ H F (Ex.refl F) r fun _ _ => rfl⟩
  | cons _ _ => cases hf⟩
theorem sgs_cons {tg : Expr} {tgs : List Expr} {f : D → Env → Option Env} {fs : List D → Env → Option Env} {ws ws2 : List Nat} (h1 : SG X tg f ws) (h2 : SGs X tgs fs ws2) (hs : (assignEach (tg :: tgs) X.env).map (·.2) = assign tg X.env :: (assignEach tgs X.env).map (·.2) := by rfl) :
    SGs X (tg :: tgs) (gs1 f fs) (ws ++ ws2) := by
  obtain ⟨g, p, s⟩ := h1
  obtain ⟨u, q, z⟩ := h2
  refine ⟨_, pgs_cons p q hs, fun a0 G Γ σ H F vs ds Γ' Q r hv hf h => ?_⟩
  cases hv with
  | nil => cases hf
  | cons hv ha =>
    rename_i v vs d ds
    simp only [gs1] at hf
    cases q1 : f d Γ with
    | none => rw [q1] at hf; cases hf
    | some Γ1 =>
      rw [q1, Option.bind_some] at hf
      exact ⟨v, vs, rfl, s a0 G Γ σ H F v d Γ1 _ r hv q1 fun σ1 H1 F1 e1 r1 w1 => z a0 G Γ1 σ1 H1 F1 vs ds Γ' Q r1 (ha.mono e1) hf fun σ2 H2 F2 e2 r2 w2 => h σ2 H2 F2 (Ex.trans e1 e2) r2 fun us hu =>
        (w2 us fun w hw => hu w (List.mem_append_right _ hw)).trans (w1 us fun w hw => hu w (List.mem_append_left _ hw))⟩
theorem sg_tup {tgs : List Expr} {k n : Nat} {fs : List D → Env → Option Env} {ws : List Nat} (hc : X.calm = true) (h : SGs X tgs fs ws) (hn : (assignEach tgs X.env).length = n := by rfl) (hst : (assignEach tgs X.env).findIdx? (·.1) = none := by rfl) : SG X (.Tuple tgs k pos) (gT n fs) ws := by
  obtain ⟨g, p, s⟩ := h
  refine ⟨_, pg_tup hc p hn hst, fun a0 G Γ σ H F v d Γ' Q r hv hf h => ?_⟩
  unfold gT at hf
  split at hf
  · rename_i ds
    split at hf
    · rename_i hl
      cases hv with
      | tup h1 h2 => exact ⟨_, _, rfl, Evl.ex_t r.wd.f h1, h2.length.trans hl, s a0 G Γ σ H F _ ds Γ' Q r h2 hf h⟩
    · cases hf
  · cases hf
theorem sdX_fz {K : PySem.W.Frag} {mg : Str → Option Value} {t : TE} {m : Env → R (BV × Env)} (h : SdX K mg W t m) {a0 : Addr} {G : Hp} {Γ : Env} {σ : L2.St} {H F : Hp} {Q : VK} (r : Rel K a0 G Γ σ H F)
    (hk : OkG K mg G F W (fun y => ∀ v H' F', Ex F F' → Rel K a0 G y.2 σ H' F' → Rp K F' v y.1 → Q v H') (mFz1 m Γ)) : t σ H Q := by
  refine h a0 G Γ σ H F Q r (okG_bind hk fun y _ hy => ?_)
  obtain ⟨b, Γ1⟩ := y
  refine PX_fz fun v H1 F1 e1 r1 hb => ?_
  dsimp only at hy
  cases q : b.fz with
  | o xs => rw [q] at hb; exact hb.elim
  | v d => rw [q] at hy hb; exact hy v H1 F1 e1 r1 hb
  | s i =>
    rw [q] at hy hb
    have hb : σ[i]? = some (some v) := hb
    dsimp only at hy
    cases g : gt Γ1 i with
    | no => rw [g] at hy; exact hy.elim
    | m _ _ => rw [g] at hy; exact hy.elim
    | i _ _ _ _ => rw [g] at hy; exact hy.elim
    | v d =>
      rw [g] at hy
      obtain ⟨v', h1, h2⟩ := r1.getv g
      rw [h1] at hb; cases hb
      exact hy v H1 F1 e1 r1 h2
    | o xs =>
      rw [g] at hy
      obtain ⟨p, vs, h1, e2, h2, r2⟩ := r1.frz g
      rw [h1] at hb; cases hb
      exact hy _ H1 _ (Ex.trans e1 e2) r2 (.lst upd_same (h2.mono e2))
theorem ss_asg {tg : Expr} {f : D → Env → Option Env} {ws : List Nat} (h : SX X W e me) (hg : SG X tg f ws) (hs : swapsWithSole [tg] e pos.line X.env = pure false := by rfl) (hw : swappedStores [tg] e X.env = pure none := by rfl)
    (h1 : (assignEach [tg] X.env).map (·.2) = [assign tg X.env] := by rfl) : SS X W (.Assign [tg] e pos) (mAsg f me) := by
  obtain ⟨t, p, s⟩ := h
  obtain ⟨g, q, z⟩ := hg
  refine ⟨_, ps_asg p q hs hw h1, fun a0 G Γ σ H F E r h => ?_⟩
  refine sdX_fz s r (okG_bind h fun x _ hx v H1 F1 e1 r1 hv => ?_)
  cases q1 : f x.1 x.2 with
  | none => rw [q1] at hx; exact hx.elim
  | some Γ1 =>
    rw [q1] at hx
    exact z a0 G x.2 σ H1 F1 v x.1 Γ1 _ r1 hv q1 fun σ2 H2 F2 e2 r2 _ => hx σ2 H2 F2 (Ex.trans e1 e2) r2
def IpS (X : Cx) (op : Operator) (bf : List D → Option Nw) : Prop := ∃ r, PIp X op r ∧ ∀ H a b c Q, bf [.int a, .int b] = some (.v (.int c)) → Q (.int c) H → r (.int a) (.int b) H Q
theorem is_add : IpS X .Add fAdd := ⟨_, ip_add, fun H a b c Q h q => by simp only [fAdd] at h; cases h; exact ⟨a, b, rfl, rfl, q⟩⟩
theorem ss_aug (i : Nat) {x : Str} {op : Operator} {bf : List D → Option Nw} {pos' : Pos} (hN : X.N.Nodup) (ho : IpS X op bf) (h : SX X W e me) (hi : X.N[i]? = some x := by rfl) (hx : Loc X.env.scope x := by first | exact Or.inl rfl | exact Or.inr rfl)
    (hf : X.fn x = true ∨ X.env.scope.names.lookup x = some .local := by first | exact .inl rfl | exact .inr rfl | assumption) : SS X W (.AugAssign (.Name x pos') op e pos) (mAug i bf me) := by
  obtain ⟨t, p, s⟩ := h
  obtain ⟨r0, p0, s0⟩ := ho
  refine ⟨_, ps_aug hN hi hx p p0 hf, fun a0 G Γ σ H F E r h => ?_⟩
  unfold mAug at h
  split at h
  · rename_i a g
    obtain ⟨v, h1, h2⟩ := r.getv g
    cases h2
    refine ⟨.int a, h1, s a0 G Γ σ H F _ r (okG_bind h fun y _ hy => ?_)⟩
    obtain ⟨b, Γ1⟩ := y
    dsimp only at hy
    split at hy
    · rename_i k _
      split at hy
      · rename_i c hc
        intro v H1 F1 e1 r1 hv
        cases hv
        exact s0 H1 a k c _ hc (hy _ H1 F1 e1 (r1.setv (.int c)))
      · exact hy.elim
    · exact hy.elim
  · exact h.elim
theorem ss_setIx (k : Nat) {x : Str} {i : Expr} {p1 p2 : Pos} (he : SX X W e me) (hi : SX X W i mi) (hN : X.N[k]? = some x := by rfl) (hv : Vis X.env.scope x := by first | exact Or.inl rfl | exact Or.inr (Or.inl rfl) | exact Or.inr (Or.inr rfl)) (hd : (x == ("__debug__" : Str)) = false := by decide)
    (hcd : (x == ("__classdict__" : Str)) = false := by decide) (ha : ∀ v, assign (.Subscript (.Name x p1) i p2) X.env v = (do
      let ov ← holding [v] (eval (.Name x p1) X.env)
      let iv ← holding [v, ov] (eval i X.env)
      standAt p2
      holding [v, ov, iv] (setItem ov iv v)
      release [v, ov, iv] []) := by intros; rfl) (hs : swapsWithSole [.Subscript (.Name x p1) i p2] e pos.line X.env = pure false := by rfl) (hw : swappedStores [.Subscript (.Name x p1) i p2] e X.env = pure none := by rfl)
    (h1 : (assignEach [.Subscript (.Name x p1) i p2] X.env).map (·.2) = [assign (.Subscript (.Name x p1) i p2) X.env] := by rfl) : SS X W (.Assign [.Subscript (.Name x p1) i p2] e pos) (mSetIx k mi me) := by
  obtain ⟨t, p, s⟩ := he
  obtain ⟨ti, pi, si⟩ := hi
  refine ⟨_, ps_asg p (pg_sub (pe_var hN hv hd hcd) pi set_list ha) hs hw h1, fun a0 G Γ σ H F E r h => ?_⟩
  refine sdX_fz s r (okG_bind h fun y _ hy v H1 F1 e1 r1 hv => ?_)
  obtain ⟨d, Γ1⟩ := y
  dsimp only at hy hv r1
  split at hy
  · rename_i xs0 g0
    obtain ⟨q, vs0, h1, h2, h3, h4, h5⟩ := r1.geto g0
    refine ⟨.ref q, h1, si a0 G Γ1 σ H1 F1 _ r1 (okG_mono e1 (okG_bind hy fun z _ hz => hz) fun z _ hz => ?_)⟩
    obtain ⟨b, Γ2⟩ := z
    dsimp only at hz
    split at hz
    · rename_i n xs hg _
      split at hz
      · rename_i j hj
        intro u H2 F2 e2 r2 hu
        cases hu
        obtain ⟨q', vs, a1, a2, a3, a4, a5⟩ := r2.geto hg
        rw [h1] at a1; cases a1
        exact ⟨q, vs, n, j, rfl, rfl, a2, by rw [a3.length]; exact hj, hz σ _ F2 (Ex.trans e1 e2) (r2.mut hg h1 (a3.set (hv.mono e2) j))⟩
      · exact hz.elim
    · exact hz.elim
  · exact hy.elim
end
end Rg
namespace Rg
open PySem L2
section
variable {X : Cx} {W : WX} {st : Stmt} {sts : List Stmt} {e a b c i : Expr} {es : List Expr} {pos : Pos} {m ma mb : Env → R Fl} {me mi : Env → R (BV × Env)} {mc : Env → R (Bool × Env)} {mas : Env → R (List BV × Env)}
def MeS (X : Cx) (id : String) (f : List D → List D → Option (D × List D)) : Prop := ∃ r, MtR X id r ∧ ∀ F H p vs xs ws ds d xs' Q, Ex F H → H p = some (.lst vs) → RpA X.K F vs xs → RpA X.K F ws ds → f xs ds = some (d, xs') →
  (∀ v vs', Rp X.K F v d → RpA X.K F vs' xs' → Q v (upd H p (.lst vs'))) → r (.ref p) ws H Q
theorem sdX_me {k : Nat} {f : List D → List D → Option (D × List D)} {r : V → List V → Hp → VK → Prop} {t : TA} (hr : ∀ F H p vs xs ws ds d xs' Q, Ex F H → H p = some (.lst vs) → RpA X.K F vs xs → RpA X.K F ws ds → f xs ds = some (d, xs') →
  (∀ v vs', Rp X.K F v d → RpA X.K F vs' xs' → Q v (upd H p (.lst vs'))) → r (.ref p) ws H Q) (s : SdA X.K X.mg W t mas) : SdX X.K X.mg W (tBM X.K "list" r (tVar k) t) (mMe k f mas) := by
  intro a0 G Γ σ H F Q rel h
  unfold mMe at h
  split at h
  · rename_i xs0 g0
    obtain ⟨q, vs0, h1, h2, h3, h4, h5⟩ := rel.geto g0
    refine ⟨.ref q, h1, .inl ⟨rfl, vs0, SqL.of h2⟩, sdA_fz s rel (okG_bind h fun y _ hy ws H1 F1 e1 r1 hv => ?_)⟩
    split at hy
    · rename_i xs g
      split at hy
      · rename_i z hz
        obtain ⟨q', vs, a1, a2, a3, a4, a5⟩ := r1.geto g
        rw [h1] at a1; cases a1
        exact hr F1 H1 q vs xs ws y.1 z.1 z.2 Q r1.wd.f a2 a3 hv hz fun v vs' hv' ha => hy v _ F1 e1 (r1.mut g h1 ha) hv'
      · exact hy.elim
    · exact hy.elim
  · exact h.elim
theorem sx_me (k : Nat) {x : Str} {name : Str} {id : String} {f : List D → List D → Option (D × List D)} {p1 apos : Pos} (slot : Slot "list" name id) (hty : typeOf (.builtin id) = pure (.type "method_descriptor")) (hm : MeS X id f) (ha : SA X W (e :: es) mas)
    (hN : X.N[k]? = some x := by rfl) (hv : Vis X.env.scope x := by first | exact Or.inl rfl | exact Or.inr (Or.inl rfl) | exact Or.inr (Or.inr rfl)) (hd : (x == ("__debug__" : Str)) = false := by decide) (hcd : (x == ("__classdict__" : Str)) = false := by decide)
    (hbase : attributeBase (.Name x p1) name X.env (eval (.Name x p1) X.env) = eval (.Name x p1) X.env := by rfl)
    (hfew : ((backTo pos (starEach (e :: es) X.env)).all (fun x => !x.1) && (backToKw pos (keywordEach [] X.env)).all (fun x => x.1.isSome)
      && decide ((e :: es).length + ([] : List Keyword).length + (if ([] : List Keyword).isEmpty then 0 else 1) < 30)) = true := by rfl)
    (hline : (apos.endLine == pos.line) = true := by rfl) (hs : starEach (e :: es) X.env = (false, eval e X.env) :: starEach es X.env := by rfl) (hplain : (backTo pos (starEach es X.env)).any (·.1) = false := by rfl) :
    SX X W (.Call (.Attribute (.Name x p1) name apos) (e :: es) [] pos) (mMe k f mas) := by
  obtain ⟨r, h1, h2⟩ := hm
  obtain ⟨t, p, s⟩ := ha
  exact ⟨_, pe_bm PySem.F.plainAttrs_list slot hty h1 (pe_var hN hv hd hcd) p hbase hfew hline hs hplain, sdX_me h2 s⟩
theorem ms_append : MeS X "list.append" fApp := by
  refine ⟨_, mt_append, fun F H p vs xs ws ds d xs' Q e hp hx hw hf hq => ?_⟩
  unfold fApp at hf
  split at hf
  · split at hf
    · rename_i hz
      cases hf
      cases hw with
      | cons h1 hw => cases hw; exact ⟨p, vs, _, rfl, rfl, hp, by rw [hx.length]; exact sz_lt hz, hq _ _ .non (hx.append (.cons h1 .nil))⟩
    · cases hf
  · cases hf
theorem ss_while (n : Nat) {body : List Stmt} (hp : PassesOwn (model X.prog X.w) X.A X.env X.xe) (hc : ST X W c mc) (hb : SSs X W body mb) : SS X W (.While c body [] pos) (mWh mc mb n) := by
  obtain ⟨tc, pc, sc⟩ := hc
  obtain ⟨t, p, s⟩ := hb
  refine ⟨_, ps_while hp pc p, fun a0 G Γ σ H F E r h => ?_⟩
  refine ⟨fun n σ H => ∃ Γ F', Ex F F' ∧ Rel X.K a0 G Γ σ H F' ∧ OkG X.K X.mg G F' W (PF X.K a0 G F' E) (mWh mc mb n Γ), ⟨n, Γ, F, Ex.refl F, r, h⟩, ?_⟩
  rintro n σ1 H1 ⟨Γ1, F1, e1, r1, h1⟩
  cases n with
  | zero => exact h1.elim
  | succ n =>
    refine sc a0 G Γ1 σ1 H1 F1 _ r1 (okG_bind h1 fun x _ hx => ?_)
    obtain ⟨k, Γ2⟩ := x
    intro H2 F2 e2 r2
    dsimp only at hx ⊢
    cases k with
    | false => simp only [Bool.false_eq_true, if_false] at hx ⊢; exact hx σ1 H2 F2 e2 r2
    | true =>
      simp only [if_true] at hx ⊢
      refine ⟨fun σ H => ∃ Γ F', Ex F F' ∧ Rel X.K a0 G Γ σ H F' ∧ OkG X.K X.mg G F' W (PF X.K a0 G F' E) (mWh mc mb n Γ), fun σ' H' hN => ⟨n, Nat.lt_succ_self n, hN⟩, ?_⟩
      refine s a0 G Γ2 σ1 H2 F2 _ r2 (okG_mono e2 (okG_bind hx fun f _ hf => hf) fun f _ hf => ?_)
      cases f with
      | nx Γ3 => exact fun σ3 H3 F3 e3 r3 => ⟨Γ3, F3, Ex.trans e1 (Ex.trans e2 e3), r3, okG_mono (Ex.trans e2 e3) hf fun y _ hy => hy.mono (Ex.trans e2 e3)⟩
      | ct Γ3 => exact fun σ3 H3 F3 e3 r3 => ⟨Γ3, F3, Ex.trans e1 (Ex.trans e2 e3), r3, okG_mono (Ex.trans e2 e3) hf fun y _ hy => hy.mono (Ex.trans e2 e3)⟩
      | bk Γ3 => exact fun σ3 H3 F3 e3 r3 => hf σ3 H3 F3 (Ex.trans e2 e3) r3
      | rt w Γ3 => cases w with
        | v d => exact fun σ3 v H3 F3 e3 r3 hv => hf σ3 v H3 F3 (Ex.trans e2 e3) r3 hv
        | o xs => exact fun σ3 p vs H3 F3 e3 hG r3 hv => hf σ3 p vs H3 F3 (Ex.trans e2 e3) hG r3 hv
def Gv (K : PySem.W.Frag) (F' : Hp) (ds : List D) (n : Nat) (Gd : Hp → Prop) (Y : Nat → Hp → V → Hp → Prop) : Prop :=
  ds.length = n ∧ (∀ F2 H2, Ex F' F2 → Ex F2 H2 → Gd H2) ∧ ∀ i d, ds[i]? = some d → ∀ F2 H2 x H3, Ex F' F2 → Ex F2 H2 → Y i H2 x H3 →
    (H3 = H2 ∧ Rp K F2 x d) ∨ ∃ T vs ds', x = .ref T ∧ H2 T = none ∧ H3 = upd H2 T (.tup vs) ∧ d = .tup ds' ∧ RpA K F2 vs ds'
def PIt (K : PySem.W.Frag) (a0 : Addr) (G F : Hp) (σ : L2.St) (Rr : It → Hp → Prop) : List D × Env → Prop := fun y => ∀ J n Gd Y H F', Ex F F' → Rel K a0 G y.2 σ H F' → Walk J n Gd Y → Gv K F' y.1 n Gd Y → Rr J H
def SdI (K : PySem.W.Frag) (mg : Str → Option Value) (W : WX) (wi : TI) (m : Env → R (List D × Env)) : Prop :=
  ∀ a0 G Γ σ H F Rr, Rel K a0 G Γ σ H F → OkG K mg G F W (PIt K a0 G F σ Rr) (m Γ) → wi σ H Rr
def SI (X : Cx) (W : WX) (tg iter : Expr) (m : Env → R (List D × Env)) : Prop := ∃ wi, PI X tg iter wi ∧ SdI X.K X.mg W wi m
theorem Rel.item {K : PySem.W.Frag} {a0 : Addr} {G F' H : Hp} {Γ : Env} {σ : L2.St} {F : Hp} {ds : List D} {n i : Nat} {Gd : Hp → Prop} {Y : Nat → Hp → V → Hp → Prop} {d : D} {x : V} {H3 : Hp} (gv : Gv K F' ds n Gd Y) (e : Ex F' F) (r : Rel K a0 G Γ σ H F) (hd : ds[i]? = some d) (hy : Y i H x H3) :
    ∃ F2, Ex F F2 ∧ Rel K a0 G Γ σ H3 F2 ∧ Rp K F2 x d := by
  rcases gv.2.2 i d hd F H x H3 e r.wd.f hy with ⟨rfl, hx⟩ | ⟨T, vs, ds', rfl, hT, rfl, rfl, hv⟩
  · exact ⟨F, Ex.refl F, r, hx⟩
  · obtain ⟨e2, r2⟩ := r.newF (o := .tup vs) hT
    exact ⟨_, e2, r2, .tup (.inl (.inl upd_same)) (hv.mono e2)⟩
theorem ss_for {tg iter : Expr} {body : List Stmt} {mit : Env → R (List D × Env)} {f : D → Env → Option Env} {ws : List Nat} (hp : PassesOwn (model X.prog X.w) X.A X.env X.xe) (hc : X.calm = true) (hi : SI X W tg iter mit) (hg : SG X tg f ws) (hb : SSs X W body mb)
    (hs : ∀ x, foldedSetIterable iter X.env x = pure x := by intro _; rfl) : SS X W (.For tg iter body [] pos) (mFor mit f mb) := by
  obtain ⟨wi, pi, si⟩ := hi
  obtain ⟨g, pg, sg⟩ := hg
  obtain ⟨t, p, s⟩ := hb
  refine ⟨_, ps_for hp hc pi pg p hs, fun a0 G Γ σ H F E r h => ?_⟩
  refine si a0 G Γ σ H F _ r (okG_bind h fun y _ hy J n Gd Y H1 F1 e1 r1 wk gv => ?_)
  obtain ⟨ds, Γ1⟩ := y
  dsimp only at hy r1 gv
  refine for_it wk (fun i σ H => ∃ Γ F', Ex F1 F' ∧ Rel X.K a0 G Γ σ H F' ∧ OkG X.K X.mg G F' W (PF X.K a0 G F' E) (mForL f mb (ds.drop i) Γ)) ⟨Γ1, F1, Ex.refl F1, r1, okG_mono e1 hy fun y _ hy => hy.mono e1⟩ ?_ ?_ ?_
  · rintro i σ2 H2 _ ⟨Γ2, F2, e2, r2, _⟩
    exact gv.2.1 F2 H2 e2 r2.wd.f
  · rintro i x σ2 H2 H3 hin ⟨Γ2, F2, e2, r2, h2⟩ hY
    have hil : i < ds.length := by rw [gv.1]; exact hin
    have hd : ds[i]? = some ds[i] := List.getElem?_eq_getElem hil
    obtain ⟨F3, e3, r3, hx⟩ := Rel.item gv e2 r2 hd hY
    rw [List.drop_eq_getElem_cons hil] at h2
    simp only [mForL] at h2
    split at h2
    · exact h2.elim
    · rename_i Γ3 hf
      refine sg a0 G Γ2 σ2 H3 F3 x ds[i] Γ3 _ r3 hx hf fun σ4 H4 F4 e4 r4 _ => ?_
      have e34 : Ex F2 F4 := Ex.trans e3 e4
      refine s a0 G Γ3 σ4 H4 F4 _ r4 (okG_mono e34 (okG_bind h2 fun f _ hf => hf) fun f _ hf => ?_)
      cases f with
      | nx Γ5 => exact fun σ5 H5 F5 e5 r5 => ⟨Γ5, F5, Ex.trans e2 (Ex.trans e34 e5), r5, okG_mono (Ex.trans e34 e5) hf fun y _ hy => hy.mono (Ex.trans e34 e5)⟩
      | ct Γ5 => exact fun σ5 H5 F5 e5 r5 => ⟨Γ5, F5, Ex.trans e2 (Ex.trans e34 e5), r5, okG_mono (Ex.trans e34 e5) hf fun y _ hy => hy.mono (Ex.trans e34 e5)⟩
      | bk Γ5 => exact fun σ5 H5 F5 e5 r5 => hf σ5 H5 F5 (Ex.trans e34 e5) r5
      | rt w Γ5 => cases w with
        | v d => exact fun σ5 v H5 F5 e5 r5 hv => hf σ5 v H5 F5 (Ex.trans e34 e5) r5 hv
        | o xs => exact fun σ5 p vs H5 F5 e5 hG r5 hv => hf σ5 p vs H5 F5 (Ex.trans e34 e5) hG r5 hv
  · rintro σ2 H2 ⟨Γ2, F2, e2, r2, h2⟩
    rw [List.drop_eq_nil_of_le (by rw [gv.1]; exact Nat.le_refl _)] at h2
    exact h2 σ2 H2 F2 (Ex.refl F2) r2
end
end Rg
namespace Rg
open PySem PySem.Spec PyProof.Rows L2
open AutoSeq1 (wpAny_loadPart')
section
variable {prog : Program} {w : World} {A : Around} {E : Value → Shared → Prop} {s : Shared}
end
end Rg
namespace Rg
open PySem L2
theorem rngD_len (lo c : Int) (n : Nat) : (rngD lo c n).length = n := by simp [rngD]
theorem rngD_get {lo c : Int} {n i : Nat} {d : D} (h : (rngD lo c n)[i]? = some d) : d = .int (lo + i * c) := by
  simp only [rngD, List.getElem?_map] at h
  cases q : (List.range n)[i]? with
  | none => rw [q] at h; cases h
  | some k =>
    rw [q] at h; cases h
    have := (List.getElem?_eq_some_iff.mp q).2
    simp at this
    rw [this]
theorem zipD_len : ∀ (as bs : List D), (zipD as bs).length = min as.length bs.length
  | [], _ => by simp [zipD]
  | _ :: _, [] => by simp [zipD]
  | _ :: as, _ :: bs => by simp [zipD, zipD_len as bs]
theorem zipD_get : ∀ {as bs : List D} {i : Nat} {d : D}, (zipD as bs)[i]? = some d → ∃ x y, as[i]? = some x ∧ bs[i]? = some y ∧ d = .tup [x, y]
  | [], _, _, _, h => by simp [zipD] at h
  | _ :: _, [], _, _, h => by simp [zipD] at h
  | a :: as, b :: bs, 0, d, h => by simp [zipD] at h; exact ⟨a, b, rfl, rfl, h.symm⟩
  | _ :: as, _ :: bs, i + 1, d, h => by
    simp only [zipD, List.getElem?_cons_succ] at h ⊢
    exact zipD_get h
section
variable {X : Cx} {W : WX} {tg e e2 a b c : Expr} {es : List Expr} {pos : Pos} {me : Env → R (BV × Env)} {mas : Env → R (List BV × Env)}
def mIl (m : Env → R (BV × Env)) : Env → R (List D × Env) := fun Γ => (mFz1 m Γ).bind fun x => match x.1 with
  | .lst xs => .ok (xs, x.2)
  | _ => .bad
def mIt (m : Env → R (BV × Env)) : Env → R (List D × Env) := fun Γ => (mFz1 m Γ).bind fun x => match x.1 with
  | .tup xs => .ok (xs, x.2)
  | _ => .bad
theorem si_list (h : SX X W e me) : SI X W tg e (mIl me) := by
  obtain ⟨t, p, s⟩ := h
  refine ⟨_, pi_list p, fun a0 G Γ σ H F Rr r hk => ?_⟩
  refine sdX_fz s r (okG_bind hk fun y _ hy v H1 F1 e1 r1 hv => ?_)
  obtain ⟨d, Γ1⟩ := y
  dsimp only at hy hv
  split at hy
  · cases hv with
    | lst h1 h2 =>
      refine ⟨_, rfl, ⟨_, SqL.of (r1.wd.f _ _ h1)⟩, hy _ _ _ _ H1 F1 e1 r1 walk_list ⟨h2.length.symm, fun F2 H2 e2 e3 => SqL.of (e3 _ _ (e2 _ _ h1)), fun i d hd F2 H2 x H3 e2 e3 hY => ?_⟩⟩
      obtain ⟨rfl, hx⟩ := hY
      obtain ⟨d', q1, q2⟩ := h2.getV hx
      rw [q1] at hd; cases hd
      exact .inl ⟨rfl, q2.mono e2⟩
  · exact hy.elim
theorem si_tup (h : SX X W e me) : SI X W tg e (mIt me) := by
  obtain ⟨t, p, s⟩ := h
  refine ⟨_, pi_tup p, fun a0 G Γ σ H F Rr r hk => ?_⟩
  refine sdX_fz s r (okG_bind hk fun y _ hy v H1 F1 e1 r1 hv => ?_)
  obtain ⟨d, Γ1⟩ := y
  dsimp only at hy hv
  split at hy
  · cases hv with
    | tup h1 h2 =>
      refine ⟨_, rfl, ⟨_, Evl.ex_t r1.wd.f h1⟩, hy _ _ _ _ H1 F1 e1 r1 walk_tup ⟨h2.length.symm, fun F2 H2 e2 e3 => Evl.ex_t e3 (Evl.ex_t e2 h1), fun i d hd F2 H2 x H3 e2 e3 hY => ?_⟩⟩
      obtain ⟨rfl, hx⟩ := hY
      obtain ⟨d', q1, q2⟩ := h2.getV hx
      rw [q1] at hd; cases hd
      exact .inl ⟨rfl, q2.mono e2⟩
  · exact hy.elim
theorem si_r1 {p : Pos} (hg : Gl X "range") (hm : X.mg "range" = none) (ha : SA X W [a] mas) (hs : starEach [a] X.env = [(false, eval a X.env)] := by rfl) : SI X W tg (.Call (.Name "range" p) [a] [] pos) (mR1 mas) := by
  obtain ⟨t, pa, s⟩ := ha
  refine ⟨_, pi_range1 hg hm pa hs, fun a0 G Γ σ H F Rr r hk => ?_⟩
  refine sdA_fz s r (okG_bind hk fun y _ hy vs H1 F1 e1 r1 hv => ?_)
  obtain ⟨ds, Γ1⟩ := y
  dsimp only at hy hv
  split at hy
  · rename_i j _
    split at hy
    · rename_i hz
      cases hv with
      | cons h1 hv =>
        cases hv
        cases h1
        refine ⟨j, rfl, hz.1, hz.2, hy _ _ _ _ H1 F1 e1 r1 (walk_range (lo := 0)) ⟨rngD_len _ _ _, fun _ _ _ _ => trivial, fun i d hd F2 H2 x H3 _ _ hY => ?_⟩⟩
        obtain ⟨rfl, rfl⟩ := hY
        rw [rngD_get hd]
        exact .inl ⟨rfl, by rw [Int.mul_one]; exact .int _⟩
    · exact hy.elim
  · exact hy.elim
theorem si_r2 {p : Pos} (hg : Gl X "range") (hm : X.mg "range" = none) (ha : SA X W [a, b] mas) (hs : starEach [a, b] X.env = [(false, eval a X.env), (false, eval b X.env)] := by rfl) (hs2 : starEach [b] X.env = [(false, eval b X.env)] := by rfl) :
    SI X W tg (.Call (.Name "range" p) [a, b] [] pos) (mR2 mas) := by
  obtain ⟨t, pa, s⟩ := ha
  refine ⟨_, pi_range2 hg hm pa hs hs2, fun a0 G Γ σ H F Rr r hk => ?_⟩
  refine sdA_fz s r (okG_bind hk fun y _ hy vs H1 F1 e1 r1 hv => ?_)
  obtain ⟨ds, Γ1⟩ := y
  dsimp only at hy hv
  split at hy
  · rename_i k j _
    split at hy
    · rename_i hz
      cases hv with
      | cons h1 hv => cases hv with
        | cons h2 hv =>
          cases hv
          cases h1
          cases h2
          refine ⟨k, j, rfl, hz, hy _ _ _ _ H1 F1 e1 r1 (walk_range (lo := k)) ⟨rngD_len _ _ _, fun _ _ _ _ => trivial, fun i d hd F2 H2 x H3 _ _ hY => ?_⟩⟩
          obtain ⟨rfl, rfl⟩ := hY
          rw [rngD_get hd]
          exact .inl ⟨rfl, by rw [Int.mul_one]; exact .int _⟩
    · exact hy.elim
  · exact hy.elim
theorem PI.or {w1 w2 : TI} {iter : Expr} (h1 : PI X tg iter w1) (h2 : PI X tg iter w2) : PI X tg iter (fun σ H R => w1 σ H R ∨ w2 σ H R) :=
  ⟨fun pins s σ H R I h => h.elim (h1.run pins s σ H R I) (h2.run pins s σ H R I)⟩
theorem si_seq (h : SX X W e me) : SI X W tg e (mIs me) := by
  obtain ⟨w1, p1, s1⟩ := si_list (tg := tg) h
  obtain ⟨w2, p2, s2⟩ := si_tup (tg := tg) h
  refine ⟨_, PI.or p1 p2, fun a0 G Γ σ H F Rr r hk => ?_⟩
  cases q : mFz1 me Γ with
  | bad => unfold mIs at hk; rw [q] at hk; exact hk.elim
  | exc c fs => unfold mIs at hk; rw [q] at hk; exact .inl (s1 a0 G Γ σ H F Rr r (by unfold mIl; rw [q]; exact hk))
  | ok x =>
    obtain ⟨d, Γ1⟩ := x
    unfold mIs at hk
    rw [q] at hk
    cases d with
    | lst xs => exact .inl (s1 a0 G Γ σ H F Rr r (by unfold mIl; rw [q]; exact hk))
    | tup xs => exact .inr (s2 a0 G Γ σ H F Rr r (by unfold mIt; rw [q]; exact hk))
    | _ => exact hk.elim
theorem walk_zipT {K : PySem.W.Frag} {a b : Addr} {xs ys : List V} {n : Nat} (hn : n = min xs.length ys.length) : Walk (RZ.ItzT K a b) n (fun H => SqT K H a xs ∧ SqT K H b ys) (YPair (fun i => xs[i]?) (fun i => ys[i]?)) := by
  subst hn
  refine ⟨fun i H hi q => ?_, fun H q => ?_, fun i H v H' hi q y => ?_⟩
  · have h1 : i < xs.length := by omega
    have h2 : i < ys.length := by omega
    exact ⟨xs, ys, xs[i], ys[i], q.1, q.2, by simp [h1], by simp [h2]⟩
  · exact ⟨xs, ys, q.1, q.2, by omega⟩
  · obtain ⟨T, x, z, h1, h2, h3, h4, h5⟩ := y
    exact ⟨T, x, z, h1, h2, h3, h4 xs q.1, h5 ys q.2⟩
theorem si_za {p tpos : Pos} {elts : List Expr} {kk : Nat} (hg : Gl X "zip") (hm : X.mg "zip" = none) (ha : SA X W [e, e2] mas) (hs : starEach [e, e2] X.env = (false, eval e X.env) :: starEach [e2] X.env := by rfl) (hs2 : (backTo pos (starEach [e2] X.env)).any (·.1) = false := by rfl) :
    SI X W (.Tuple elts kk tpos) (.Call (.Name "zip" p) [e, e2] [] pos) (mZa mas) := by
  obtain ⟨t, pa, s⟩ := ha
  refine ⟨_, RZ.pi_zipA hg hm pa hs hs2, fun a0 G Γ σ H F Rr r hk => ?_⟩
  refine sdA_fz s r (okG_bind hk fun y _ hy vs H1 F1 e1 r1 hv => ?_)
  obtain ⟨ds, Γ1⟩ := y
  dsimp only at hy hv
  split at hy
  · cases hv with
    | cons h1 hv => cases hv with
      | cons h3 hv =>
        cases hv
        cases h1 with
        | lst h1 h2 => cases h3 with
          | lst h3 h4 =>
            refine ⟨_, _, _, _, rfl, .inl ⟨SqL.of (r1.wd.f _ _ h1), SqL.of (r1.wd.f _ _ h3), hy _ _ _ _ H1 F1 e1 r1 (walk_zip rfl) ⟨by rw [zipD_len, h2.length, h4.length], fun F2 H2 e2 e3 => ⟨SqL.of (e3 _ _ (e2 _ _ h1)), SqL.of (e3 _ _ (e2 _ _ h3))⟩, fun i d hd F2 H2 x H3 e2 e3 hY => ?_⟩⟩⟩
            obtain ⟨T, x1, x2, rfl, hT, rfl, q1, q2⟩ := hY
            obtain ⟨z1, z2, hz1, hz2, rfl⟩ := zipD_get hd
            obtain ⟨d', q3, q4⟩ := h2.getV q1
            rw [q3] at hz1; cases hz1
            obtain ⟨d', q5, q6⟩ := h4.getV q2
            rw [q5] at hz2; cases hz2
            exact .inr ⟨T, _, _, rfl, hT, rfl, rfl, .cons (q4.mono e2) (.cons (q6.mono e2) .nil)⟩
  · cases hv with
    | cons h1 hv => cases hv with
      | cons h3 hv =>
        cases hv
        cases h1 with
        | tup h1 h2 => cases h3 with
          | tup h3 h4 =>
            refine ⟨_, _, _, _, rfl, .inr ⟨Evl.ex_t r1.wd.f h1, Evl.ex_t r1.wd.f h3, hy _ _ _ _ H1 F1 e1 r1 (walk_zipT rfl) ⟨by rw [zipD_len, h2.length, h4.length], fun F2 H2 e2 e3 => ⟨Evl.ex_t e3 (Evl.ex_t e2 h1), Evl.ex_t e3 (Evl.ex_t e2 h3)⟩, fun i d hd F2 H2 x H3 e2 e3 hY => ?_⟩⟩⟩
            obtain ⟨T, x1, x2, rfl, hT, rfl, q1, q2⟩ := hY
            obtain ⟨z1, z2, hz1, hz2, rfl⟩ := zipD_get hd
            obtain ⟨d', q3, q4⟩ := h2.getV q1
            rw [q3] at hz1; cases hz1
            obtain ⟨d', q5, q6⟩ := h4.getV q2
            rw [q5] at hz2; cases hz2
            exact .inr ⟨T, _, _, rfl, hT, rfl, rfl, .cons (q4.mono e2) (.cons (q6.mono e2) .nil)⟩
  · exact hy.elim
end
end Rg
namespace Rg
open PySem L2
def W0 : WX := fun _ _ _ _ => False
def tmX (K : PySem.W.Frag) (mg : Str → Option Value) (W : WX) (m : Env → R (BV × Env)) : TE := fun σ H Q => ∃ a0 G Γ F, Rel K a0 G Γ σ H F ∧ OkG K mg G F W (PX K a0 G F σ Q) (m Γ)
def tmT (K : PySem.W.Frag) (mg : Str → Option Value) (W : WX) (m : Env → R (Bool × Env)) : TT := fun σ H Q => ∃ a0 G Γ F, Rel K a0 G Γ σ H F ∧ OkG K mg G F W (PTs K a0 G F σ Q) (m Γ)
def tmG (K : PySem.W.Frag) (f : D → Env → Option Env) (ws : List Nat) : TG := fun v σ H Q => ∃ a0 G Γ F d Γ', Rel K a0 G Γ σ H F ∧ Rp K F v d ∧ f d Γ = some Γ' ∧ ∀ σ' H' F', Ex F F' → Rel K a0 G Γ' σ' H' F' → Wp σ' σ ws → Q σ' H'
section
variable {X : Cx} {W : WX} {e : Expr}
theorem SX.can {m : Env → R (BV × Env)} (h : SX X W e m) : PE X e (tmX X.K X.mg W m) := by
  obtain ⟨t, p, s⟩ := h
  exact ⟨fun pins st σ H Q I ⟨a0, G, Γ, F, r, hk⟩ => p.run pins st σ H Q I (s a0 G Γ σ H F Q r hk)⟩
theorem ST.can {m : Env → R (Bool × Env)} (h : ST X W e m) : PT X e (tmT X.K X.mg W m) := by
  obtain ⟨t, p, s⟩ := h
  exact ⟨fun pins st σ H Q I ⟨a0, G, Γ, F, r, hk⟩ => p.run pins st σ H Q I (s a0 G Γ σ H F Q r hk)⟩
theorem SG.can {f : D → Env → Option Env} {ws : List Nat} (h : SG X e f ws) : PG X e (tmG X.K f ws) := by
  obtain ⟨g, p, s⟩ := h
  exact ⟨fun pins st σ H v u Q I rv ⟨a0, G, Γ, F, d, Γ', r, hv, hf, hk⟩ => p.run pins st σ H v u Q I rv (s a0 G Γ σ H F v d Γ' Q r hv hf hk)⟩
end
section
variable {K : PySem.W.Frag} {mg : Str → Option Value} {a0 : Addr} {G F H : Hp} {Γ : Env} {σ : L2.St} {W : WX}
theorem Rel.wipe (r : Rel K a0 G Γ σ H F) : ∀ vs : List Nat, Rel K a0 G (wipeE Γ vs) (L2.wipe σ vs) H F
  | [] => r
  | _ :: vs => (Rel.wipe r vs).forget
theorem wipe_get {vs : List Nat} {i : Nat} (h : i ∉ vs) : (L2.wipe σ vs)[i]? = σ[i]? := by
  induction vs with
  | nil => rfl
  | cons v vs ih =>
    have h' : i ≠ v ∧ i ∉ vs := ⟨fun z => h (by rw [z]; exact List.mem_cons_self ..), fun z => h (List.mem_cons_of_mem _ z)⟩
    show ((L2.wipe σ vs).set v none)[i]? = _
    rw [List.getElem?_set_ne (Ne.symm h'.1)]
    exact ih h'.2
theorem gt_wipeE : ∀ {vs : List Nat} {i : Nat}, i ∈ vs → gt (wipeE Γ vs) i = .no
  | [], _, h => by simp at h
  | v :: vs, i, h => by
    show gt ((wipeE Γ vs).set v .no) i = .no
    by_cases e : i = v
    · subst e
      by_cases hl : i < (wipeE Γ vs).length
      · exact gt_set_same hl
      · have : ∀ (Γ : Env) (i : Nat), ¬ i < Γ.length → gt Γ i = .no := fun Γ i hn => by
          cases q : gt Γ i with
          | no => rfl
          | m _ _ => exact absurd (gt_lt q (by simp)) hn
          | v d => exact absurd (gt_lt q (by simp)) hn
          | o d => exact absurd (gt_lt q (by simp)) hn
          | i _ _ _ _ => exact absurd (gt_lt q (by simp)) hn
        rw [List.set_eq_of_length_le (Nat.le_of_not_lt hl)]
        exact this _ _ hl
    · rw [gt_set_ne e]
      exact gt_wipeE ((List.mem_cons.mp h).resolve_left e)
theorem RelO.unwipe {vs : List Nat} (r : RelO K a0 G Γ (L2.wipe σ vs) H F) (h : ∀ v ∈ vs, gt Γ v = .no) : RelO K a0 G Γ σ H F := by
  obtain ⟨O, ad, x⟩ := r
  have nm : ∀ {i s}, gt Γ i = s → s ≠ .no → i ∉ vs := fun {i s} q n z => n (q.symm.trans (h i z))
  refine ⟨O, ad, ⟨x.wd, x.o, x.fo, x.go, fun i d q => ?_, fun i q => ?_, x.inj, x.z, by rw [x.len, wipe_length], x.ol⟩⟩
  · obtain ⟨v, h1, h2⟩ := x.v i d q
    rw [wipe_get (nm q (by simp))] at h1
    exact ⟨v, h1, h2⟩
  · obtain ⟨h1, h2⟩ := x.own i q
    rw [wipe_get (nm rfl (fun z => by rw [z] at q; cases q))] at h1
    exact ⟨h1, h2⟩
theorem Rel.unwipe {vs : List Nat} (r : Rel K a0 G Γ (L2.wipe σ vs) H F) (h : ∀ v ∈ vs, gt Γ v = .no) : Rel K a0 G Γ σ H F := by
  obtain ⟨S, si, d, x⟩ := r
  refine ⟨S, si.to (Ex.refl F) fun c ns ds w q => ⟨rfl, wipe_get fun z => ?_⟩, d, x.unwipe h⟩
  rw [h 0 z] at q
  cases q
theorem RelO.tmut' {p : Addr} {w w' : HO} (r : RelO K a0 (upd G p w) Γ σ H F) (hw : muO w' = true) : RelO K a0 (upd G p w') Γ σ (upd H p w') F := by
  obtain ⟨O, ad, x⟩ := r
  have hp : upd G p w p = some w := upd_same
  have hF : F p = none := (x.wd.d p).elim id fun q => by rw [hp] at q; cases q
  have hO : O p = none := (x.go p).elim (fun q => by rw [hp] at q; cases q) id
  refine ⟨O, ad, ⟨⟨ex_upd x.wd.f hF, fun b u q => ?_, fun b => ?_, x.wd.tb.toF (keep_mut (x.wd.g _ _ hp) (x.wd.tb.ng _ _ hp)) (fun b u q => by
      by_cases hb : b = p
      · subst hb; rw [upd_same] at q; cases q; exact hw
      · rw [upd_ne hb] at q; exact x.wd.tb.ng b u (by rw [upd_ne hb]; exact q))⟩, ex_upd x.o hO, x.fo, fun b => ?_, x.v, x.own, x.inj, x.z, x.len, x.ol⟩⟩
  · by_cases hb : b = p
    · subst hb; rw [upd_same] at q ⊢; exact q
    · rw [upd_ne hb] at q ⊢; exact x.wd.g b u (by rw [upd_ne hb]; exact q)
  · by_cases hb : b = p
    · subst hb; exact .inl hF
    · exact (x.wd.d b).elim .inl fun q => .inr (by rw [upd_ne hb] at q ⊢; exact q)
  · by_cases hb : b = p
    · subst hb; exact .inr hO
    · exact (x.go b).elim (fun q => .inl (by rw [upd_ne hb] at q ⊢; exact q)) .inr
theorem Rel.tmut' {p : Addr} {w w' : HO} (r : Rel K a0 (upd G p w) Γ σ H F) (hw : muO w' = true) : Rel K a0 (upd G p w') Γ σ (upd H p w') F := by
  obtain ⟨S, si, d, x⟩ := r
  rw [jn_upd] at x
  exact ⟨S, si, fun b => (d b).elim (fun q => .inl (by
    by_cases hb : b = p
    · subst hb; rw [upd_same] at q; cases q
    · rw [upd_ne hb] at q ⊢; exact q)) .inr, by rw [jn_upd]; exact x.tmut' hw⟩
theorem Rel.tmut {p : Addr} {ws ws' : List V} (r : Rel K a0 (upd G p (.lst ws)) Γ σ H F) : Rel K a0 (upd G p (.lst ws')) Γ σ (upd H p (.lst ws')) F := r.tmut' rfl
theorem okG_nox {α β : Type} {G' F' : Hp} {P : β → Prop} {P' : α → Prop} {r : R α} {f : α → R β} (h : OkG K mg G F W P ((nox r).bind f)) (k : ∀ a, r = .ok a → OkG K mg G F W P (f a) → P' a) : OkG K mg G' F' W0 P' r := by
  cases r with
  | ok a => exact k a rfl h
  | exc c fs => exact h.elim
  | bad => exact h.elim
end
section
variable {K : PySem.W.Frag} {mg : Str → Option Value} {W : WX}
theorem sdX_lc {wi : TI} {mi : Env → R (List D × Env)} {f : D → Env → Option Env} {ws vs : List Nat} {mt : Env → R (Bool × Env)} {me : Env → R (BV × Env)} {tt : TT} (hw : ∀ w ∈ ws, w ∈ vs) (hi : SdI K mg W wi mi) (ht : SdT K mg W0 tt mt) :
    SdX K mg W (tLc wi (tmG K f ws) tt (tmX K mg W0 me) vs) (mLc mi f mt me vs) := by
  intro a0 G Γ σ H F Q r h
  refine hi a0 G Γ σ H F _ r (okG_bind h fun y _ hy J n Gd Y H1 F1 e1 r1 wk gv => ?_)
  obtain ⟨ds, Γ1⟩ := y
  dsimp only at hy r1 gv
  intro Dn hD
  obtain ⟨hGD, r2⟩ := r1.newT (vs := []) hD
  refine lc_it wk (fun i H => ∃ Γ F' acc xs, Ex F1 F' ∧ Rel K a0 (upd G Dn (.lst acc)) Γ (L2.wipe σ vs) H F' ∧ RpA K F' acc xs ∧ (∀ v ∈ vs, gt Γ v = .no) ∧
    OkG K mg G F' W (fun z => PX K a0 G F' σ Q (.o z.1, z.2)) (mLcL f mt me vs (ds.drop i) Γ xs)) ?_ ?_ ?_ ?_
  · exact ⟨_, F1, [], [], Ex.refl F1, r2.wipe vs, .nil, fun v hv => gt_wipeE hv, okG_mono e1 (okG_bind hy fun z _ hz => hz) fun z _ hz => PX.mono e1 hz⟩
  · rintro i H2 _ ⟨Γ2, F2, acc, xs, e2, r2, _⟩
    exact gv.2.1 F2 H2 e2 r2.wd.f
  · rintro i x H2 H3 hin ⟨Γ2, F2, acc, xs, e2, r2, ha, hn, h2⟩ hY
    have hil : i < ds.length := by rw [gv.1]; exact hin
    have hd : ds[i]? = some ds[i] := List.getElem?_eq_getElem hil
    obtain ⟨F3, e3, r3, hx⟩ := Rel.item gv e2 r2 hd hY
    rw [List.drop_eq_getElem_cons hil] at h2
    simp only [mLcL] at h2
    split at h2
    · exact h2.elim
    · rename_i Γ3 hf
      refine ⟨a0, _, Γ2, F3, ds[i], Γ3, r3, hx, hf, fun σ4 H4 F4 e4 r4 w4 => ⟨w4 vs hw |>.trans ?_, ?_⟩⟩
      · have : ∀ (us : List Nat) (τ : L2.St), L2.wipe (L2.wipe τ us) us = L2.wipe τ us := by
          intro us
          induction us with
          | nil => intro τ; rfl
          | cons u us ih =>
            intro τ
            show (L2.wipe ((L2.wipe τ us).set u none) us).set u none = (L2.wipe τ us).set u none
            by_cases hm : u ∈ us
            · rw [wipe_set _ _ _ _ hm, ih]
            · rw [wipe_set_ne _ _ _ _ hm, List.set_set, ih]
        exact this vs σ
      · have e24 : Ex F2 F4 := Ex.trans e3 e4
        have hww : L2.wipe σ4 vs = L2.wipe σ vs := (w4 vs hw).trans (by
          have : ∀ (us : List Nat) (τ : L2.St), L2.wipe (L2.wipe τ us) us = L2.wipe τ us := by
            intro us
            induction us with
            | nil => intro τ; rfl
            | cons u us ih =>
              intro τ
              show (L2.wipe ((L2.wipe τ us).set u none) us).set u none = (L2.wipe τ us).set u none
              by_cases hm : u ∈ us
              · rw [wipe_set _ _ _ _ hm, ih]
              · rw [wipe_set_ne _ _ _ _ hm, List.set_set, ih]
          exact this vs σ)
        refine ht a0 _ Γ3 σ4 H4 F4 _ r4 (okG_nox h2 fun z _ hz => ?_)
        obtain ⟨k, Γ5⟩ := z
        intro H5 F5 e5 r5
        dsimp only at hz ⊢
        cases k with
        | true =>
          simp only [if_true] at hz ⊢
          refine ⟨a0, _, Γ5, F5, r5, ?_⟩
          have key : ∀ {Q' : VK}, (∀ v H' F' d Γ', mFz1 me Γ5 = .ok (d, Γ') → Ex F5 F' → Rel K a0 (upd G Dn (.lst acc)) Γ' σ4 H' F' → Rp K F' v d → Q' v H') → OkG K mg (upd G Dn (.lst acc)) F5 W0 (PX K a0 (upd G Dn (.lst acc)) F5 σ4 Q') (me Γ5) := by
            intro Q' hq
            have hz' := hz
            unfold mFz1 at hz' hq
            cases q : me Γ5 with
            | bad => rw [q] at hz'; exact hz'.elim
            | exc c fs => rw [q] at hz'; exact hz'.elim
            | ok w =>
              obtain ⟨b, Γ6⟩ := w
              rw [q] at hz' hq
              simp only [R.bind] at hz' hq
              refine PX_fz fun v H' F' e' r' hb => ?_
              cases q2 : b.fz with
              | o ys => rw [q2] at hb; exact hb.elim
              | v d => rw [q2] at hb; exact hq v H' F' d Γ6 (by rw [q2]) e' r' hb
              | s j =>
                rw [q2] at hb
                have hb : σ4[j]? = some (some v) := hb
                cases g : gt Γ6 j with
                | no => rw [q2] at hz'; simp only [g] at hz'; exact hz'.elim
                | m _ _ => rw [q2] at hz'; simp only [g] at hz'; exact hz'.elim
                | i _ _ _ _ => rw [q2] at hz'; simp only [g] at hz'; exact hz'.elim
                | v d =>
                  obtain ⟨v', a1, a2⟩ := r'.getv g
                  rw [a1] at hb; cases hb
                  exact hq v H' F' d Γ6 (by rw [q2]; simp only [g]) e' r' a2
                | o ys =>
                  obtain ⟨p, us, a1, e6, a2, r6⟩ := r'.frz g
                  rw [a1] at hb; cases hb
                  exact hq _ H' _ (.lst ys) (Γ6.set j (.v (.lst ys))) (by rw [q2]; simp only [g]) (Ex.trans e' e6) r6 (.lst upd_same (a2.mono e6))
          refine key fun v H6 F6 d Γ6 hme e6 r6 hv => ?_
          rw [hme] at hz
          simp only [nox, R.bind] at hz
          split at hz
          · rename_i hlen
            have hHD : H6 Dn = some (.lst acc) := r6.wd.g _ _ upd_same
            have e26 : Ex F2 F6 := Ex.trans e24 (Ex.trans e5 e6)
            have ha6 := ha.mono e26
            refine ⟨acc, hHD, by rw [ha.length]; exact sz_lt hlen, _, F6, acc ++ [v], xs ++ [d], Ex.trans e2 e26, ?_, ha6.append (.cons hv .nil), fun w hw' => gt_wipeE hw', okG_mono e26 hz fun z _ hz => PX.mono e26 hz⟩
            have r7 := (r6.tmut (ws' := acc ++ [v])).wipe vs
            rw [hww] at r7
            exact r7
          · exact hz.elim
        | false =>
          simp only [Bool.false_eq_true, if_false] at hz ⊢
          have e25 : Ex F2 F5 := Ex.trans e24 e5
          have r7 := r5.wipe vs
          rw [hww] at r7
          exact ⟨_, F5, acc, xs, Ex.trans e2 e25, r7, ha.mono e25, fun w hw' => gt_wipeE hw', okG_mono e25 hz fun z _ hz => PX.mono e25 hz⟩
  · rintro H2 ⟨Γ2, F2, acc, xs, e2, r2, ha, hn, h2⟩
    rw [List.drop_eq_nil_of_le (by rw [gv.1]; exact Nat.le_refl _)] at h2
    simp only [mLcL] at h2
    exact h2 Dn acc H2 F2 (Ex.refl F2) hGD (r2.unwipe hn) ha
end
end Rg
namespace Rg
open PySem L2
section
variable {X : Cx} {W : WX} {elt tg iter c : Expr} {scope : Scope} {own : List (Str × Nat)} {pos spos : Pos} {mi : Env → R (List D × Env)} {f : D → Env → Option Env} {ws : List Nat} {mt : Env → R (Bool × Env)} {me : Env → R (BV × Env)}
theorem sdT_yes {K : PySem.W.Frag} {mg : Str → Option Value} {W : WX} : SdT K mg W tYes mYes := fun a0 G Γ σ H F Q r h => h H F (Ex.refl F) r
theorem sdT_can {K : PySem.W.Frag} {mg : Str → Option Value} {W : WX} : SdT K mg W (tmT K mg W mt) mt := fun a0 G Γ σ H F Q r h => ⟨a0, G, Γ, F, r, h⟩
theorem sx_lc0 (own : List (Str × Nat)) (hc : X.calm = true) (hN : X.N.Nodup) (hi : SI X W tg iter mi) (ok : BlkOk X.N X.env.scope scope own) (hw : ∀ w ∈ ws, w ∈ own.map (·.2))
    (hg : ∀ (s : Shared) (H : Hp) (C : Addr) (cl : List (Str × Addr)) (fp : List Addr), SG (X.blk s H scope (compEnvC scope cl C X.env) fp) tg f ws)
    (he : ∀ (s : Shared) (H : Hp) (C : Addr) (cl : List (Str × Addr)) (fp : List Addr), SX (X.blk s H scope (compEnvC scope cl C X.env) fp) W0 elt me) (hs : ∀ x, foldedSetIterable iter X.env x = pure x := by intro _; rfl) :
    SX X W (.ListComp elt [⟨tg, iter, [], 0⟩] scope pos) (mLc mi f mYes me (own.map (·.2))) := by
  obtain ⟨wi, pi, si⟩ := hi
  exact ⟨_, pe_lc hc hN pi ok (fun s H C cl fp => (hg s H C cl fp).can) (fun s H C cl fp => pts_nil) (fun s H C cl fp => (he s H C cl fp).can) hs, sdX_lc hw si sdT_yes⟩
theorem sx_lc1 (own : List (Str × Nat)) (hc : X.calm = true) (hN : X.N.Nodup) (hi : SI X W tg iter mi) (ok : BlkOk X.N X.env.scope scope own) (hw : ∀ w ∈ ws, w ∈ own.map (·.2))
    (hg : ∀ (s : Shared) (H : Hp) (C : Addr) (cl : List (Str × Addr)) (fp : List Addr), SG (X.blk s H scope (compEnvC scope cl C X.env) fp) tg f ws)
    (ht : ∀ (s : Shared) (H : Hp) (C : Addr) (cl : List (Str × Addr)) (fp : List Addr), ST (X.blk s H scope (compEnvC scope cl C X.env) fp) W0 c mt)
    (he : ∀ (s : Shared) (H : Hp) (C : Addr) (cl : List (Str × Addr)) (fp : List Addr), SX (X.blk s H scope (compEnvC scope cl C X.env) fp) W0 elt me) (hs : ∀ x, foldedSetIterable iter X.env x = pure x := by intro _; rfl) :
    SX X W (.ListComp elt [⟨tg, iter, [c], 0⟩] scope pos) (mLc mi f mt me (own.map (·.2))) := by
  obtain ⟨wi, pi, si⟩ := hi
  exact ⟨_, pe_lc hc hN pi ok (fun s H C cl fp => (hg s H C cl fp).can) (fun s H C cl fp => pts_one (ht s H C cl fp).can) (fun s H C cl fp => (he s H C cl fp).can) hs, sdX_lc hw si sdT_can⟩
theorem ss_lc0 (i : Nat) (own : List (Str × Nat)) {y : Str} {py : Pos} (hc : X.calm = true) (hN : X.N.Nodup) (hi : SI X W tg iter mi) (ok : BlkOk X.N X.env.scope scope own) (hw : ∀ w ∈ ws, w ∈ own.map (·.2))
    (hg : ∀ (s : Shared) (H : Hp) (C : Addr) (cl : List (Str × Addr)) (fp : List Addr), SG (X.blk s H scope (compEnvC scope cl C X.env) fp) tg f ws)
    (he : ∀ (s : Shared) (H : Hp) (C : Addr) (cl : List (Str × Addr)) (fp : List Addr), SX (X.blk s H scope (compEnvC scope cl C X.env) fp) W0 elt me)
    (hsw : swapsWith (.ListComp elt [⟨tg, iter, [], 0⟩] scope pos) (some (.Name y py)) spos.line X.env = pure true)
    (hy : X.N[i]? = some y := by rfl) (hyl : X.env.scope.names.lookup y = some .local := by rfl) (hs : ∀ x, foldedSetIterable iter X.env x = pure x := by intro _; rfl) :
    SS X W (.Assign [.Name y py] (.ListComp elt [⟨tg, iter, [], 0⟩] scope pos) spos) (mSet i (mLc mi f mYes me (own.map (·.2)))) := by
  obtain ⟨wi, pi, si⟩ := hi
  exact ⟨_, ps_setLc hc hN hy hyl hsw pi ok (fun s H C cl fp => (hg s H C cl fp).can) (fun s H C cl fp => pts_nil) (fun s H C cl fp => (he s H C cl fp).can) hs, sdS_set (sdX_lc hw si sdT_yes)⟩
end
def PR (K : PySem.W.Frag) (G F : Hp) (Q : VK) : Nw → Prop
  | .v d => ∀ v H' F', Ex F F' → Wd K F' G H' → Rp K F' v d → Q v H'
  | .o xs => ∀ p vs H' F', Ex F F' → G p = none → Wd K F' (upd G p (.lst vs)) H' → RpA K F' vs xs → Q (.ref p) H'
def WE (E : XK) : WX := fun c d _ H => E c d H
def spP (K : PySem.W.Frag) (mg : Str → Option Value) (n : Nat) (M : List D → R Nw) : Sp := fun vs H Q E => ∃ F G ds, Wd K F G H ∧ RpA K F vs ds ∧ ds.length = n ∧ OkG K mg G F (WE E) (PR K G F Q) (M ds)
def PRI (K : PySem.W.Frag) (G F : Hp) (p : Addr) (Q : VK) : Nw × List D → Prop
  | (.v d, xs') => ∀ v H' F' ws', Ex F F' → Wd K F' G H' → F' p = none → H' p = some (.lst ws') → RpA K F' ws' xs' → Rp K F' v d → Q v H'
  | (.o ys, xs') => ∀ q us H' F' ws', Ex F F' → G q = none → q ≠ p → Wd K F' (upd G q (.lst us)) H' → F' p = none → H' p = some (.lst ws') → RpA K F' ws' xs' → RpA K F' us ys → Q (.ref q) H'
def spI (K : PySem.W.Frag) (mg : Str → Option Value) (n : Nat) (M : List D → List D → R (Nw × List D)) : Sp := fun vs H Q E => ∃ F G p ws xs vs' ds, vs = .ref p :: vs' ∧ Wd K F G H ∧ F p = none ∧ G p = none ∧ H p = some (.lst ws) ∧ RpA K F ws xs ∧ RpA K F vs' ds ∧ ds.length = n ∧
  OkG K mg G F (WE E) (PRI K G F p Q) (M xs ds)
def mCallI (M : List D → List D → R (Nw × List D)) (ma : Env → R (List BV × Env)) : Env → R (BV × Env) := fun Γ => (ma Γ).bind fun y => match y.1 with
  | .s i :: bs => (match fzL bs y.2 with
    | some (ds, Γ1) => (match gt Γ1 i with
      | .o xs => (match M xs ds with
        | .ok z => .ok (z.1.bv, Γ1.set i (.o z.2))
        | .exc c fs => .exc c fs
        | .bad => .bad)
      | _ => .bad)
    | none => .bad)
  | _ => .bad
section
variable {K : PySem.W.Frag} {mg : Str → Option Value} {a0 : Addr} {G F F1 H : Hp} {Γ : Env} {σ : L2.St} {W : WX}
theorem FsA.less {F F' : Hp} (e : ∀ a o, F a = some o → muO o = false → ¬ isTw o → F' a = some o) : ∀ {gs : List (Str × V)} {fs : List (Str × D)}, FsA K F gs fs → lfFs fs = true → FsA K F' gs fs
  | _, _, .nil, _ => .nil
  | _, _, .cons h a, hl => by
    have h' := Bool.and_eq_true_iff.mp hl
    exact .cons (h.less e h'.1) (FsA.less e a h'.2)
theorem allV_rpA : ∀ {vs : List V} {bs : List BV} {ds : List D}, BsA K σ F vs bs → allV bs = true → rsA Γ bs = some ds → RpA K F vs ds
  | _, _, _, .nil, _, h => by cases h; exact .nil
  | _, _, _, .cons (b := b) (bs := bs) hb a, ha, h => by
    cases b with
    | o xs => exact hb.elim
    | s i => simp [allV] at ha
    | v d =>
      simp only [rsA, rs, Option.bind_some] at h
      cases q : rsA Γ bs with
      | none => rw [q] at h; cases h
      | some ds => rw [q] at h; cases h; exact .cons hb (allV_rpA a (by simpa [allV] using ha) q)
theorem bor_rpA {Fc : Hp} (e : ∀ v d, Rp K F v d → ntD d = true → Rp K Fc v d) (r : Rel K a0 G Γ σ H F) (hb : ∀ i xs, gt Γ i = .o xs → ntA xs = true → ∃ p, σ[i]? = some (some (.ref p)) ∧ Rp K Fc (.ref p) (.lst xs)) : ∀ {vs : List V} {bs : List BV} {ds : List D}, BsA K σ F vs bs → rsA Γ bs = some ds → ntA ds = true → RpA K Fc vs ds
  | _, _, _, .nil, h, _ => by cases h; exact .nil
  | _, _, _, .cons (v := v) (b := b) (bs := bs) hv a, h, n => by
    simp only [rsA] at h
    cases q0 : rs Γ b with
    | none => rw [q0] at h; cases h
    | some d =>
      rw [q0, Option.bind_some] at h
      cases q : rsA Γ bs with
      | none => rw [q] at h; cases h
      | some ds =>
        rw [q] at h; cases h
        have n' := Bool.and_eq_true_iff.mp ((ntA_cons _ _).symm.trans n)
        refine .cons ?_ (bor_rpA e r hb a q n'.2)
        cases b with
        | o xs => exact hv.elim
        | v d' => simp only [rs] at q0; cases q0; exact e _ _ hv n'.1
        | s i =>
          have hv : σ[i]? = some (some v) := hv
          simp only [rs] at q0
          cases g : gt Γ i with
          | no => rw [g] at q0; cases q0
          | m _ _ => rw [g] at q0; cases q0
          | i _ _ _ _ => rw [g] at q0; cases q0
          | v d' =>
            rw [g] at q0; cases q0
            obtain ⟨v', h1, h2⟩ := r.getv g
            rw [h1] at hv; cases hv
            exact e _ _ h2 n'.1
          | o xs =>
            rw [g] at q0; cases q0
            obtain ⟨p, h1, h2⟩ := hb i xs g ((ntD_lst _).symm.trans n'.1)
            rw [h1] at hv; cases hv
            exact h2
theorem sp_call {n : Nat} {M : List D → R Nw} {vs : List V} {bs : List BV} {ds : List D} {Q : VK} (r : Rel K a0 G Γ σ H F1) (e : Ex F F1) (hb : BsA K σ F1 vs bs) (hB : rsB Γ bs = some ds) (hl : ∀ ds, ds.length ≠ n → M ds = .bad)
    (hk : OkG K mg G F W (PX K a0 G F σ Q) (match M ds with
    | .ok nw => if (allV bs || nw.lf) = true then .ok (nw.bv, Γ) else .bad
    | .exc c fs => if (allV bs || lfFs fs) = true then .exc c fs else .bad
    | .bad => .bad)) (E : XK) (hE : ∀ c d H, (∀ σ, W c d σ H) → E c d H) : spP K mg n M vs H Q E := by
  have hrn : rsA Γ bs = some ds ∧ (allV bs = true ∨ ntA ds = true) := by
    unfold rsB at hB
    split at hB
    · rename_i h; exact ⟨hB, .inl h⟩
    · cases q : rsA Γ bs with
      | none => rw [q] at hB; cases hB
      | some es =>
        rw [q, Option.bind_some] at hB
        split at hB
        · rename_i h; cases hB; exact ⟨rfl, .inr h⟩
        · cases hB
  have hr := hrn.1
  have hn : ds.length = n := Decidable.byContradiction fun z => by rw [hl ds z] at hk; exact hk.elim
  by_cases ha : allV bs = true
  · obtain ⟨G', eG, w, back, backT⟩ := r.split
    refine ⟨F1, G', ds, w, allV_rpA hb ha hr, hn, ?_⟩
    cases q : M ds with
    | bad => rw [q] at hk; exact hk.elim
    | exc c fs =>
      rw [q] at hk
      simp only [ha, Bool.true_or, if_true] at hk
      exact fun ca dd τ H' F' e' hx => hE _ _ _ fun σ => hk ca dd σ H' F' (Ex.trans e e') ⟨⟨hx.1.f, Ex.trans eG hx.1.g, fun b => (hx.1.d b).elim .inl fun z => .inr (none_of_ex eG z), hx.1.tb.toF (fun _ _ q _ => q) (fun b u q => hx.1.tb.ng b u (eG b u q))⟩, hx.2⟩
    | ok nw =>
      rw [q] at hk
      simp only [ha, Bool.true_or, if_true] at hk
      cases nw with
      | v d => exact fun v H' F' e' w' hv => hk v H' F' (Ex.trans e e') (back F' H' e' w') hv
      | o xs =>
        intro p us H' F' e' hp w' hv
        obtain ⟨h1, h2⟩ := backT F' H' p _ e' hp w'
        exact hk p us H' F' (Ex.trans e e') h1 h2 hv
  · have ha' : allV bs = false := by simpa using ha
    have hnt : ntA ds = true := hrn.2.resolve_left ha
    obtain ⟨Fc, G', eG, w, ec, own, back⟩ := r.borrow
    refine ⟨Fc, G', ds, w, bor_rpA ec r own hb hr hnt, hn, ?_⟩
    cases q : M ds with
    | bad => rw [q] at hk; exact hk.elim
    | exc c fs =>
      rw [q] at hk
      simp only [ha', Bool.false_or] at hk
      by_cases hz : lfFs fs = true
      · rw [if_pos hz] at hk
        intro ca dd τ H' F' e' hx
        obtain ⟨F'', e2, r2, lo⟩ := (back F' H' e').1 hx.1
        obtain ⟨h1, gs, h2, h3⟩ := hx.2
        exact hE _ _ _ fun σ => hk ca dd σ H' F'' (Ex.trans e e2) ⟨r2.wd, h1, gs, h2, h3.less lo hz⟩
      · rw [if_neg hz] at hk; exact hk.elim
    | ok nw =>
      rw [q] at hk
      simp only [ha', Bool.false_or] at hk
      by_cases hz : nw.lf = true
      · rw [if_pos hz] at hk
        cases nw with
        | v d =>
          intro v H' F' e' w' hv
          obtain ⟨F'', e2, r2, lo⟩ := (back F' H' e').1 w'
          exact hk v H' F'' (Ex.trans e e2) r2 (hv.less lo hz)
        | o xs =>
          intro p us H' F' e' hp w' hv
          obtain ⟨F'', hp', e2, r2, lo⟩ := (back F' H' e').2 p _ hp w'
          exact hk p us H' F'' (Ex.trans e e2) hp' r2 (hv.less lo hz)
      · rw [if_neg hz] at hk; exact hk.elim
theorem sp_callI {n : Nat} {M : List D → List D → R (Nw × List D)} {v0 : V} {vs : List V} {i : Nat} {bs : List BV} {ds : List D} {Γ1 : Env} {Q : VK} (r : Rel K a0 G Γ σ H F1) (e : Ex F F1) (h0 : σ[i]? = some (some v0)) (hb : BsA K σ F1 vs bs) (hr : fzL bs Γ = some (ds, Γ1)) (hl : ∀ xs ds, ds.length ≠ n → M xs ds = .bad)
    (hk : OkG K mg G F W (PX K a0 G F σ Q) (match gt Γ1 i with
      | .o xs => (match M xs ds with
        | .ok z => .ok (z.1.bv, Γ1.set i (.o z.2))
        | .exc c fs => .exc c fs
        | .bad => .bad)
      | _ => .bad)) (E : XK) (hE : ∀ c d H, (∀ σ, W c d σ H) → E c d H) : spI K mg n M (v0 :: vs) H Q E := by
  obtain ⟨F2, e2, r2, hd⟩ := r.fzA hb hr
  have e02 : Ex F F2 := Ex.trans e e2
  cases g : gt Γ1 i with
  | no => rw [g] at hk; exact hk.elim
  | m _ _ => rw [g] at hk; exact hk.elim
  | i _ _ _ _ => rw [g] at hk; exact hk.elim
  | v d => rw [g] at hk; exact hk.elim
  | o xs =>
    rw [g] at hk
    dsimp only at hk
    obtain ⟨p, ws, G', h1, eG, w, hFp, hGp, hHp, hx, back, backT⟩ := r2.io g
    rw [h1] at h0; cases h0
    have hn : ds.length = n := Decidable.byContradiction fun z => by rw [hl xs ds z] at hk; exact hk.elim
    refine ⟨F2, G', p, ws, xs, vs, ds, rfl, w, hFp, hGp, hHp, hx, hd, hn, ?_⟩
    cases q : M xs ds with
    | bad => rw [q] at hk; exact hk.elim
    | exc c fs =>
      rw [q] at hk
      exact fun ca dd τ H' F' e' hx => hE _ _ _ fun σ => hk ca dd σ H' F' (Ex.trans e02 e') ⟨⟨hx.1.f, Ex.trans eG hx.1.g, fun b => (hx.1.d b).elim .inl fun z => .inr (none_of_ex eG z), hx.1.tb.toF (fun _ _ q _ => q) (fun b u q => hx.1.tb.ng b u (eG b u q))⟩, hx.2⟩
    | ok z =>
      rw [q] at hk
      obtain ⟨nw, xs'⟩ := z
      cases nw with
      | v d => exact fun v H' F' ws' e' w' hF' hH' hx' hv => hk v H' F' (Ex.trans e02 e') (back F' H' ws' xs' e' w' hF' hH' hx') hv
      | o ys =>
        intro q2 us H' F' ws' e' hq hne w' hF' hH' hx' hv
        obtain ⟨a1, a2⟩ := backT F' H' ws' xs' q2 _ e' hq hne w' hF' hH' hx'
        exact hk q2 us H' F' (Ex.trans e02 e') a1 a2 hv
end
def nA (m : Env → R (List BV × Env)) (n : Nat) : Prop := ∀ Γ y, m Γ = .ok y → y.1.length = n
theorem BsA.length {K : PySem.W.Frag} {σ : L2.St} {F : Hp} : ∀ {vs : List V} {bs : List BV}, BsA K σ F vs bs → vs.length = bs.length
  | _, _, .nil => rfl
  | _, _, .cons _ a => by simp [BsA.length a]
theorem BsA.append {K : PySem.W.Frag} {σ : L2.St} {F : Hp} : ∀ {vs us : List V} {bs cs : List BV}, BsA K σ F vs bs → BsA K σ F us cs → BsA K σ F (vs ++ us) (bs ++ cs)
  | _, _, _, _, .nil, h => h
  | _, _, _, _, .cons h a, b => .cons h (BsA.append a b)
def mAd (ma : Env → R (List BV × Env)) (ns : List Int) : Env → R (List BV × Env) := fun Γ => (ma Γ).bind fun y => .ok (y.1 ++ ns.map (fun i => .v (.int i)), y.2)
section
variable {X : Cx} {W : WX} {e : Expr} {es : List Expr} {pos : Pos} {mas mks : Env → R (List BV × Env)} {k n : Nat} {f : Addr} {fd : FuncData} {ps : List Str} {x : Str} {p : Pos} {ds : List Value}
theorem sx_call {M : List D → R Nw} (F : FnOk X.prog X.w X.K X.mg X.base (L2.CX X.prog X.w) k f fd ps (spP X.K X.mg n M)) (hl : ∀ ds, ds.length ≠ n → M ds = .bad) (hr : Room k X.A) (hm : X.mg x = some (.ref f)) (hk : PySem.W.keepIn X.K (.ref f) = true) (hb : Binds X.K fd ps []) (tk : Takes X W)
    (ha : SA X W (e :: es) mas) (hg : Gl X x := by rfl) (hdb : (x == ("__debug__" : Str)) = false := by decide) (he : starEach (e :: es) X.env = (false, eval e X.env) :: starEach es X.env := by rfl) (hpl : (backTo pos (starEach es X.env)).any (·.1) = false := by rfl) :
    SX X W (.Call (.Name x p) (e :: es) [] pos) (mCall M mas) := by
  obtain ⟨t, pa, s⟩ := ha
  refine ⟨_, pe_callSD (dvs := []) (ds := []) (E := fun σ c d H => W c d σ H) F hr hg hm hk hb .nil (fun σ => passAt tk σ) pa hdb he hpl, fun a0 G Γ σ H F Q r h => ?_⟩
  refine s a0 G Γ σ H F _ r (okG_bind h fun y _ hy vs H1 F1 e1 r1 hb => ?_)
  obtain ⟨bs, Γ1⟩ := y
  dsimp only at hy r1 hb
  rw [List.append_nil]
  cases q : rsB Γ1 bs with
  | none => rw [q] at hy; exact hy.elim
  | some ds => rw [q] at hy; exact sp_call r1 e1 hb q hl hy _ fun c d H h => h σ
theorem sx_call0 {M : List D → R Nw} (F : FnOk X.prog X.w X.K X.mg X.base (L2.CX X.prog X.w) k f fd ps (spP X.K X.mg n M)) (hl : ∀ ds, ds.length ≠ n → M ds = .bad) (hr : Room k X.A) (hm : X.mg x = some (.ref f)) (hk : PySem.W.keepIn X.K (.ref f) = true) (hb : Binds X.K fd ps []) (tk : Takes X W)
    (hg : Gl X x := by rfl) (hdb : (x == ("__debug__" : Str)) = false := by decide) :
    SX X W (.Call (.Name x p) [] [] pos) (mCall M mA0) := by
  refine ⟨_, pe_call0 (dvs := []) (ds := []) (E := fun c d H => ∀ σ, W c d σ H) F hr hg hm hk hb .nil (passes_call tk fun c d σ H h => h σ) hdb, fun a0 G Γ σ H F Q r h => ?_⟩
  exact sp_call r (Ex.refl F) (.nil : BsA X.K σ F [] []) rfl hl h _ fun c d H h => h
theorem sx_callI {M : List D → List D → R (Nw × List D)} (F : FnOk X.prog X.w X.K X.mg X.base (L2.CX X.prog X.w) k f fd ps (spI X.K X.mg n M)) (hl : ∀ xs ds, ds.length ≠ n → M xs ds = .bad) (hr : Room k X.A) (hm : X.mg x = some (.ref f)) (hk : PySem.W.keepIn X.K (.ref f) = true) (hb : Binds X.K fd ps []) (tk : Takes X W)
    (ha : SA X W (e :: es) mas) (hg : Gl X x := by rfl) (hdb : (x == ("__debug__" : Str)) = false := by decide) (he : starEach (e :: es) X.env = (false, eval e X.env) :: starEach es X.env := by rfl) (hpl : (backTo pos (starEach es X.env)).any (·.1) = false := by rfl) :
    SX X W (.Call (.Name x p) (e :: es) [] pos) (mCallI M mas) := by
  obtain ⟨t, pa, s⟩ := ha
  refine ⟨_, pe_callSD (dvs := []) (ds := []) (E := fun σ c d H => W c d σ H) F hr hg hm hk hb .nil (fun σ => passAt tk σ) pa hdb he hpl, fun a0 G Γ σ H F Q r h => ?_⟩
  refine s a0 G Γ σ H F _ r (okG_bind h fun y _ hy vs H1 F1 e1 r1 hb => ?_)
  obtain ⟨bs, Γ1⟩ := y
  dsimp only at hy r1 hb
  rw [List.append_nil]
  split at hy
  · rename_i i bs _
    cases hb with
    | cons h0 hb =>
      split at hy
      · rename_i ds Γ2 q
        exact sp_callI r1 e1 h0 hb q hl hy _ fun c d H h => h σ
      · exact hy.elim
  · exact hy.elim
end
def finI (n : Nat) (m : Env → R Fl) (k : Nat) : List D → List D → R (Nw × List D) := fun xs ds => if ds.length = n then (m (Sl.o xs :: (ds.map Sl.v ++ List.replicate k .no))).bind fun f => (match f with
  | .nx Γ => (match gt Γ 0 with
    | .o xs' => .ok (.v .non, xs')
    | _ => .bad)
  | .rt w Γ => (match gt Γ 0 with
    | .o xs' => .ok (w, xs')
    | _ => .bad)
  | _ => .bad) else .bad
theorem fin_len {n : Nat} {m : Env → R Fl} {k : Nat} : ∀ ds, ds.length ≠ n → fin n m k ds = .bad := fun ds h => by unfold fin; rw [if_neg h]
theorem finI_len {n : Nat} {m : Env → R Fl} {k : Nat} : ∀ xs ds, ds.length ≠ n → finI n m k xs ds = .bad := fun xs ds h => by unfold finI; rw [if_neg h]
theorem gt_v {ds : List D} {k i : Nat} : (∃ d, gt (ds.map Sl.v ++ List.replicate k .no) i = .v d ∧ ds[i]? = some d) ∨ gt (ds.map Sl.v ++ List.replicate k .no) i = .no := by
  induction ds generalizing i with
  | nil =>
    right
    show gt (List.replicate k .no) i = .no
    induction k generalizing i with
    | zero => rfl
    | succ k ih => cases i with
      | zero => rfl
      | succ i => exact ih
  | cons d ds ih => cases i with
    | zero => exact .inl ⟨d, rfl, rfl⟩
    | succ i => simpa [gt] using ih (i := i)
section
variable {K : PySem.W.Frag} {F G H : Hp}
theorem start_get {N : List Str} {vs : List V} {i : Nat} {v : V} (h : vs[i]? = some v) : (L2.start N vs)[i]? = some (some v) := by
  unfold L2.start
  have hi := (List.getElem?_eq_some_iff.mp h).1
  rw [List.getElem?_append_left (by simpa using hi), List.getElem?_map, h]
  rfl
theorem Rel.start {N : List Str} {vs : List V} {ds : List D} {k : Nat} {a0 : Addr} (w : Wd K F G H) (hv : RpA K F vs ds) (hl : N.length = ds.length + k) : Rel K a0 G (ds.map Sl.v ++ List.replicate k .no) (L2.start N vs) H F := by
  refine Rel.ofO (fun c ns fs u q => by rcases gt_v (ds := ds) (k := k) (i := 0) with ⟨d', h1, h2⟩ | h1 <;> rw [h1] at q <;> cases q) ⟨fun _ => none, fun _ => 0, ⟨w, fun _ _ h => (by cases h), fun _ => .inr rfl, fun _ => .inr rfl, fun i d q => ?_, fun i q => ?_, fun i j q => ?_, fun q => ?_, ?_, fun _ _ h => (by cases h)⟩⟩
  · rcases gt_v (ds := ds) (k := k) (i := i) with ⟨d', h1, h2⟩ | h1
    · rw [h1] at q; cases q
      obtain ⟨v, h3, h4⟩ := hv.get h2
      exact ⟨v, start_get h3, h4⟩
    · rw [h1] at q; cases q
  · rcases gt_v (ds := ds) (k := k) (i := i) with ⟨d', h1, h2⟩ | h1 <;> rw [h1] at q <;> cases q
  · rcases gt_v (ds := ds) (k := k) (i := i) with ⟨d', h1, h2⟩ | h1 <;> rw [h1] at q <;> cases q
  · rcases gt_v (ds := ds) (k := k) (i := 0) with ⟨d', h1, h2⟩ | h1 <;> rw [h1] at q <;> cases q
  · have := hv.length
    simp [L2.start]; omega
theorem Rel.startI {N : List Str} {vs ws : List V} {xs ds : List D} {k : Nat} {p : Addr} (w : Wd K F G H) (hF : F p = none) (hG : G p = none) (hp : H p = some (.lst ws)) (hx : RpA K F ws xs) (hv : RpA K F vs ds) (hl : N.length = ds.length + 1 + k) :
    Rel K p G (Sl.o xs :: (ds.map Sl.v ++ List.replicate k .no)) (L2.start N (.ref p :: vs)) H F := by
  have key : ∀ {i}, ownd (gt (Sl.o xs :: (ds.map Sl.v ++ List.replicate k .no)) i) = true → i = 0 := fun {i} q => by
    cases i with
    | zero => rfl
    | succ i =>
      have q : ownd (gt (ds.map Sl.v ++ List.replicate k .no) i) = true := q
      rcases gt_v (ds := ds) (k := k) (i := i) with ⟨d', h1, h2⟩ | h1 <;> rw [h1] at q <;> cases q
  refine Rel.ofO (fun _ _ _ _ q => by cases q) ⟨fun b => if b = p then some (.lst ws) else none, fun _ => p, ⟨w, fun b o h => ?_, fun b => ?_, fun b => ?_, fun i d q => ?_, fun i q => ?_, fun i j q1 q2 _ => (key q1).trans (key q2).symm, fun _ => rfl, ?_, fun b o h => ?_⟩⟩
  · by_cases hb : b = p
    · simp [hb] at h; rw [hb, ← h]; exact hp
    · simp [hb] at h
  · by_cases hb : b = p
    · rw [hb]; exact .inl hF
    · exact .inr (if_neg hb)
  · by_cases hb : b = p
    · rw [hb]; exact .inl hG
    · exact .inr (if_neg hb)
  · cases i with
    | zero => cases q
    | succ i =>
      have q : gt (ds.map Sl.v ++ List.replicate k .no) i = .v d := q
      rcases gt_v (ds := ds) (k := k) (i := i) with ⟨d', h1, h2⟩ | h1
      · rw [h1] at q; cases q
        obtain ⟨v, h3, h4⟩ := hv.get h2
        exact ⟨v, start_get (by simpa using h3), h4⟩
      · rw [h1] at q; cases q
  · have e := key q
    subst e
    exact ⟨start_get rfl, _, if_pos rfl, ws, rfl, hx⟩
  · have := hv.length
    simp [L2.start]; omega
  · by_cases hb : b = p
    · simp [hb] at h; rw [← h]; exact ⟨rfl, rfl⟩
    · simp [hb] at h
end
section
variable {P : Program} {w : World} {K : PySem.W.Frag} {mg : Str → Option Value} {base : Heap} {x qual : Str} {st : Stmt} {f : Addr} {fd : FuncData} {N ps : List Str} {k n j : Nat} {m : Env → R Fl}
theorem body_P {X : Cx} {E : XK} {body : List Stmt} {vs : List V} {H : Hp} {Q : VK} (eK : X.K = K) (eg : X.mg = mg) (hN : N.length = n + j) (hb : SSs X (WE E) body m) (h : spP K mg n (fin n m j) vs H Q E) :
    ∃ t, PSs X body t ∧ t { nx := fun _ H' => Q .non H', rt := Q } (L2.start N vs) H := by
  obtain ⟨t, p, s⟩ := hb
  obtain ⟨F, G, ds, wd, hv, hn, hk⟩ := h
  subst eK eg
  refine ⟨t, p, s 0 G _ _ H F _ (Rel.start wd hv (by rw [hN, hn])) ?_⟩
  unfold fin at hk
  rw [if_pos hn] at hk
  refine okG_bind hk fun f _ hf => ?_
  cases f with
  | nx Γ => exact fun σ H' F' e r => hf .non H' F' e r.wd .non
  | bk Γ => exact hf.elim
  | ct Γ => exact hf.elim
  | rt w Γ => cases w with
    | v d => exact fun σ v H' F' e r hv => hf v H' F' e r.wd hv
    | o xs => exact fun σ p vs H' F' e hG r hv => hf p vs H' F' e hG r.wd hv
theorem Rel.io0 {a0 : Addr} {G Γ σ H F} {xs : List D} (r : Rel K a0 G Γ σ H F) (g : gt Γ 0 = .o xs) : ∃ ws, F a0 = none ∧ G a0 = none ∧ H a0 = some (.lst ws) ∧ RpA K F ws xs := by
  obtain ⟨S, si, dd, O, ad, x⟩ := r
  obtain ⟨h1, ws, h2, h3⟩ := x.ow 0 xs g
  rw [x.z (ownd_o g)] at h2
  have f1 : F a0 = none := (x.fo a0).elim id fun q => by rw [h2] at q; cases q
  have g1 : G a0 = none := (jn_none.mp ((x.go a0).elim id fun q => by rw [h2] at q; cases q)).1
  exact ⟨ws, f1, g1, x.o _ _ h2, h3⟩
theorem body_I {X : Cx} {E : XK} {body : List Stmt} {vs : List V} {H : Hp} {Q : VK} (eK : X.K = K) (eg : X.mg = mg) (hN : N.length = n + 1 + j) (hb : SSs X (WE E) body m) (h : spI K mg n (finI n m j) vs H Q E) :
    ∃ t, PSs X body t ∧ t { nx := fun _ H' => Q .non H', rt := Q } (L2.start N vs) H := by
  obtain ⟨t, p, s⟩ := hb
  obtain ⟨F, G, p0, ws, xs, vs', ds, rfl, wd, hF, hG, hp, hx, hv, hn, hk⟩ := h
  subst eK eg
  refine ⟨t, p, s p0 G _ _ H F _ (Rel.startI wd hF hG hp hx hv (by rw [hN, hn])) ?_⟩
  unfold finI at hk
  rw [if_pos hn] at hk
  refine okG_bind hk fun f _ hf => ?_
  cases f with
  | bk Γ => exact hf.elim
  | ct Γ => exact hf.elim
  | nx Γ =>
    dsimp only at hf
    cases g : gt Γ 0 with
    | no => rw [g] at hf; exact hf.elim
    | m _ _ => rw [g] at hf; exact hf.elim
    | i _ _ _ _ => rw [g] at hf; exact hf.elim
    | v d => rw [g] at hf; exact hf.elim
    | o xs' =>
      rw [g] at hf
      intro σ H' F' e r
      obtain ⟨ws', a1, a2, a3, a4⟩ := r.io0 g
      exact hf .non H' F' ws' e r.wd a1 a3 a4 .non
  | rt w Γ =>
    dsimp only at hf
    cases g : gt Γ 0 with
    | no => rw [g] at hf; exact hf.elim
    | m _ _ => rw [g] at hf; exact hf.elim
    | i _ _ _ _ => rw [g] at hf; exact hf.elim
    | v d => rw [g] at hf; exact hf.elim
    | o xs' =>
      rw [g] at hf
      cases w with
      | v d =>
        intro σ v H' F' e r hv
        obtain ⟨ws', a1, a2, a3, a4⟩ := r.io0 g
        exact hf v H' F' ws' e r.wd a1 a3 a4 hv
      | o ys =>
        intro σ q us H' F' e hG r hv
        obtain ⟨ws', a1, a2, a3, a4⟩ := r.io0 g
        exact hf q us H' F' ws' e hG (fun z => by rw [← z, upd_same] at a2; cases a2) r.wd a1 a3 a4 hv
theorem fn_PD {params : Arguments} {body : List Stmt} {scope : Scope} {dvs : List V} {kws : List (Str × V)} (F : FunD K x qual params body scope dvs kws f fd) (S : FnScope N ps scope) (hp : ps.length = n) (hN : N.length = n + j)
    (hb : ∀ (cdv : Value) (A : Around) (outer : List PySem.Env) (s : Shared) (H : Hp) (E : XK), Room k (A.deeper (PyProof.Rows.envOfC qual scope s.heap.objs.size f cdv)) → Takes (cxOf (L2.CX P w) P w K mg base N qual scope f cdv A outer s H E) (WE E) →
      SSs (cxOf (L2.CX P w) P w K mg base N qual scope f cdv A outer s H E) (WE E) body m) : FnOk P w K mg base (L2.CX P w) (k + 1) f fd ps (spP K mg n (fin n m j)) := by
  refine F.ok S (fun vs H Q E h => ?_) (fun cdv A outer s H vs Q E hr h => ?_)
  · obtain ⟨F, G, ds, _, hv, hn, _⟩ := h
    rw [hv.length, hn, hp]
  · exact body_P rfl rfl hN (hb cdv A outer s H E hr (takes_of rfl rfl rfl rfl)) h
end
end Rg
namespace Rg
open PySem PySem.Spec PyProof.Rows L2 LamX
abbrev Cells := List (Str × Addr)
theorem lamO_ok {P : Program} {w : World} {H : Hp} {hh : Heap} {f c : Addr} {b : LamB} {z : Cells} {pm ctv : Value} (e : hh.get? f = some (PySem.W.kla_obj "<lambda>" b.qual b.params b.body b.scope (cloFrom z b.scope.names []) pm c ctv)) : ObjOk P w H hh f (LamO f c b z) :=
  ⟨⟨pm, ctv, e⟩, ⟨_, e⟩, fun _ _ ⟨pm, ctv, q⟩ k => ⟨pm, ctv, k _ q⟩⟩
section
variable {X : Cx} {pins : List (Addr × Obj)} {σ : L2.St} {H : Hp} {s : Shared}
theorem lam_held {T : List (Addr × Str)} {cM PM : Addr} {b : LamB} {pos : Pos} {E : Value → Shared → Prop} {Q : Value → Shared → Prop} (I : Inv X pins σ H s) (TB : TabB X.base X.mg cM PM) (hcode : X.env.code = .ref cM) (hq : X.env.qual ++ "<lambda>" = b.qual)
    (hm : (PM, b.qual) ∈ T) (hu : ∀ p ∈ T, p.1 = PM → p.2 = b.qual) (hT : Tabs T H) (hdef : defaultsOf b.params X.env = ([], [])) (hfree : ∀ y ∈ b.scope.names, y.2 = .free → ∃ c, X.env.cells.lookup y.1 = some c)
    (k : ∀ (f c : Addr) (H1 : Hp) (s' : Shared), Inv X pins σ H1 s' → ExtN H H1 → Tabs T H1 → H f = none → H1 f = some (LamO f c b X.env.cells) → H1 c = some (CodeO c b.qual) → Q (.ref f) s') :
    wpAny (model X.prog X.w) X.A (eval (.Lambda b.params b.body b.scope pos) X.env) Q E s := by
  obtain ⟨tab, hP, tri, known⟩ := hT _ hm
  refine PySem.W.kla_eval hdef ?_
  rw [hq]
  have hb := TB.bm.keeps I.bk
  have hPh := I.hok PM _ hP
  have hglob := I.mod.glob.keeps I.bk
  have hhead := TB.code.keeps I.bk
  cases found : codeAmong pos tab.toList with
  | some cv =>
    obtain ⟨c, rfl, hc⟩ := known pos cv found
    refine PySem.W.kla_makeFunctionHit (closure_ok hfree) I.ok.glob hglob hcode hhead hPh tri found hb fun ctv hp tk keep big => ?_
    have J : Inv X pins σ H { s with heap := hp, toks := tk } := I.kept keep
    have fresh : H hp.objs.size = none := I.hok.fresh big
    have J2 := J.laid (t' := tk) (a := hp.objs.size) (o := LamO hp.objs.size c b X.env.cells) (h' := hp.push (PySem.W.kla_obj "<lambda>" b.qual b.params b.body b.scope (cloFrom X.env.cells b.scope.names []) ((X.mg "__name__").getD .none) c ctv))
      (fun _ _ e => Heap.get?_push_of_some _ e) (Nat.le_refl _) (lamO_ok (Heap.get?_push_size _ rfl))
    have grow : ∀ a o, H a = some o → upd H hp.objs.size (LamO hp.objs.size c b X.env.cells) a = some o := fun a o e => by rw [upd_ne (ne_of_none e fresh)]; exact e
    exact k _ c _ _ J2 (ExtN.of grow) (hT.ext grow) fresh upd_same (grow _ _ hc)
  | none =>
    refine PySem.W.kla_makeFunction (closure_ok hfree) I.ok.glob hglob hcode hhead hPh tri found TB.gP hb fun c ctv hp tk keep low high rec tb => ?_
    obtain ⟨c2, oc, vs, t, e2, h1, h2, h3⟩ := rec
    cases e2
    have freshC : H c = none := I.hok.fresh low
    have big : s.heap.objs.size ≤ hp.objs.size := Nat.le_trans low (Nat.le_of_lt high)
    have fresh : H hp.objs.size = none := I.hok.fresh big
    have J := inv_table (t' := tk) (q := b.qual) (more := #[rawInt pos.line, rawInt pos.col, .ref c]) I hP keep tb low ⟨oc, vs, t, h1, h2, h3⟩
    have J2 := J.laid (t' := tk) (a := hp.objs.size) (o := LamO hp.objs.size c b X.env.cells) (h' := hp.push (PySem.W.kla_obj "<lambda>" b.qual b.params b.body b.scope (cloFrom X.env.cells b.scope.names []) ((X.mg "__name__").getD .none) c ctv))
      (fun _ _ e => Heap.get?_push_of_some _ e) (Nat.le_refl _) (lamO_ok (Heap.get?_push_size _ rfl))
    have neC : hp.objs.size ≠ c := Nat.ne_of_gt high
    have neP : hp.objs.size ≠ PM := fun z => by rw [z, hP] at fresh; cases fresh
    have nePc : PM ≠ c := ne_of_none hP freshC
    have grow : ExtN H (upd (upd (upd H PM (.tbl (tab ++ #[rawInt pos.line, rawInt pos.col, .ref c]))) c (CodeO c b.qual)) hp.objs.size (LamO hp.objs.size c b X.env.cells)) := fun a o e n => by
      rw [upd_ne (ne_of_none e fresh), upd_ne (ne_of_none e freshC), upd_ne fun z => n tab (by rw [z, hP] at e; exact (Option.some.inj e).symm)]
      exact e
    have atC : upd (upd (upd H PM (.tbl (tab ++ #[rawInt pos.line, rawInt pos.col, .ref c]))) c (CodeO c b.qual)) hp.objs.size (LamO hp.objs.size c b X.env.cells) c = some (CodeO c b.qual) := by rw [upd_ne (Ne.symm neC), upd_same]
    refine k _ c _ _ J2 grow (fun p hp' => ?_) fresh upd_same atC
    have eL : (tab ++ #[rawInt pos.line, rawInt pos.col, .ref c]).toList = tab.toList ++ [rawInt pos.line, rawInt pos.col, .ref c] := by simp
    by_cases same : p.1 = PM
    · rw [hu p hp' same, same]
      refine ⟨_, by rw [upd_ne (Ne.symm neP), upd_ne nePc, upd_same], by rw [eL]; exact PySem.TriplesOk_snoc _ _ _ _ tri, fun p2 cv hcv => ?_⟩
      rw [eL] at hcv
      rcases among_app _ tri hcv with y | y
      · obtain ⟨c0, y1, y2⟩ := known p2 cv y
        exact ⟨c0, y1, grow _ _ y2 codeO_ne⟩
      · exact ⟨c, y, atC⟩
    · obtain ⟨ps, y1, y2, y3⟩ := hT p hp'
      refine ⟨ps, by rw [upd_ne (ne_of_none y1 fresh), upd_ne (ne_of_none y1 freshC), upd_ne same]; exact y1, y2, fun p2 cv hcv => ?_⟩
      obtain ⟨c0, y4, y5⟩ := y3 p2 cv hcv
      exact ⟨c0, y4, grow _ _ y5 codeO_ne⟩
end
section
variable {K : PySem.W.Frag} {mg : Str → Option Value} {a0 : Addr} {G F H : Hp} {Γ : Env} {σ : L2.St} {W : WX}
theorem RelO.lam {H1 : Hp} {f c : Addr} {b : LamB} {z : Cells} (r : RelO K a0 G Γ σ H F) (e : ExtN H H1) (hT : Tabs (tabsOf K) H1) (hf0 : H f = none) (hf : H1 f = some (LamO f c b z)) (hc : H1 c = some (CodeO c b.qual)) :
    ∃ F1, Ex F F1 ∧ RelO K a0 G Γ σ H1 F1 ∧ F1 f = some (LamO f c b z) ∧ F1 c = some (CodeO c b.qual) := by
  obtain ⟨O, ad, x⟩ := r
  have hcf : c ≠ f ∨ c = f := (Decidable.em (c = f)).symm
  have Fe : Ex F H1 := fun a o q => e a o (x.wd.f a o q) fun ps y => x.wd.tb.nf a ps (by rw [q, y])
  have Ge : Ex G H1 := fun a o q => e a o (x.wd.g a o q) fun ps y => by have y2 := x.wd.tb.ng a o q; rw [y] at y2; cases y2
  have Oe : Ex O H1 := fun a o q => e a o (x.o a o q) fun ps y => by have y2 := x.om a o q; rw [y] at y2; cases y2
  have FF : Ex F (upd (upd F c (CodeO c b.qual)) f (LamO f c b z)) := fun a o q => by
    by_cases ha : a = f
    · rw [ha] at q; rw [none_of_ex x.wd.f hf0] at q; cases q
    · rw [upd_ne ha]
      by_cases hb : a = c
      · rw [hb] at q ⊢
        rw [upd_same]
        have := Fe c o q
        rw [hc] at this; exact this
      · rw [upd_ne hb]; exact q
  have lst : ∀ a o, H1 a = some o → muO o = true → a ≠ f ∧ a ≠ c := fun a o q n => ⟨fun y => (by rw [y, hf] at q; rw [← Option.some.inj q, muO_lam] at n; cases n), fun y => (by rw [y, hc] at q; rw [← Option.some.inj q, muO_code] at n; cases n)⟩
  have apart : ∀ A : Hp, Ex A H1 → (∀ a o, A a = some o → muO o = true) → (∀ a, F a = none ∨ A a = none) → ∀ a, upd (upd F c (CodeO c b.qual)) f (LamO f c b z) a = none ∨ A a = none := fun A eA lA d a => by
    cases q : A a with
    | none => exact .inr rfl
    | some o =>
      obtain ⟨n1, n2⟩ := lst a o (eA a _ q) (lA a o q)
      rw [upd_ne n1, upd_ne n2]
      exact (d a).elim .inl fun y => by rw [q] at y; cases y
  have hnf : ∀ u, H f = some u → ¬ isTw u := fun u q => by rw [hf0] at q; cases q
  have hnc : ∀ u, H c = some u → ¬ isTw u := fun u q h => by
    obtain ⟨φ, rfl⟩ := h.ext
    have := e c _ q fun ps y => by cases y
    rw [hc] at this; cases this
    exact nTw_code h
  have out : ∀ y u, upd (upd F c (CodeO c b.qual)) f (LamO f c b z) y = some u → F y = some u ∨ (nfO u = true ∧ ∀ w, H y = some w → ¬ isTw w) := fun y u q =>
    (nf_upd (H := H) rfl hnf y u q).elim (fun q => nf_upd (H := H) rfl hnc y u q) .inr
  have dkin : ∀ a r, DkOf (upd (upd F c (CodeO c b.qual)) f (LamO f c b z)) a r → DkOf F a r := fun a r h => by
    obtain ⟨C, dx, p, r1, r2, h1, h2⟩ := h
    refine ⟨C, dx, p, r1, r2, (out a _ h1).elim id fun z => ?_, h2⟩
    cases z.1
  refine ⟨upd (upd F c (CodeO c b.qual)) f (LamO f c b z), FF, ⟨O, ad, ⟨⟨fun a o q => ?_, Ge, apart G Ge x.wd.tb.ng x.wd.d, ⟨hT, fun y ps q => ?_, x.wd.tb.ng, fun y o q t => ?_, fun u1 u2 r k1 k2 => x.wd.tb.ti u1 u2 r (dkin u1 r k1) (dkin u2 r k2)⟩⟩, Oe, apart O Oe x.om x.fo, x.go, fun i d q => ?_, fun i q => ?_, x.inj, x.z, x.len, x.ol⟩⟩, upd_same, ?_⟩
  · by_cases ha : a = f
    · rw [ha, upd_same] at q; cases q; rw [ha]; exact hf
    · rw [upd_ne ha] at q
      by_cases hb : a = c
      · rw [hb, upd_same] at q; cases q; rw [hb]; exact hc
      · rw [upd_ne hb] at q; exact Fe a o q
  · rcases out y _ q with q | q
    · exact x.wd.tb.nf y ps q
    · cases q.1
  · rcases out y _ q with q | q
    · refine (x.wd.tb.tw y o q t).to (fun a u q h => e a u q fun ps y => by rw [y] at h; exact h) FF fun a u q1 q2 q3 => ?_
      cases z : upd (upd F c (CodeO c b.qual)) f (LamO f c b z) a with
      | none => rfl
      | some w => exact (out a w z).elim (fun y => by rw [q3] at y; cases y) fun y => absurd q2 (y.2 u q1)
    · rw [nfO_nt q.1] at t; cases t
  · obtain ⟨v, h1, h2⟩ := x.v i d q; exact ⟨v, h1, h2.mono FF⟩
  · obtain ⟨h1, vs, h2, h3⟩ := x.own i q; exact ⟨h1, vs, h2, h3.mono FF⟩
  · by_cases y : c = f
    · subst y; rw [upd_same, ← hf]; exact hc
    · rw [upd_ne y, upd_same]
theorem Rel.lam {H1 : Hp} {f c : Addr} {b : LamB} {z : Cells} (r : Rel K a0 G Γ σ H F) (e : ExtN H H1) (hT : Tabs (tabsOf K) H1) (hf0 : H f = none) (hf : H1 f = some (LamO f c b z)) (hc : H1 c = some (CodeO c b.qual)) :
    ∃ F1, Ex F F1 ∧ Rel K a0 G Γ σ H1 F1 ∧ F1 f = some (LamO f c b z) ∧ F1 c = some (CodeO c b.qual) := by
  obtain ⟨S, si, d, x⟩ := r
  obtain ⟨F1, h1, h2, h3, h4⟩ := x.lam e hT hf0 hf hc
  exact ⟨F1, h1, ⟨S, si.to h1 fun _ _ _ _ _ => ⟨rfl, rfl⟩, d, h2⟩, h3, h4⟩
end
structure Mkr (X : Cx) : Prop where
  ex : ∃ c P, X.env.code = .ref c ∧ TabB X.base X.mg c P ∧ (P, X.env.qual ++ "<lambda>") ∈ tabsOf X.K
  un : ∀ p ∈ tabsOf X.K, ∀ q ∈ tabsOf X.K, p.1 = q.1 → p.2 = q.2
section
variable {X : Cx} {W : WX} {pos : Pos}
end
end Rg
namespace Rg
open PySem PySem.Spec PyProof.Rows L2 LamX
def Tst (X : Cx) (t : Expr) (cs : List Value) : Prop := ∀ (a : Addr) (pn : List (Addr × Obj)) (σ : L2.St) (H : Hp) (s : Shared) (E : Value → Shared → Prop) (Q : Bool → Shared → Prop) (cls : Value) (b : Bool),
  Inv (X.suite a pn) [] σ H s → PySem.W.Looks (model X.prog X.w) s.heap (typeOf (.ref a)) cls → PySem.W.exmAny X.K cls cs = some b → (∀ hh, (∀ q o, s.heap.get? q = some o → hh.get? q = some o) → Q b { s with heap := hh }) →
  wpAny (model X.prog X.w) (X.A.mark (some (.ref a))) (eval t X.env) (fun c s1 => wpAny (model X.prog X.w) (X.A.mark (some (.ref a))) (excMatches (.ref a) c) Q E s1) E s
section
variable {X : Cx}
theorem exmAny_one {K : PySem.W.Frag} {cls c : Value} {b : Bool} (h : PySem.W.exmAny K cls [c] = some b) : PySem.W.exmOne K cls c = some b := by
  obtain ⟨b1, d1, h1, h2, rfl⟩ := PySem.W.exmAny_cons h
  have : d1 = false := by
    have h2 : some false = some d1 := h2
    exact (Option.some.inj h2).symm
  rw [h1, this, Bool.or_false]
theorem tst_name {x : Str} {c : Value} {np : Pos} (hc : Names X x c) : Tst X (.Name x np) [c] := by
  intro a pn σ H s E Q cls b I LT hx q
  have go := (PySem.W.exm_one I.kIn LT (exmAny_one hx)).here (A := X.A.mark (some (.ref a))) (E := E) (q s.heap fun _ _ z => z)
  obtain ⟨h1, h2, h3 | ⟨h3, h4, h5⟩⟩ := hc
  · exact ld_glob (X := X.suite a pn) I h1 h3 go h2
  · exact ld_blt (X := X.suite a pn) I h1 h3 h4 go h5 h2
theorem tst_two {x y : Str} {c d : Value} {np mp tp : Pos} {kk : Nat} (hc : Names X x c) (hd : Names X y d) : Tst X (.Tuple [.Name x np, .Name y mp] kk tp) [c, d] := by
  intro a pn σ H s E Q cls b I LT hx q
  have ld : ∀ {z : Str} {v : Value} {pos : Pos} {R : Value → Shared → Prop}, Names X z v → R v s → wpAny (model X.prog X.w) (X.A.mark (some (.ref a))) (eval (.Name z pos) X.env) R E s := fun {z v pos R} hz r => by
    obtain ⟨h1, h2, h3 | ⟨h3, h4, h5⟩⟩ := hz
    · exact ld_glob (X := X.suite a pn) I h1 h3 r h2
    · exact ld_blt (X := X.suite a pn) I h1 h3 h4 r h5 h2
  have grow : ∀ q o, s.heap.get? q = some o → (s.heap.push { cls := .type "tuple", data := .seq [c, d].toArray }).get? q = some o := fun _ _ z => Heap.get?_push_of_some _ z
  exact wpAny_Tuple (wpAny_items_cons (ld hc (wpAny_items_cons (ld hd (wpAny_items_nil ⟨by size_fits, (PySem.W.exm_tup2 (I.kIn.keeps grow) (LT.keeps grow) (Heap.get?_push_size s.heap rfl) hx).here (q _ grow)⟩)))))
end
abbrev SuT := Addr → Value → Option Addr → TS
inductive Hds (X : Cx) (n : Str) : List ExceptHandler → List (List Value × SuT) → Prop
  | nil : Hds X n [] []
  | cons {t : Expr} {cs : List Value} {ts : SuT} {b0 : Stmt} {su : List Stmt} {pos : Pos} {hs : List ExceptHandler} {l : List (List Value × SuT)} (ht : Tst X t cs)
      (hsu : ∀ (a : Addr) (oe : Obj) (cls : Value) (d : Option Addr) (pn : List (Addr × Obj)), Zc cls d oe → (∃ vs, oe.data = .fields vs) → PSs (X.suite a ((a, oe) :: pn)) (b0 :: su) (ts a cls d)) (r : Hds X n hs l) :
      Hds X n (.ExceptHandler (some t) (some n) (b0 :: su) pos :: hs) ((cs, ts) :: l)
def endsBut (i : Nat) (D : Ends) : Ends := { nx := fun σ H => D.nx (σ.set i none) H, rt := D.rt, bk := fun σ H => D.bk (σ.set i none) H, ct := fun σ H => D.ct (σ.set i none) H }
def wHds (K : PySem.W.Frag) (i : Nat) (Wout : WX) (D : Ends) : List (List Value × SuT) → WX
  | [] => Wout
  | (cs, ts) :: r => fun cls d σ H => ∃ b, PySem.W.exmAny K cls cs = some b ∧ (b = true → ∀ a, H a = none → ts a cls d (endsBut i D) (σ.set i (some (.ref a))) H) ∧ (b = false → wHds K i Wout D r cls d σ H)
theorem flying_kept {B hh h2 : Heap} {l : List PySem.Env} {a : Addr} {Z : Obj → Prop} (k : ∀ q o, hh.get? q = some o → h2.get? q = some o) (f : HandSPX.FlyingZ B l a Z hh) : HandSPX.FlyingZ B l a Z h2 := by
  obtain ⟨f1, f2, f3, oe, vs, T, oT, ts, e1, e2, e3, e4, e5, e6, e7, e8, e9⟩ := f
  exact ⟨fun b o q => k _ _ (f1 b o q), f2, Heap.FunFrames.of_keeps (fun b o q _ => ⟨o, k _ _ q, rfl⟩) f3, oe, vs, T, oT, ts, k _ _ e1, e2, e3, e4, e5, e6, k _ _ e7, e8, e9⟩
section
variable {X : Cx} {n : Str} {i : Nat} {body : List Stmt} {h0 : ExceptHandler} {hs : List ExceptHandler} {l : List (List Value × SuT)} {pos : Pos} {tb : WX → TS} {Wout : WX}
theorem ps_tryH (hst : X.stack = X.env :: X.outer) (hf : X.env.frame = some X.env.locals) (hN : X.N.Nodup) (hi : X.N[i]? = some n) (hn : X.env.kindOf n = some .local) (tk : Takes X Wout)
    (hb : ∀ (W : WX) (pn : List (Addr × Obj)) (xe : Value → Shared → Prop), Takes (X.tr pn xe) W → PassesOwn (model X.prog X.w) X.A X.env xe → PSs (X.tr pn xe) body (tb W)) (hh : Hds X n (h0 :: hs) l) :
    PS X (.Try body (h0 :: hs) [] [] pos) (fun D σ H => tb (fun cls d σ' H' => σ'.length = X.N.length → wHds X.K i Wout D l cls d σ' H') D σ H) := by
  constructor
  intro pins s σ H D I wish
  have ok := I.ok
  have frames : X.A.frames = some (X.env :: X.outer) := ok.frames.trans (by rw [hst])
  refine wpAny_Try_except (wpAny_mono ((hb _ (X.pn ++ pins) _ (fun u t air => ?caught) PassesOwn.looking).run [] s σ H D (I.toTry _) wish) (fun f t sp => ?thru) fun _ _ z => z)
  case thru =>
    cases f with
    | next => obtain ⟨σ1, H1, J, q⟩ := sp; exact wpAny_execs_nil ⟨σ1, H1, J.ofTry ok, q⟩
    | brk => obtain ⟨σ1, H1, J, q⟩ := sp; exact ⟨σ1, H1, J.ofTry ok, q⟩
    | cont => obtain ⟨σ1, H1, J, q⟩ := sp; exact ⟨σ1, H1, J.ofTry ok, q⟩
    | ret u => obtain ⟨v, σ1, H1, J, r, q⟩ := sp; exact ⟨v, σ1, H1, J.ofTry ok, r, q⟩
  case caught =>
    obtain ⟨a, B, sI, pins1, σ1, H1, cls, d, rfl, J0, nb, up, sky, na, os, ag, wsh⟩ := air
    have J : Inv X pins σ1 H1 sI := J0.ofTry ok
    rw [hst] at sky
    show wpAny (model X.prog X.w) X.A (noteFrame (.ref a) X.env) _ _ _
    refine Sky.land Zc.steady frames hf sky fun h3 fl up3 => ?_
    have walk : ∀ {hs1 : List ExceptHandler} {l1 : List (List Value × SuT)}, Hds X n hs1 l1 → ∀ h4 : Heap, HandSPX.FlyingZ B (X.env :: X.outer) a (Zc cls d) h4 → sI.heap.UpToSlots h4 → wHds X.K i Wout D l1 cls d σ1 H1 →
        wpAny (model X.prog X.w) X.A (handleBy (.ref a) X.env hs1) (SP X pins D) X.xe { t with heap := h4 } := by
      intro hs1 l1 hk
      induction hk with
      | nil =>
        intro h4 fl4 up4 w
        refine wpAny_handleBy_nil ?_
        obtain ⟨_, _, _, oe, vs, T, oT, ts, he, hz, hd, h1, hr⟩ := id fl4
        unfold PySem.passOn
        refine wpAny_bind (wpAny_field he hd h1 ?_)
        rw [if_neg (show ¬ ((Value.ref T == Value.none) = true) by simp)]
        have last : wpAny (model X.prog X.w) X.A (setFlight (.ref a) X.env.frame) (fun _ t2 => wpAny (model X.prog X.w) X.A (throw (.ref a) : Sem Flow) (SP X pins D) X.xe t2) X.xe { t with heap := h4 } := by
          rw [hf]
          exact HandSPX.setFlight_upZ fl4 fun h5 held up5 => wpAny_throw (tk _ _ ⟨a, B, sI, pins, σ1, H1, cls, d, rfl, J, nb, up4.trans up5, .inr (.inr (by rw [hst]; exact held)), na, os, ag, w⟩)
        first
          | exact wpAny_bind (wpAny_pure (wpAny_bind last))
          | exact wpAny_bind last
      | @cons tx cs ts b0 su ps hs2 l2 ht hsu r ih =>
        intro h4 fl4 up4 w
        obtain ⟨b, hb1, yes, no⟩ := w
        obtain ⟨oe, vs, he, hz, hd⟩ := fl4.there
        have J4 : Inv X pins σ1 H1 { t with heap := h4 } := J.landed nb fl4.1 up4 os ag
        have off : a ∉ frs (X.env :: X.outer) := fun hm => by
          obtain ⟨_, o1, e1, n1⟩ := fl4.2.2.1.mem hm
          rw [he] at e1
          cases e1
          exact n1 _ hd
        have nL : a ≠ X.env.locals := fun z => off (List.mem_filterMap.mpr ⟨X.env, List.mem_cons_self, by rw [hf, z]⟩)
        have nF : a ∉ X.fs := fun hm => by
          obtain ⟨e1, m1, q1⟩ := List.mem_filterMap.mp hm
          exact off (List.mem_filterMap.mpr ⟨e1, List.mem_cons_of_mem _ m1, q1⟩)
        have S4 := J4.suite he hd na nL nF
        have LT : PySem.W.Looks (model X.prog X.w) h4 (typeOf (.ref a)) cls := fun A Q E s k q => wpAny_typeOf_ref (k _ _ he) (by rw [hz.1]; exact q)
        refine wpAny_handleBy_cons (codeAny_handlers_test (ht a _ σ1 H1 _ _ _ cls b S4 LT hb1 fun h5 keep => ?_)) (by intro q; cases q)
        have fl5 := flying_kept keep fl4
        have up5 : sI.heap.UpToSlots h5 := up4.trans (Heap.UpToSlots.of_keeps keep)
        cases b with
        | false => exact ih h5 fl5 up5 (no rfl)
        | true =>
          refine codeAny_handlers_suite_as (HandSPX.lands_againZ fl5 fun h6 fl6 up6 => ?_)
          have J6 : Inv X pins σ1 H1 { t with heap := h6 } := J.landed nb fl6.1 (up5.trans up6) os ag
          obtain ⟨oe6, vs6, he6, hz6, hd6⟩ := fl6.there
          have S6 := J6.suite he6 hd6 na nL nF
          refine store_ok (X := X.suite a ((a, oe6) :: (X.pn ++ pins))) (v := .ref a) S6 hN hi (.inl hn) rfl (fun s7 S7 => ?_) (.inr hn)
          refine wpAny_mono ((hsu a oe6 cls d (X.pn ++ pins) hz6 ⟨_, hd6⟩).run [] s7 _ H1 _ S7 (yes rfl a na)) (fun f s8 sp => ?_) (fun _ _ z => False.elim z)
          have out : ∀ {σ8 : L2.St} {H8 : Hp} {R : Shared → Prop}, Inv (X.suite a ((a, oe6) :: (X.pn ++ pins))) [] σ8 H8 s8 → (∀ s9, Inv X pins (σ8.set i none) H8 s9 → R s9) → wpAny (model X.prog X.w) X.A (do bindName X.env n .none; unbindBehindTheSuite X.env n ps) (fun _ s9 => R s9) X.xe s8 :=
            fun S8 hR => gone_ok (S8.unsuite ok) hN hi hn hR
          cases f with
          | next => obtain ⟨σ8, H8, S8, q8⟩ := sp; exact out S8 fun s9 J9 => ⟨_, _, J9, q8⟩
          | brk => obtain ⟨σ8, H8, S8, q8⟩ := sp; exact out S8 fun s9 J9 => ⟨_, _, J9, q8⟩
          | cont => obtain ⟨σ8, H8, S8, q8⟩ := sp; exact out S8 fun s9 J9 => ⟨_, _, J9, q8⟩
          | ret u => obtain ⟨v8, σ8, H8, S8, r8, q8⟩ := sp; exact out S8 fun s9 J9 => ⟨_, _, _, J9, r8, q8⟩
    exact walk hh h3 fl (up.trans up3) (wsh J.len)
end
end Rg
namespace Rg
open PySem PySem.Spec PyProof.Rows L2 LamX
def CallsAt (P : Program) (w : World) (K : PySem.W.Frag) (mg : Str → Option Value) (base : Heap) (k : Nat) (stk : List PySem.Env) (s : Shared) (H : Hp) (f c : Addr) (b : LamB) (z : Cells) (tl : XK → Hp → VK → Prop) : Prop :=
  ∀ (A : Around) (outer : List PySem.Env) (s1 : Shared) (H1 : Hp) (Q : VK) (E : XK), Room (k + 1) A → Env0 P w K mg base A outer s1 H1 → Un (frs stk) [] H H1 s.heap s1.heap → H1 f = some (LamO f c b z) → H1 c = some (CodeO c b.qual) → tl E H1 Q →
    codeAny (model P w) A (.call (.ref f) ⟨[], []⟩) (CR (L2.CX P w) outer P w H1 s1 Q E) s1
section
variable {X : Cx} {pins : List (Addr × Obj)} {σ : L2.St} {H : Hp} {s : Shared}
theorem calls_of {k : Nat} {b : LamB} {f c : Addr} {tb : XK → TE} (I : Inv X pins σ H s) (hq : X.env.qual ++ "<lambda>" = b.qual) (L : LamS X.env.scope b.scope)
    (hbind : ∀ (q : Str) (cl : Cells) (pm cv ctv : Value), bindArgs (PySem.W.kla_fn "<lambda>" q b.params b.body b.scope cl pm cv ctv) ⟨[], []⟩ = pure [])
    (hbody : ∀ (A : Around) (outer : List PySem.Env) (s : Shared) (H : Hp) (E : XK) (f c : Addr), Room k (A.deeper (lamEnv X b.scope s.heap.objs.size f c)) → PE (lamCx X A outer s H E b.scope f c) b.body (tb E)) :
    CallsAt X.prog X.w X.K X.mg X.base k X.stack s H f c b X.env.cells (fun E H' Q' => tb E σ H' Q') := by
  obtain ⟨bp, bb, bs, bq⟩ := b
  dsimp only at hq L hbind hbody
  subst hq
  intro A outer s1 H1 Q E hr e0 un hf hc ht
  obtain ⟨⟨pm, ctv, of1⟩, _⟩ := e0.hok f _ hf
  obtain ⟨⟨oc, vs, t, hoc, hdc, hvc⟩, _⟩ := e0.hok c _ hc
  dsimp only at of1 hvc
  have lim : s1.heap.NoLimit := e0.mod.nolimit.keeps fun b o e => (e0.bs b o e).1
  refine PySem.W.kla_callFunE hr.depth of1 rfl L.co L.gen rfl ⟨c, oc, vs, t, rfl, hoc, hdc, hvc⟩ ?_
  rw [hbind]
  refine wpAny_pure (wpAny_newFunctionEnv (fun y hy => (L.own y hy).2) (fun y hy => absurd hy (by simp)) (fun hp hns hsb => ⟨lim.fresh _ hsb, ?_⟩) L.kind)
  show codeAny _ _ (.expr bb (lamEnv X bs s1.heap.objs.size f c)) _ _
  have keep : ∀ a o, s1.heap.get? a = some o → hp.get? a = some o := fun a o e => hsb.extBut a o (Nat.ne_of_lt (Heap.lt_size e)) (Heap.get?_push_of_some _ e)
  have J : Inv (lamCx X A outer s1 H1 E bs f c) [] σ H1 { s1 with heap := hp, toks := s1.toks + ([] : List (Str × Value)).length } := lam_start2 I L e0 hr.hd un hns keep
  refine PySem.W.kla_codeExpr (wpAny_mono ((hbody A outer s1 H1 E f c (hr.deeper _)).run [] _ σ H1 Q J ht) (fun v s' hv => ?_) fun _ _ z => z)
  obtain ⟨w', H', J', rv, q⟩ := hv
  exact ⟨w', H', J'.os, J'.bare, J'.base, J'.hok, rv, q⟩
end
def Gives (P : Program) (w : World) (K : PySem.W.Frag) (mg : Str → Option Value) (base : Heap) (k j : Nat) (g : Addr) (TT : (XK → Hp → VK → Prop) → Hp → VK → Prop) : Prop :=
  ∀ (A : Around) (outer : List PySem.Env) (s : Shared) (H : Hp) (f c : Addr) (b : LamB) (z : Cells) (tl : XK → Hp → VK → Prop) (Q : VK), Room (k + j) A → Env0 P w K mg base A outer s H → H f = some (LamO f c b z) → H c = some (CodeO c b.qual) →
    CallsAt P w K mg base k outer s H f c b z tl → TT tl H Q → codeAny (model P w) A (.call (.ref g) ⟨[.ref f], []⟩) (CR C8.CX0 outer P w H s Q C8.E0) s
theorem pe_ask {P : Program} {w : World} {K : PySem.W.Frag} {mg : Str → Option Value} {base : Heap} {k i : Nat} {N : List Str} {qg a : Str} {sg : Scope} {g f c : Addr} {cdg : Value} {b : LamB} {z : Cells} {tl : XK → Hp → VK → Prop} {A : Around} {outer : List PySem.Env} {s : Shared} {H : Hp} {Eg E : XK} {pn : List (Addr × Obj)} {xe : Value → Shared → Prop} {W : WX} {p1 p2 : Pos}
    (call : CallsAt P w K mg base k outer s H f c b z tl) (hr : Room (k + 1) (A.deeper (envOfC qg sg s.heap.objs.size g cdg))) (tk : Takes ((cxOf C8.CX0 P w K mg base N qg sg g cdg A outer s H Eg).tr pn xe) W) (hW : ∀ cls d σ H, E cls d H → W cls d σ H)
    (hN : N[i]? = some a) (hv : Vis sg a) (hd : (a == ("__debug__" : Str)) = false) (hcd : (a == ("__classdict__" : Str)) = false) :
    PE ((cxOf C8.CX0 P w K mg base N qg sg g cdg A outer s H Eg).tr pn xe) (.Call (.Name a p1) [] [] p2) (fun σZ HZ Q => σZ[i]? = some (some (.ref f)) ∧ HZ f = some (LamO f c b z) ∧ HZ c = some (CodeO c b.qual) ∧ tl E HZ Q) := by
  constructor
  intro pins s1 σ1 H1 Q I ⟨h1, h2, h3, h4⟩
  refine wpAny_Call_Name_kw (thn ((pe_var (pos := p1) (i := i) hN hv hd hcd).run pins s1 σ1 H1 (fun v H2 => v = .ref f ∧ H2 = H1) I ⟨.ref f, h1, rfl, rfl⟩) fun u s2 ⟨v, H2, I2, r2, e1, e2⟩ => ?_)
  subst e1
  subst e2
  obtain rfl : u = Value.ref f := r2
  obtain ⟨⟨pm, ctv, of1⟩, _⟩ := I2.hok f _ h2
  refine PySem.W.callWith_F0 ⟨_, _, _, _, of1⟩ (wpAny_call (codeAny_mono (call _ _ s2 _ Q E hr I2.env0 I2.base h2 h3 h4) fun r s3 hq => ?_))
  cases r with
  | error e => exact passes_call tk hW pins σ1 _ s2 e s3 I2 hq
  | ok fl =>
    cases fl with
    | ret u => exact I2.after hq
    | next => exact False.elim hq
    | brk => exact False.elim hq
    | cont => exact False.elim hq
def tGiv (T : List (Addr × Str)) (b : LamB) (z : Cells) (TT : (XK → Hp → VK → Prop) → Hp → VK → Prop) (t : XK → TE) : TE := fun σ H Q => Tabs T H ∧ ∀ f c H1, ExtN H H1 → Tabs T H1 → H f = none → H1 f = some (LamO f c b z) → H1 c = some (CodeO c b.qual) → TT (fun E H' Q' => t E σ H' Q') H1 Q
section
variable {X : Cx}
theorem pe_giv {k j : Nat} {g : Addr} {x : Str} {b : LamB} {TT : (XK → Hp → VK → Prop) → Hp → VK → Prop} {tb : XK → TE} {p lpos pos : Pos} (Gv : Gives X.prog X.w X.K X.mg X.base k j g TT) (hr : Room (k + j) X.A) (hg : Gl X x) (hm : X.mg x = some (.ref g)) (hk : PySem.W.keepIn X.K (.ref g) = true)
    (M : Mkr X) (hq : X.env.qual ++ "<lambda>" = b.qual) (L : LamS X.env.scope b.scope) (hdef : defaultsOf b.params X.env = ([], [])) (hbind : ∀ (q : Str) (cl : Cells) (pm cv ctv : Value), bindArgs (PySem.W.kla_fn "<lambda>" q b.params b.body b.scope cl pm cv ctv) ⟨[], []⟩ = pure [])
    (hbody : ∀ (A : Around) (outer : List PySem.Env) (s : Shared) (H : Hp) (E : XK) (f c : Addr), Room k (A.deeper (lamEnv X b.scope s.heap.objs.size f c)) → PE (lamCx X A outer s H E b.scope f c) b.body (tb E)) (hdb : (x == ("__debug__" : Str)) = false) :
    PE X (.Call (.Name x p) [.Lambda b.params b.body b.scope lpos] [] pos) (tGiv (tabsOf X.K) b X.env.cells TT tb) := by
  obtain ⟨cM, PM, hcode, TB, hmem⟩ := M.ex
  rw [hq] at hmem
  constructor
  intro pins s σ H Q I ⟨hT, h⟩
  refine wpAny_Call_Name_kw (ld_glob I hg hm ?_ hdb)
  refine PySem.W.callWith_K (h₀ := X.base) I.ok.mod.kin hk ?_ (by rfl) (by rfl)
  show wpAny _ _ (spliced ((false, eval (.Lambda b.params b.body b.scope lpos) X.env) :: backTo pos (starEach [] X.env))) _ _ s
  refine Calls.spliced_cons (lam_held I TB hcode hq hmem (fun p hp e => M.un p hp _ hmem e) hT hdef (L.has I.ok) fun f c H1 s' J e T1 h0 h1 h2 => ?_)
  refine Calls.spliced_nil ⟨J.kIn, ?_⟩
  refine wpAny_call (codeAny_mono (Gv X.A X.stack s' H1 f c b X.env.cells _ Q hr J.env0 h1 h2 (calls_of J hq L hbind hbody) (h f c H1 e T1 h0 h1 h2)) fun r s2 hres => ?_)
  cases r with
  | error e => exact (show False from hres).elim
  | ok fl =>
    cases fl with
    | ret u => exact J.after hres
    | next => exact False.elim hres
    | brk => exact False.elim hres
    | cont => exact False.elim hres
end
def tFld (K : PySem.W.Frag) (a : Addr) (cls : Value) (d : Option Addr) (f : Str) (te : TE) : TE := fun σ H Q => te σ H fun x H1 => x = .ref a ∧ ∃ (C dd : Addr) (gs : List (Str × V)) (v : V), cls = .ref C ∧ XfC K C ∧ PySem.W.findIn K (.ref C) f = some none ∧ d = some dd ∧ H1 dd = some (.xd gs) ∧ gs.lookup f = some v ∧ Q v H1
theorem pe_fld {X : Cx} {a : Addr} {oe : Obj} {cls : Value} {d : Option Addr} {pn : List (Addr × Obj)} {e : Expr} {i : Nat} {pos : Pos} {n : Str} (hz : Zc cls d oe) (hf : ∃ vs, oe.data = .fields vs) (he : PE (X.suite a ((a, oe) :: pn)) e (tVar i)) (hb : attributeBase e n X.env (eval e X.env) = eval e X.env := by rfl) :
    PE (X.suite a ((a, oe) :: pn)) (.Attribute e n pos) (tFld X.K a cls d n (tVar i)) := by
  constructor
  rintro pins s σ H Q I ⟨x, hx, rfl, C, dd, gs, v, h1, h2, h3, h4, h5, h6, h7⟩
  exact (pe_xf (C := C) h2 h3 hz hf he hb).run pins s σ H Q I ⟨.ref a, hx, rfl, h1, dd, gs, v, h4, h5, h6, h7⟩
def suOne (K : PySem.W.Frag) (f : Str) : SuT := fun a cls d => tRet (tTup (tCons (tFld K a cls d "word" (tVar 1)) (tCons (tFld K a cls d f (tVar 1)) tNil)))
def suTwo (K : PySem.W.Frag) : SuT := fun a cls d => tRet (tTup (tCons (tFld K a cls d "word" (tVar 1)) (tCons (tTup (tCons (tFld K a cls d "at" (tVar 1)) (tCons (tFld K a cls d "kind" (tVar 1)) tNil))) tNil)))
def suNon (K : PySem.W.Frag) : SuT := fun a cls d => tRet (tTup (tCons (tFld K a cls d "word" (tVar 1)) (tCons (tC .non) tNil)))
def whyL (K : PySem.W.Frag) : List (List Value × SuT) := [(whyCs K ["NotWhole"], suOne K "part"), (whyCs K ["TooTall"], suOne K "tall"), (whyCs K ["BadTable", "BadText"], suOne K "at"), (whyCs K ["BadPage"], suOne K "row"), (whyCs K ["Stopped"], suTwo K), (whyCs K ["Used", "Held"], suOne K "by"), (whyCs K ["NoGuest", "NoName"], suOne K "name"), (whyCs K ["RungError", "RungMissing"], suNon K)]
inductive WhyX (K : PySem.W.Frag) (C : Addr) (gs : List (Str × V)) (H : Hp) (Q : V → V → Hp → Prop) : Nat → Prop
  | one {j : Nat} {f : Str} {w y : V} : ([some "part", some "tall", some "at", some "row", none, some "by", some "name"] : List (Option Str))[j]? = some (some f) → gs.lookup ("word" : Str) = some w → gs.lookup f = some y → PySem.W.findIn K (.ref C) f = some none → Q w y H → WhyX K C gs H Q j
  | two {w y y2 : V} : gs.lookup ("word" : Str) = some w → gs.lookup ("at" : Str) = some y → gs.lookup ("kind" : Str) = some y2 → PySem.W.findIn K (.ref C) "at" = some none → PySem.W.findIn K (.ref C) "kind" = some none → (∀ q, H q = none → Q w (.ref q) (upd H q (.tup [y, y2]))) → WhyX K C gs H Q 4
  | non {w : V} : gs.lookup ("word" : Str) = some w → Q w .non H → WhyX K C gs H Q 7
structure WhyF (K : PySem.W.Frag) (C : Addr) (j : Nat) : Prop where
  lo : ∀ i ns, i < j → whyNs[i]? = some ns → PySem.W.exmAny K (.ref C) (whyCs K ns) = some false
  hi : ∀ ns, whyNs[j]? = some ns → PySem.W.exmAny K (.ref C) (whyCs K ns) = some true
  xf : XfC K C
  wd : PySem.W.findIn K (.ref C) "word" = some none
def TPair (K : PySem.W.Frag) (Q : V → V → Hp → Prop) : (XK → Hp → VK → Prop) → Hp → Prop := fun tl H =>
  tl (fun cls d H' => ∃ (C dd : Addr) (gs : List (Str × V)) (j : Nat), cls = .ref C ∧ d = some dd ∧ H' dd = some (.xd gs) ∧ WhyF K C j ∧ WhyX K C gs H' Q j) H (fun v H' => Q (.str "told") v H')
def TWhy (K : PySem.W.Frag) : (XK → Hp → VK → Prop) → Hp → VK → Prop := fun tl H Q => TPair K (fun w y H' => ∀ p, H' p = none → Q (.ref p) (upd H' p (.tup [w, y]))) tl H
theorem why_hds {K : PySem.W.Frag} {D : Ends} {σ : L2.St} {H : Hp} {C dd : Addr} {gs : List (Str × V)} {j : Nat} (hl : 1 < σ.length) (F : WhyF K C j) (hd : H dd = some (.xd gs)) (h : WhyX K C gs H (fun w y H' => ∀ p, H' p = none → D.rt (.ref p) (upd H' p (.tup [w, y]))) j) :
    wHds K 1 (fun _ _ _ _ => False) D (whyL K) (.ref C) (some dd) σ H := by
  have at1 : ∀ a : Addr, (σ.set 1 (some (V.ref a)))[1]? = some (some (.ref a)) := fun a => List.getElem?_set_self hl
  have s2 : 2 ≤ sizeLine := by decide
  have wone : ∀ {f : Str} {w y : V}, gs.lookup ("word" : Str) = some w → gs.lookup f = some y → PySem.W.findIn K (.ref C) f = some none → (∀ p, H p = none → D.rt (.ref p) (upd H p (.tup [w, y]))) → ∀ a, H a = none → suOne K f a (.ref C) (some dd) (endsBut 1 D) (σ.set 1 (some (.ref a))) H :=
    fun {f w y} h1 h2 h3 h4 a _ => ⟨.ref a, at1 a, rfl, C, dd, gs, w, rfl, F.xf, F.wd, rfl, hd, h1, .ref a, at1 a, rfl, C, dd, gs, y, rfl, F.xf, h3, rfl, hd, h2, s2, h4⟩
  have skip : ∀ {i : Nat} {ns : List Str} {ts : SuT} {r : List (List Value × SuT)}, i < j → whyNs[i]? = some ns → wHds K 1 (fun _ _ _ _ => False) D r (.ref C) (some dd) σ H → wHds K 1 (fun _ _ _ _ => False) D ((whyCs K ns, ts) :: r) (.ref C) (some dd) σ H :=
    fun {i ns ts r} h1 h2 h3 => ⟨false, F.lo i ns h1 h2, (fun z => by cases z), fun _ => h3⟩
  have take : ∀ {ns : List Str} {ts : SuT} {r : List (List Value × SuT)}, whyNs[j]? = some ns → (∀ a, H a = none → ts a (.ref C) (some dd) (endsBut 1 D) (σ.set 1 (some (.ref a))) H) → wHds K 1 (fun _ _ _ _ => False) D ((whyCs K ns, ts) :: r) (.ref C) (some dd) σ H :=
    fun {ns ts r} h1 h2 => ⟨true, F.hi ns h1, fun _ => h2, (fun z => by cases z)⟩
  cases h with
  | one hj h1 h2 h3 h4 =>
    match j, hj with
    | 0, hj => cases hj; exact take rfl (wone h1 h2 h3 h4)
    | 1, hj => cases hj; exact skip (i := 0) (by decide) rfl (take rfl (wone h1 h2 h3 h4))
    | 2, hj => cases hj; exact skip (i := 0) (by decide) rfl (skip (i := 1) (by decide) rfl (take rfl (wone h1 h2 h3 h4)))
    | 3, hj => cases hj; exact skip (i := 0) (by decide) rfl (skip (i := 1) (by decide) rfl (skip (i := 2) (by decide) rfl (take rfl (wone h1 h2 h3 h4))))
    | 4, hj => simp at hj
    | 5, hj => cases hj; exact skip (i := 0) (by decide) rfl (skip (i := 1) (by decide) rfl (skip (i := 2) (by decide) rfl (skip (i := 3) (by decide) rfl (skip (i := 4) (by decide) rfl (take rfl (wone h1 h2 h3 h4))))))
    | 6, hj => cases hj; exact skip (i := 0) (by decide) rfl (skip (i := 1) (by decide) rfl (skip (i := 2) (by decide) rfl (skip (i := 3) (by decide) rfl (skip (i := 4) (by decide) rfl (skip (i := 5) (by decide) rfl (take rfl (wone h1 h2 h3 h4)))))))
    | j + 7, hj => simp at hj
  | two h1 h2 h3 h4 h5 h6 =>
    refine skip (i := 0) (by decide) rfl (skip (i := 1) (by decide) rfl (skip (i := 2) (by decide) rfl (skip (i := 3) (by decide) rfl (take rfl fun a _ => ?_))))
    refine ⟨.ref a, at1 a, rfl, C, dd, gs, _, rfl, F.xf, F.wd, rfl, hd, h1, .ref a, at1 a, rfl, C, dd, gs, _, rfl, F.xf, h4, rfl, hd, h2, .ref a, at1 a, rfl, C, dd, gs, _, rfl, F.xf, h5, rfl, hd, h3, s2, fun q hq => ⟨s2, h6 q hq⟩⟩
  | non h1 h2 =>
    refine skip (i := 0) (by decide) rfl (skip (i := 1) (by decide) rfl (skip (i := 2) (by decide) rfl (skip (i := 3) (by decide) rfl (skip (i := 4) (by decide) rfl (skip (i := 5) (by decide) rfl (skip (i := 6) (by decide) rfl (take rfl fun a _ => ?_)))))))
    exact ⟨.ref a, at1 a, rfl, C, dd, gs, _, rfl, F.xf, F.wd, rfl, hd, h1, s2, h2⟩
end Rg
namespace Rg
open PySem PySem.Spec PyProof.Rows L2 LamX
def WhyB (bg : List Stmt) : Prop := ∀ (Z : Cx), Z.N = (["_law_ask", "e"] : List Str) → Z.stack = Z.env :: Z.outer → Z.env.frame = some Z.env.locals → Vis Z.env.scope "_law_ask" → Z.env.kindOf "e" = some .local → (∀ ns ∈ whyNs, ∀ x ∈ ns, Names Z x (.ref (He.ga Z.K x))) →
  ∀ (tl : XK → TE), (∀ (W : WX) (pn : List (Addr × Obj)) (xe : Value → Shared → Prop) (E : XK) (p1 p2 : Pos), Takes (Z.tr pn xe) W → (∀ cls d σ H, E cls d H → W cls d σ H) → PE (Z.tr pn xe) (.Call (.Name "_law_ask" p1) [] [] p2) (tl E)) →
    PSs Z bg (fun D σ H => ∃ E : XK, (∀ cls d σ' H', E cls d H' → σ'.length = 2 → wHds Z.K 1 (fun _ _ _ _ => False) D (whyL Z.K) cls d σ' H') ∧ tRet (tTup (tCons (tC (.str "told")) (tCons (tl E) tNil))) D σ H)
theorem why_try {Z : Cx} {body : List Stmt} {h0 : ExceptHandler} {hs : List ExceptHandler} {pos : Pos} (hN : Z.N = (["_law_ask", "e"] : List Str)) (hst : Z.stack = Z.env :: Z.outer) (hfr : Z.env.frame = some Z.env.locals) (hne : Z.env.kindOf "e" = some .local) (tl : XK → TE)
    (hb : ∀ (W : WX) (pn : List (Addr × Obj)) (xe : Value → Shared → Prop) (E : XK), Takes (Z.tr pn xe) W → (∀ cls d σ H, E cls d H → W cls d σ H) → PSs (Z.tr pn xe) body (tRet (tTup (tCons (tC (.str "told")) (tCons (tl E) tNil))))) (hh : Hds Z "e" (h0 :: hs) (whyL Z.K)) :
    PSs Z [.Try body (h0 :: hs) [] [] pos] (fun D σ H => ∃ E : XK, (∀ cls d σ' H', E cls d H' → σ'.length = 2 → wHds Z.K 1 (fun _ _ _ _ => False) D (whyL Z.K) cls d σ' H') ∧ tRet (tTup (tCons (tC (.str "told")) (tCons (tl E) tNil))) D σ H) := by
  have key := pss_one (ps_tryH (i := 1) (pos := pos) (tb := fun W D σ H => ∃ E : XK, (∀ cls d σ' H', E cls d H' → W cls d σ' H') ∧ tRet (tTup (tCons (tC (.str "told")) (tCons (tl E) tNil))) D σ H) hst hfr (by rw [hN]; decide) (by rw [hN]; rfl) hne takes_none5
    (fun W pn xe tk _ => ⟨fun pins s σ H D I ⟨E, hW, h⟩ => (hb W pn xe E tk hW).run pins s σ H D I h⟩) hh)
  rw [hN] at key
  exact key
theorem hn_of {Z : Cx} (h : ∀ ns ∈ whyNs, ∀ x ∈ ns, Names Z x (.ref (He.ga Z.K x))) (x : Str) (ns : List Str) (h1 : ns ∈ whyNs) (h2 : x ∈ ns) : Names Z x (.ref (He.ga Z.K x)) := h ns h1 x h2
section
variable {P : Program} {w : World} {K : PySem.W.Frag} {mg : Str → Option Value} {base : Heap} {k : Nat} {g : Addr} {fd : FuncData} {params : Arguments} {bg : List Stmt} {sg : Scope}
theorem start1 {f : Addr} : (L2.start ["_law_ask", "e"] [V.ref f])[0]? = some (some (.ref f)) := rfl
theorem why_gives (F : FunD K "_law_why" "_law_why" params bg sg [] [] g fd) (S : FnScope ["_law_ask", "e"] ["_law_ask"] sg) (hb : Binds K fd ["_law_ask"] []) (hB : WhyB bg) (hva : Vis sg "_law_ask") (hne : sg.names.lookup ("e" : Str) = some NameKind.local)
    (hgl : ∀ ns ∈ whyNs, ∀ x ∈ ns, sg.names.lookup x = some .globalImplicit ∧ (x == ("__debug__" : Str)) = false ∧ mg x = some (.ref (He.ga K x))) : Gives P w K mg base k 2 g (TWhy K) := by
  intro A outer s H f c b z tl Q hr e0 hf hc call hT
  obtain ⟨oc, od, dV, kV, doc, pm, an, cdv, ct, osl, rfl, lk, hcd, _, _⟩ := F.ex
  have kin : K.In s.heap := e0.mod.kin.keeps fun b o e => (e0.bs b o e).1
  refine run_ofS (N := ["_law_ask", "e"]) (ps := ["_law_ask"]) (us := [.ref f]) (vs := [.ref f]) lk hcd S hr e0 (hb s [.ref f] kin rfl) (.cons rfl .nil) rfl fun hr' => ?_
  have key := hB (cxOf C8.CX0 P w K mg base ["_law_ask", "e"] "_law_why" sg g cdv A outer s H C8.E0).nox rfl rfl rfl hva hne (fun ns h1 x h2 => ⟨(hgl ns h1 x h2).1, (hgl ns h1 x h2).2.1, .inl (hgl ns h1 x h2).2.2⟩)
    (fun E σZ HZ Q => σZ[0]? = some (some (.ref f)) ∧ HZ f = some (LamO f c b z) ∧ HZ c = some (CodeO c b.qual) ∧ tl E HZ Q)
    (fun W pn xe E p1 p2 tk hW => pe_ask (k := k) (i := 0) (N := ["_law_ask", "e"]) (Eg := C8.E0) (b := b) (z := z) call hr' tk hW rfl hva (by decide) (by decide))
  refine ⟨_, key.nox, fun cls d H' => ∃ (C dd : Addr) (gs : List (Str × V)) (j : Nat), cls = .ref C ∧ d = some dd ∧ H' dd = some (.xd gs) ∧ WhyF K C j ∧ WhyX K C gs H' (fun w y H' => ∀ p, H' p = none → Q (.ref p) (upd H' p (.tup [w, y]))) j, ?_, ?_⟩
  · rintro cls d σ' H' ⟨C, dd, gs, j, rfl, rfl, h1, h2, h3⟩ hl
    exact why_hds (by rw [hl]; decide) h2 h1 h3
  · refine ⟨start1, hf, hc, ?_⟩
    have e : (fun (v : V) (H1 : Hp) => 2 ≤ sizeLine ∧ ∀ p, H1 p = none → Q (.ref p) (upd H1 p (.tup [.str "told", v]))) = fun v H1 => ∀ p, H1 p = none → Q (.ref p) (upd H1 p (.tup [.str "told", v])) := by
      funext v H1
      exact propext ⟨And.right, fun h => ⟨by decide, h⟩⟩
    show tl _ H (fun (v : V) (H1 : Hp) => 2 ≤ sizeLine ∧ ∀ p, H1 p = none → Q (.ref p) (upd H1 p (.tup [.str "told", v])))
    rw [e]
    exact hT
end
end Rg
namespace Rg
open PySem PySem.Spec PyProof.Rows L2 LamX
def hideS : Sl → Sl
  | .o _ => .no
  | .m _ _ => .no
  | .i _ _ _ _ => .no
  | s => s
def hide (Γ : Env) : Env := Γ.map hideS
theorem gt_hide : ∀ (Γ : Env) (i : Nat), gt (hide Γ) i = hideS (gt Γ i)
  | [], _ => rfl
  | _ :: _, 0 => rfl
  | _ :: Γ, i + 1 => gt_hide Γ i
def whyP (fs : List (Str × D)) (j : Nat) : Option (D × D) := (fs.lookup ("word" : Str)).bind fun w => match j with
  | 0 => (fs.lookup ("part" : Str)).map fun y => (w, y)
  | 1 => (fs.lookup ("tall" : Str)).map fun y => (w, y)
  | 2 => (fs.lookup ("at" : Str)).map fun y => (w, y)
  | 3 => (fs.lookup ("row" : Str)).map fun y => (w, y)
  | 4 => (fs.lookup ("at" : Str)).bind fun y => (fs.lookup ("kind" : Str)).map fun z => (w, .tup [y, z])
  | 5 => (fs.lookup ("by" : Str)).map fun y => (w, y)
  | 6 => (fs.lookup ("name" : Str)).map fun y => (w, y)
  | 7 => some (w, .non)
  | _ => none
def mPair (kn : List Str) (m : Env → R (BV × Env)) : Env → R (D × D) := fun Γ => match mFz1 m (hide Γ) with
  | .ok x => .ok (.str "told", x.1)
  | .exc c fs => if kn.contains c = true then (match whyP fs (whyIx c) with
    | some p => .ok p
    | none => .bad) else .bad
  | .bad => .bad
def mWhy (kn : List Str) (m : Env → R (BV × Env)) : Env → R (BV × Env) := fun Γ => (mPair kn m Γ).bind fun p => .ok (.v (.tup [p.1, p.2]), Γ)
structure WhyK (K : PySem.W.Frag) (mg : Str → Option Value) (kn : List Str) : Prop where
  g : ∀ c ∈ kn, mg c = some (.ref (He.ga K c))
  f : ∀ c ∈ kn, WhyF K (He.ga K c) (whyIx c)
  n : ∀ c ∈ kn, ∀ x ∈ (["part", "tall", "at", "row", "kind", "by", "name"] : List Str), PySem.W.findIn K (.ref (He.ga K c)) x = some none
section
variable {K : PySem.W.Frag} {mg : Str → Option Value} {a0 : Addr} {G F H : Hp} {Γ : Env} {σ : L2.St} {W : WX}
theorem Rel.hide (r : Rel K a0 G Γ σ H F) : ∃ G', Ex G G' ∧ Rel K a0 G' (Rg.hide Γ) σ H F ∧ ∀ F' H', Ex F F' → Wd K F' G' H' → Rel K a0 G Γ σ H' F' := by
  obtain ⟨G', eG, w, back, _⟩ := r.split
  refine ⟨G', eG, ?_, back⟩
  have ni : ∀ c ns ds w, gt (Rg.hide Γ) 0 ≠ .i c ns ds w := fun c ns ds w q => by
    rw [gt_hide] at q
    cases h : gt Γ 0 <;> rw [h] at q <;> cases q
  obtain ⟨S, si, dd, O, ad, x⟩ := r
  have no : ∀ i xs, gt (Rg.hide Γ) i ≠ .o xs := fun i xs q => by
    rw [gt_hide] at q
    cases h : gt Γ i <;> rw [h] at q <;> cases q
  have no2 : ∀ i, ownd (gt (Rg.hide Γ) i) = true → False := fun i q => by
    rw [gt_hide] at q
    cases h : gt Γ i <;> rw [h] at q <;> cases q
  refine Rel.ofO ni ⟨fun _ => none, fun _ => 0, ⟨w, fun _ _ h => (by cases h), fun _ => .inr rfl, fun _ => .inr rfl, fun i d q => ?_, fun i q => (no2 i q).elim, fun i j q => (no2 i q).elim, fun q => (no2 0 q).elim, by rw [← x.len]; exact List.length_map _, fun _ _ h => (by cases h)⟩⟩
  rw [gt_hide] at q
  cases h : gt Γ i with
  | no => rw [h] at q; cases q
  | m _ _ => rw [h] at q; cases q
  | i _ _ _ _ => rw [h] at q; cases q
  | o xs => rw [h] at q; cases q
  | v e => rw [h] at q; cases q; exact x.v i d h
theorem FsA.look {x : Str} {d : D} : ∀ {gs : List (Str × V)} {fs : List (Str × D)}, FsA K F gs fs → fs.lookup x = some d → ∃ v, gs.lookup x = some v ∧ Rp K F v d
  | _, _, .nil, h => by cases h
  | _, _, .cons (n := n) (v := v) (d := d') h a, e => by
    simp only [List.lookup_cons] at e ⊢
    cases q : (x == n) with
    | true => rw [q] at e; cases e; exact ⟨v, rfl, h⟩
    | false => rw [q] at e; exact FsA.look a e
theorem whyX_of {C : Addr} {gs : List (Str × V)} {fs : List (Str × D)} {j : Nat} {p : D × D} {Q : V → V → Hp → Prop} (r : Rel K a0 G Γ σ H F) (hf : FsA K F gs fs) (hp : whyP fs j = some p) (hn : ∀ x ∈ (["part", "tall", "at", "row", "kind", "by", "name"] : List Str), PySem.W.findIn K (.ref C) x = some none)
    (hQ : ∀ v u H' F', Ex F F' → Rel K a0 G Γ σ H' F' → Rp K F' v p.1 → Rp K F' u p.2 → Q v u H') : WhyX K C gs H Q j := by
  unfold whyP at hp
  cases hw : fs.lookup ("word" : Str) with
  | none => rw [hw] at hp; cases hp
  | some w =>
    rw [hw, Option.bind_some] at hp
    obtain ⟨vw, kw, rw'⟩ := hf.look hw
    have one : ∀ (f : Str) (y : D), ([some "part", some "tall", some "at", some "row", none, some "by", some "name"] : List (Option Str))[j]? = some (some f) → f ∈ (["part", "tall", "at", "row", "kind", "by", "name"] : List Str) → fs.lookup f = some y → p = (w, y) → WhyX K C gs H Q j := fun f y h1 h2 h3 h4 => by
      obtain ⟨vy, ky, ry⟩ := hf.look h3
      subst h4
      exact .one h1 kw ky (hn f h2) (hQ vw vy H F (Ex.refl F) r rw' ry)
    have step : ∀ {f : Str} {q : Option D}, fs.lookup f = q → (q.map fun y => (w, y)) = some p → ∃ y, fs.lookup f = some y ∧ p = (w, y) := fun {f q} h1 h2 => by
      cases q with
      | none => cases h2
      | some y => cases h2; exact ⟨y, h1, rfl⟩
    match j, hp, one with
    | 0, hp, one => obtain ⟨y, h1, h2⟩ := step rfl hp; exact one _ y rfl (by decide) h1 h2
    | 1, hp, one => obtain ⟨y, h1, h2⟩ := step rfl hp; exact one _ y rfl (by decide) h1 h2
    | 2, hp, one => obtain ⟨y, h1, h2⟩ := step rfl hp; exact one _ y rfl (by decide) h1 h2
    | 3, hp, one => obtain ⟨y, h1, h2⟩ := step rfl hp; exact one _ y rfl (by decide) h1 h2
    | 5, hp, one => obtain ⟨y, h1, h2⟩ := step rfl hp; exact one _ y rfl (by decide) h1 h2
    | 6, hp, one => obtain ⟨y, h1, h2⟩ := step rfl hp; exact one _ y rfl (by decide) h1 h2
    | 7, hp, _ => cases hp; exact .non kw (hQ vw .non H F (Ex.refl F) r rw' .non)
    | 4, hp, _ =>
      cases h1 : fs.lookup ("at" : Str) with
      | none => simp only [h1] at hp; cases hp
      | some y =>
        cases h2 : fs.lookup ("kind" : Str) with
        | none => simp only [h1, h2, Option.bind_some] at hp; cases hp
        | some z =>
          simp only [h1, h2, Option.bind_some] at hp
          cases hp
          obtain ⟨vy, ky, ry⟩ := hf.look h1
          obtain ⟨vz, kz, rz⟩ := hf.look h2
          refine .two kw ky kz (hn _ (by decide)) (hn _ (by decide)) fun q hq => ?_
          obtain ⟨e2, r2⟩ := r.newF (o := .tup [vy, vz]) hq
          exact hQ vw (.ref q) _ _ e2 r2 (rw'.mono e2) (.tup (.inl (.inl upd_same)) (.cons (ry.mono e2) (.cons (rz.mono e2) .nil)))
    | j + 8, hp, _ => cases hp
theorem sdX_pair {kn : List Str} {m : Env → R (BV × Env)} {Q : V → V → Hp → Prop} (N : WhyK K mg kn) (r : Rel K a0 G Γ σ H F)
    (hk : OkG K mg G F W (fun p => ∀ v u H' F', Ex F F' → Rel K a0 G Γ σ H' F' → Rp K F' v p.1 → Rp K F' u p.2 → Q v u H') (mPair kn m Γ)) : TPair K Q (fun E H' Q' => tmX K mg (WE E) m σ H' Q') H := by
  obtain ⟨G', eG, rh, back⟩ := r.hide
  have sd : ∀ E, SdX K mg (WE E) (tmX K mg (WE E) m) m := fun E a0 G Γ σ H F Q r h => ⟨a0, G, Γ, F, r, h⟩
  refine sdX_fz (sd _) rh ?_
  unfold mPair at hk
  cases q : mFz1 m (Rg.hide Γ) with
  | bad => rw [q] at hk; exact hk.elim
  | ok x =>
    rw [q] at hk
    exact fun v H' F' e r' hv => hk (.str "told") v H' F' e (back F' H' e r'.wd) (.str _) hv
  | exc c fs =>
    rw [q] at hk
    dsimp only at hk
    split at hk
    · rename_i hc
      have hc : c ∈ kn := by simpa using hc
      cases q2 : whyP fs (whyIx c) with
      | none => rw [q2] at hk; exact hk.elim
      | some p =>
        rw [q2] at hk
        intro ca dd τ H' F' e hx
        obtain ⟨wd, hg, gs, hd, hfs⟩ := hx
        have eq : ca = He.ga K c := by
          rw [N.g c hc] at hg
          exact (Value.ref.inj (Option.some.inj hg)).symm
        subst eq
        exact ⟨_, dd, gs, whyIx c, rfl, rfl, hd, N.f c hc, whyX_of (back F' H' e wd) hfs q2 (N.n c hc) fun v u H2 F2 e2 r2 => hk v u H2 F2 (Ex.trans e e2) r2⟩
    · exact hk.elim
end
section
variable {X : Cx} {W : WX} {k : Nat} {g : Addr} {b : LamB} {kn : List Str} {m : Env → R (BV × Env)} {p lpos pos : Pos}
theorem sx_why (Gv : Gives X.prog X.w X.K X.mg X.base k 2 g (TWhy X.K)) (N : WhyK X.K X.mg kn) (hr : Room (k + 2) X.A) (hg : Gl X "_law_why") (hm : X.mg "_law_why" = some (.ref g)) (hk : PySem.W.keepIn X.K (.ref g) = true)
    (M : Mkr X) (hq : X.env.qual ++ "<lambda>" = b.qual) (L : LamS X.env.scope b.scope) (hdef : defaultsOf b.params X.env = ([], [])) (hbind : ∀ (q : Str) (cl : Cells) (pm cv ctv : Value), bindArgs (PySem.W.kla_fn "<lambda>" q b.params b.body b.scope cl pm cv ctv) ⟨[], []⟩ = pure [])
    (hbody : ∀ (A : Around) (outer : List PySem.Env) (s : Shared) (H : Hp) (E : XK) (f c : Addr), Room k (A.deeper (lamEnv X b.scope s.heap.objs.size f c)) → SX (lamCx X A outer s H E b.scope f c) (WE E) b.body m) :
    SX X W (.Call (.Name "_law_why" p) [.Lambda b.params b.body b.scope lpos] [] pos) (mWhy kn m) := by
  refine ⟨_, pe_giv (tb := fun E => tmX X.K X.mg (WE E) m) Gv hr hg hm hk M hq L hdef hbind (fun A outer s H E f c hr' => (hbody A outer s H E f c hr').can) (by decide), fun a0 G Γ σ H F Q r h => ⟨r.wd.tb.t, fun f c H1 e T1 h0 h1 h2 => ?_⟩⟩
  obtain ⟨F1, eF, r1, _, _⟩ := r.lam e T1 h0 h1 h2
  refine sdX_pair N r1 (okG_mono eF (okG_bind h fun p _ hp => hp) fun p _ hp v u H' F' e' r' hv hu q hq => ?_)
  obtain ⟨e2, r2⟩ := r'.newF (o := .tup [v, u]) hq
  exact hp (.ref q) _ _ (Ex.trans eF (Ex.trans e' e2)) r2 (.tup (.inl (.inl upd_same)) (.cons (hv.mono e2) (.cons (hu.mono e2) .nil)))
theorem sx_why' {params : Arguments} {body : Expr} {scope : Scope} (Gv : Gives X.prog X.w X.K X.mg X.base k 2 g (TWhy X.K)) (N : WhyK X.K X.mg kn) (hr : Room (k + 2) X.A) (hg : Gl X "_law_why") (hm : X.mg "_law_why" = some (.ref g)) (hk : PySem.W.keepIn X.K (.ref g) = true)
    (M : Mkr X) (L : LamS X.env.scope scope) (hbody : ∀ (A : Around) (outer : List PySem.Env) (s : Shared) (H : Hp) (E : XK) (f c : Addr), Room k (A.deeper (lamEnv X scope s.heap.objs.size f c)) → SX (lamCx X A outer s H E scope f c) (WE E) body m)
    (hdef : defaultsOf params X.env = ([], []) := by rfl) (hbind : ∀ (q : Str) (cl : Cells) (pm cv ctv : Value), bindArgs (PySem.W.kla_fn "<lambda>" q params body scope cl pm cv ctv) ⟨[], []⟩ = pure [] := by intros; rfl) :
    SX X W (.Call (.Name "_law_why" p) [.Lambda params body scope lpos] [] pos) (mWhy kn m) := sx_why (b := ⟨params, body, scope, X.env.qual ++ "<lambda>"⟩) Gv N hr hg hm hk M rfl L hdef hbind hbody
end
end Rg
namespace Rg
open PySem PySem.Spec PyProof.Rows L2 LamX
def spIni0 (K : PySem.W.Frag) : Sp := fun vs H Q _ => ∃ (a C : Addr) (v : V), vs = [.ref a, v] ∧ OexC K C ∧ PySem.W.findIn K (.ref C) "word" = some none ∧ H a = some (exo a C none) ∧
  ∀ dx H', H dx = none → dx ≠ a → H' a = some (exo a C (some dx)) → H' dx = some (exd dx [("word", v)]) → (∀ b, b ≠ a → b ≠ dx → H' b = H b) → Q .non H'
def flds (ks : List Str) (vs : List V) (c : Str) : List (Str × V) := (ks.zip vs).reverse ++ [(("word" : Str), V.str c)]
def spIni (K : PySem.W.Frag) (C : Addr) (ks : List Str) (c : Str) : Sp := fun vs H Q _ => ∃ (a : Addr) (ws : List V), vs = .ref a :: ws ∧ ws.length = ks.length ∧ H a = some (exo a C none) ∧
  ∀ dx H', H dx = none → dx ≠ a → H' a = some (exo a C (some dx)) → H' dx = some (exd dx (flds ks ws c)) → (∀ b, b ≠ a → b ≠ dx → H' b = H b) → Q .non H'
def tBini (sp : Sp) (ta : TA) : TE := fun σ H Q => ta σ H fun vs H1 => sp vs H1 Q (fun _ _ _ => False)
theorem pe_bini {X : Cx} {CX : CXT} {B : Str} {CB f0 : Addr} {k : Nat} {fd : FuncData} {ps : List Str} {sp : Sp} {e : Expr} {es : List Expr} {ta : TA} {p1 p2 pos : Pos} {pl : Sem Bool} (cr : ClX.CRead X.K CB (.type "type")) (cv : ClX.CVal X.K CB (.type "type") "__init__" (.ref f0) (.ref f0)) (F0 : FnOk X.prog X.w X.K X.mg X.base CX k f0 fd ps sp)
    (hr : Room k X.A) (hb : Binds X.K fd ps []) (hk : PySem.W.keepIn X.K (.ref f0) = true) (hx : Passes CX X (fun _ _ _ => False)) (hg : Gl X B) (hm : X.mg B = some (.ref CB)) (ha : PA X (e :: es) ta)
    (hc : eval (.Call (.Attribute (.Name B p1) "__init__" p2) (e :: es) [] pos) X.env = (do
      let ov ← eval (.Name B p1) X.env
      standAt p2.atName
      let (f, first) ← holding [ov] (getMethod ov "__init__" pl)
      callWith pos f first (backTo pos (starEach (e :: es) X.env)) (backToKw pos (keywordEach [] X.env))) := by rfl)
    (hdb : (B == ("__debug__" : Str)) = false := by decide) (he : starEach (e :: es) X.env = (false, eval e X.env) :: starEach es X.env := by rfl) (hpl : (backTo pos (starEach es X.env)).any (·.1) = false := by rfl) :
    PE X (.Call (.Attribute (.Name B p1) "__init__" p2) (e :: es) [] pos) (tBini sp ta) := by
  constructor
  intro pins s σ H Q I h
  refine PySem.W.methodCall_KW (ld_glob I hg hm ?_ hdb) hc
  refine PySem.W.method_cls I.kIn cr.ga (ClX.getcval_ok I cr cv fun s1 I1 => ?_)
  refine PySem.W.callWith_K (h₀ := X.base) (first := []) I.ok.mod.kin hk (thn (ha.run pos pins s1 σ H _ I1 h) fun us s2 ⟨vs, H2, I2, r, q⟩ => ⟨I2.kIn, ?_⟩) he hpl
  exact run_fn (dvs := []) (ds := []) F0 hr hb .nil hx I2 r (by rw [List.append_nil]; exact q)
section
variable {P : Program} {w : World} {K : PySem.W.Frag} {mg : Str → Option Value} {base : Heap} {q c k1 k2 : Str} {params : Arguments} {body : List Stmt} {scope : Scope} {dvs : List V} {kws : List (Str × V)} {f C : Addr} {fd : FuncData} {n : Nat}
theorem ini0_ok (F : FunD K "__init__" q params body scope dvs kws f fd) (S : FnScope ["self", "word"] ["self", "word"] scope)
    (hb : ∀ (cdv : Value) (A : Around) (outer : List PySem.Env) (s : Shared) (H : Hp) (E : XK), PSs (cxOf (L2.CX P w) P w K mg base ["self", "word"] q scope f cdv A outer s H E) body (tOst K "word" (tVar 0) (tVar 1))) : FnOk P w K mg base (L2.CX P w) 1 f fd ["self", "word"] (spIni0 K) := by
  refine F.ok S (fun vs H Q E h => ?_) (fun cdv A outer s H vs Q E hr h => ⟨_, hb cdv A outer s H E, ?_⟩)
  · obtain ⟨a, C, v, rfl, _⟩ := h; rfl
  · obtain ⟨a, C, v, rfl, T, hn, ha, hq⟩ := h
    refine ⟨v, rfl, .ref a, rfl, a, C, rfl, T, hn, .inl ⟨ha, fun dx hd hne => ?_⟩⟩
    refine hq dx _ hd hne upd_same (by rw [upd_ne hne, upd_same]) fun b h1 h2 => by rw [upd_ne h1, upd_ne h2]
structure Sub (K : PySem.W.Frag) (C : Addr) (ks : List Str) : Prop where
  x : OexC K C
  w : PySem.W.findIn K (.ref C) "word" = some none
  n : ∀ k ∈ ks, PySem.W.findIn K (.ref C) k = some none
theorem ini_ok1 (F : FunD K "__init__" q params body scope [] [] f fd) (S : FnScope ["self", k1] ["self", k1] scope) (T : Sub K C [k1])
    (hb : ∀ (cdv : Value) (A : Around) (outer : List PySem.Env) (s : Shared) (H : Hp) (E : XK), Room n (A.deeper (envOfC q scope s.heap.objs.size f cdv)) → PSs (cxOf (L2.CX P w) P w K mg base ["self", k1] q scope f cdv A outer s H E) body (tSeq (tDrop (tBini (spIni0 K) (tCons (tVar 0) (tCons (tC (.str c)) tNil)))) (tOst K k1 (tVar 0) (tVar 1)))) :
    FnOk P w K mg base (L2.CX P w) (n + 1) f fd ["self", k1] (spIni K C [k1] c) := by
  refine F.ok S (fun vs H Q E h => ?_) (fun cdv A outer s H vs Q E hr h => ⟨_, hb cdv A outer s H E hr, ?_⟩)
  · obtain ⟨a, ws, rfl, hl, _⟩ := h; rw [List.length_cons, hl]; rfl
  · obtain ⟨a, ws, rfl, hl, ha, hq⟩ := h
    match ws, hl with
    | [v], _ =>
      refine ⟨.ref a, rfl, a, C, .str c, rfl, T.x, T.w, ha, fun dx H' h1 h2 h3 h4 h5 => ?_⟩
      refine ⟨v, rfl, .ref a, rfl, a, C, rfl, T.x, T.n k1 (List.mem_cons_self ..), .inr ⟨dx, _, h3, h4, by simp, ?_⟩⟩
      exact hq dx _ h1 h2 (by rw [upd_ne h2.symm]; exact h3) upd_same fun b n1 n2 => by rw [upd_ne n2]; exact h5 b n1 n2
end
section
variable {K : PySem.W.Frag} {F G H : Hp}
theorem FsA.append : ∀ {gs gs2 : List (Str × V)} {fs fs2 : List (Str × D)}, FsA K F gs fs → FsA K F gs2 fs2 → FsA K F (gs ++ gs2) (fs ++ fs2)
  | _, _, _, _, .nil, h => h
  | _, _, _, _, .cons h a, b => .cons h (FsA.append a b)
theorem FsA.reverse : ∀ {gs : List (Str × V)} {fs : List (Str × D)}, FsA K F gs fs → FsA K F gs.reverse fs.reverse
  | _, _, .nil => .nil
  | _, _, .cons h a => by simp only [List.reverse_cons]; exact (FsA.reverse a).append (.cons h .nil)
theorem FsA.zip : ∀ {ks : List Str} {vs : List V} {ds : List D}, RpA K F vs ds → FsA K F (ks.zip vs) (ks.zip ds)
  | [], _, _, _ => .nil
  | _ :: _, _, _, .nil => .nil
  | _ :: ks, _, _, .cons h a => .cons h (FsA.zip a)
theorem Wd.up {H' : Hp} (w : Wd K F G H) (e : Ex H H') : Wd K F G H' := ⟨Ex.trans w.f e, Ex.trans w.g e, w.d, w.tb.toF (fun b o q _ => e b o q) w.tb.ng⟩
theorem ex_made {a d C : Addr} {H' : Hp} {u : HO} (ha : H a = none) (hd : H d = none) (h : ∀ b, b ≠ a → b ≠ d → H' b = upd H a (exo a C none) b) : Ex H (upd (del H' a) d u) := fun b o q => by
  have n1 : b ≠ a := fun z => by rw [z, ha] at q; cases q
  have n2 : b ≠ d := fun z => by rw [z, hd] at q; cases q
  rw [upd_ne n2, del_ne n1, h b n1 n2, upd_ne n1]; exact q
end
structure XcOk (P : Program) (w : World) (K : PySem.W.Frag) (mg : Str → Option Value) (base : Heap) (k : Nat) (c : Str) (ks : List Str) : Prop where
  ex : ∃ (C fI : Addr) (fd : FuncData), mg c = some (.ref C) ∧ OexC K C ∧ PySem.W.findIn K (.ref C) "__init__" = some (some (.ref fI)) ∧ PySem.W.typeIn K (.ref fI) = some (.type "function") ∧ FnOk P w K mg base (L2.CX P w) k fI fd ("self" :: ks) (spIni K C ks c) ∧ Binds K fd ("self" :: ks) []
section
variable {X : Cx} {W : WX} {k : Nat} {c : Str} {ks : List Str} {e : Expr} {es : List Expr} {mas : Env → R (List BV × Env)} {p pos pos' : Pos}
theorem passesF (tk : Takes X W) : Passes (L2.CX X.prog X.w) X (fun _ _ _ => False) := passes_call tk fun _ _ _ _ z => z.elim
theorem ss_raise (hc : X.calm = true) (tk : Takes X W) (T : XcOk X.prog X.w X.K X.mg X.base k c ks) (hr : Room (k + 1) X.A) (hg : Gl X c) (ha : SA X W (e :: es) mas) (hks : ks.length ≤ 1000 := by decide) (hdb : (c == ("__debug__" : Str)) = false := by decide)
    (he : starEach (e :: es) X.env = (false, eval e X.env) :: starEach es X.env := by rfl) (hpl : (backTo pos' (starEach es X.env)).any (·.1) = false := by rfl) :
    SS X W (.Raise (some (.Call (.Name c p) (e :: es) [] pos')) none pos) (mRaise c ks mas) := by
  obtain ⟨C, fI, fd, hm, T, h1, h2, h3, h4⟩ := T.ex
  obtain ⟨t, pt, st⟩ := ha
  refine ⟨_, ps_raise hc tk (pmk_oex (dvs := []) (ds := []) T h1 h2 h3 hr h4 .nil (passesF tk) hg hm pt hdb he hpl), fun a0 G Γ σ H F E r h => ?_⟩
  refine sdA_fz st r (okG_bind h fun y _ hy vs H1 F1 e1 r1 hv => ?_)
  split at hy
  · rename_i hl
    refine ⟨by rw [hv.length, hl]; exact hks, fun a ha => ⟨a, vs, by rw [List.append_nil], by rw [hv.length, hl], upd_same, fun dx H' q1 q2 q3 q4 q5 => ?_⟩⟩
    rw [upd_ne q2] at q1
    refine ⟨rfl, dx, _, q3, q4, q1, ?_⟩
    exact hy C dx σ _ F1 e1 ⟨r1.wd.up (ex_made ha q1 q5), hm, _, upd_same, (FsA.zip hv).reverse.append (.cons (.str c) .nil)⟩
  · exact hy.elim
end
end Rg
namespace Rg
open PySem PySem.Spec PyProof.Rows L2 LamX
theorem oexB_ok {K : PySem.W.Frag} {C : Addr} (h : oexB K C = true) : OexC K C := by
  obtain ⟨h1, h⟩ := He.ba h
  obtain ⟨h2, h⟩ := He.ba h
  obtain ⟨h3, h⟩ := He.ba h
  obtain ⟨h4, h5⟩ := He.ba h
  refine ⟨?_, He.eqO_ok h2, of_decide_eq_true h3, of_decide_eq_true h4, h5⟩
  split at h1
  · rename_i t dd cd sl lk
    obtain ⟨y1, y2⟩ := He.ba h1
    have y1 := of_decide_eq_true y1
    subst y1
    split at y2
    · rename_i C' bm k0 k1 k2 k3 n k5 e1 e2
      obtain ⟨z1, z⟩ := He.ba y2
      obtain ⟨z2, z⟩ := He.ba z
      obtain ⟨z3, z⟩ := He.ba z
      obtain ⟨z4, z5⟩ := He.ba z
      have z1 := of_decide_eq_true z1
      have z2 := of_decide_eq_true z2
      subst z1
      subst z2
      obtain ⟨nm, bs, mro, N, q, hdct, sn, sub, ab, col, del⟩ := cd
      dsimp only at e1 z3 z4
      have z3 : del = false := by simpa using z3
      subst e1
      subst z3
      subst z4
      have esl : sl = #[k0, k1, k2, k3, some (.builtin "ValueError.__new__"), k5] := Array.toList_inj.mp e2
      subst esl
      exact ⟨nm, q, N, bs, bm, sn, sub, ab, col, dd, k0, k1, k2, k3, k5, lk, z5⟩
    · cases y2
  · cases h1
theorem subB_ok {K : PySem.W.Frag} {c : Str} {ks : List Str} (h : subB K c ks = true) : Sub K (He.ga K c) ks := by
  obtain ⟨h1, h⟩ := He.ba h
  obtain ⟨h2, h3⟩ := He.ba h
  exact ⟨oexB_ok h1, He.eqO_ok h2, fun k hk => He.eqO_ok (List.all_eq_true.mp h3 k hk)⟩
theorem iniB_ok {K : PySem.W.Frag} {c : Str} (h : iniB K c = true) : PySem.W.findIn K (.ref (He.ga K c)) "__init__" = some (some (.ref (He.ma K (He.ga K c) "__init__"))) ∧ PySem.W.typeIn K (.ref (He.ma K (He.ga K c) "__init__")) = some (.type "function") :=
  ⟨He.eqO_ok (He.ba h).1, of_decide_eq_true (He.ba h).2⟩
theorem bseB_ok {K : PySem.W.Frag} {B : Str} (h : bseB K B = true) : ClX.CRead K (He.ga K B) (.type "type") ∧ ClX.CVal K (He.ga K B) (.type "type") "__init__" (.ref (He.ma K (He.ga K B) "__init__")) (.ref (He.ma K (He.ga K B) "__init__")) := by
  obtain ⟨h1, h⟩ := He.ba h
  obtain ⟨h2, h3⟩ := He.ba h
  refine ⟨⟨h1, He.eqO_ok h2⟩, ⟨?_, rfl⟩⟩
  split at h3
  · rename_i a e
    rw [e, of_decide_eq_true h3]
  · cases h3
theorem whyIx_le (c : Str) : whyIx c ≤ 7 := by
  unfold whyIx
  repeat' split
  all_goals decide
theorem whyB_ok {K : PySem.W.Frag} {mg : Str → Option Value} {kn : List Str} (hg : ∀ c ∈ kn, mg c = some (.ref (He.ga K c))) (h : (kn.all fun c => whyB K c) = true) : WhyK K mg kn := by
  have key : ∀ c ∈ kn, WhyF K (He.ga K c) (whyIx c) ∧ ∀ x ∈ (["part", "tall", "at", "row", "kind", "by", "name"] : List Str), PySem.W.findIn K (.ref (He.ga K c)) x = some none := fun c hc => by
    obtain ⟨h1, h⟩ := He.ba (List.all_eq_true.mp h c hc)
    obtain ⟨h2, h⟩ := He.ba h
    obtain ⟨h3, h4⟩ := He.ba h
    have le := whyIx_le c
    have at_ : ∀ i ns, i ≤ whyIx c → whyNs[i]? = some ns → PySem.W.exmAny K (.ref (He.ga K c)) (whyCs K ns) = some (decide (i = whyIx c)) := fun i ns hi e => by
      have := List.all_eq_true.mp h1 i (List.mem_range.mpr (by omega))
      rw [decide_eq_false (by omega), Bool.false_or, e] at this
      exact of_decide_eq_true this
    refine ⟨⟨fun i ns hi e => ?_, fun ns e => ?_, xfB_ok h2, He.eqO_ok h3⟩, fun x hx => He.eqO_ok (List.all_eq_true.mp h4 x hx)⟩
    · rw [at_ i ns (Nat.le_of_lt hi) e, decide_eq_false (by omega)]
    · rw [at_ _ ns (Nat.le_refl _) e, decide_eq_true rfl]
  exact ⟨hg, fun c hc => (key c hc).1, fun c hc => (key c hc).2⟩
theorem tabsUn_ok {K : PySem.W.Frag} (h : tabsUn K = true) : ∀ p ∈ tabsOf K, ∀ q ∈ tabsOf K, p.1 = q.1 → p.2 = q.2 := fun p hp q hq e => by
  have := List.all_eq_true.mp (List.all_eq_true.mp h p hp) q hq
  rw [decide_eq_false (by simpa using e), Bool.false_or] at this
  exact of_decide_eq_true this
theorem tabs_start {tf : List He.Defn} {K : PySem.W.Frag} {H : Hp} (h : tabsIn tf K = true) (hH : ∀ p ∈ tf.map (He.cT K), H p.2 = some (.tbl #[])) : Tabs (tabsOf K) H := fun t ht => by
  obtain ⟨p, hp, e⟩ := List.any_eq_true.mp (List.all_eq_true.mp h t ht)
  have e := of_decide_eq_true e
  have := hH _ (List.mem_map.mpr ⟨p, hp, rfl⟩)
  rw [e] at this
  exact TabS.nil this
theorem mkr_of {P : Program} {w : World} {K : PySem.W.Frag} {mg : Str → Option Value} {base : Heap} {N : List Str} {qual : Str} {scope : Scope} {p : He.Defn} {oc : Value} {od : Option Addr} {osl : Array (Option Value)} {fd : FuncData} {f : Addr} {cdv : Value} {A : Around} {outer : List PySem.Env} {s : Shared} {H : Hp} {E : XK}
    (lk : K.lookup (He.fAd K p) = some ⟨oc, od, .func fd, osl⟩) (hc : fd.code = cdv) (hq : fd.qualname = qual) (hcd : PySem.W.codeIn K cdv qual = true) (tb : TabB base mg (He.cT K p).1 (He.cT K p).2) (hm : makers.contains qual = true) (un : tabsUn K = true) :
    Mkr (cxOf (L2.CX P w) P w K mg base N qual scope f cdv A outer s H E) := by
  obtain ⟨c, rfl⟩ := He.codeIn_ref hcd
  have e := He.codeOf_eq lk hc
  refine ⟨⟨c, He.tabOf K c, rfl, ?_, ?_⟩, tabsUn_ok un⟩
  · unfold He.cT at tb
    rw [e] at tb
    exact tb
  · refine List.mem_filterMap.mpr ⟨_, He.lookup_mem lk, ?_⟩
    dsimp only
    rw [hq, if_pos hm, hc]
    rfl
def spLawT (K : PySem.W.Frag) : Sp := fun vs H Q E => ∃ (a : Addr) (ns : List Int), vs = [.ref a] ∧ SqL K H a (ns.map V.int) ∧ Tabs (tabsOf K) H ∧ ns.length ≤ 63 ∧ ∀ H', Q (.bl true) H'
def noTab (H : Hp) : Hp := fun b => match H b with
  | some o => if nfO o = true then some o else none
  | none => none
theorem noTab_of {H : Hp} {b : Addr} {o : HO} (q : H b = some o) (n : nfO o = true) : noTab H b = some o := by
  unfold noTab
  rw [q]
  exact if_pos n
theorem noTab_to {H : Hp} {b : Addr} {o : HO} (q : noTab H b = some o) : H b = some o ∧ nfO o = true := by
  unfold noTab at q
  cases e : H b with
  | none => rw [e] at q; cases q
  | some u =>
    rw [e] at q
    by_cases n : nfO u = true
    · simp [n] at q; subst q; exact ⟨rfl, n⟩
    · simp [n] at q
theorem spLawT_imp {K : PySem.W.Frag} {mg : Str → Option Value} {M : List D → R Nw} (hM : ∀ ns, ns.length ≤ 63 → M [.scr ns] = .ok (.v (.bl true))) (vs : List V) (H : Hp) (Q : VK) (E : XK) (h : spLawT K vs H Q E) : spP K mg 1 M vs H Q E := by
  obtain ⟨a, ns, rfl, hS, hT, hl, hq⟩ := h
  refine ⟨noTab H, fun _ => none, [.scr ns], ⟨fun b o q => (noTab_to q).1, (fun _ _ h => (Option.some_ne_none _ h.symm).elim), (fun _ => Or.inr rfl), ⟨hT, fun b ps q => nfO_nb (noTab_to q).2 ps rfl, fun b o q => (by cases q), fun b o q t => (by rw [nfO_nt (noTab_to q).2] at t; cases t), fun a b r h1 h2 => (by
    obtain ⟨C, dx, p, r1, r2, h1, _⟩ := h1
    cases (noTab_to h1).2)⟩⟩, .cons (.scr ns ?_) .nil, rfl, ?_⟩
  · rcases hS with (h | ⟨o, h⟩) | h
    · exact .inl (.inl (noTab_of h rfl))
    · exact .inl (.inr ⟨o, noTab_of h rfl⟩)
    · exact .inr h
  · rw [hM ns hl]
    intro v H' F' _ _ hv
    cases hv
    exact hq H'
theorem fn_PM {P : Program} {w : World} {K : PySem.W.Frag} {mg : Str → Option Value} {base : Heap} {x qual : Str} {params : Arguments} {body : List Stmt} {scope : Scope} {dvs : List V} {kws : List (Str × V)} {p : He.Defn} {fd : FuncData} {N ps : List Str} {k n j : Nat} {m : Env → R Fl}
    (F : FunD K x qual params body scope dvs kws (He.fAd K p) fd) (S : FnScope N ps scope) (hp : ps.length = n) (hN : N.length = n + j) (tb : TabB base mg (He.cT K p).1 (He.cT K p).2) (un : tabsUn K = true) (hm : makers.contains qual = true)
    (hb : ∀ (cdv : Value) (A : Around) (outer : List PySem.Env) (s : Shared) (H : Hp) (E : XK), Room k (A.deeper (PyProof.Rows.envOfC qual scope s.heap.objs.size (He.fAd K p) cdv)) → Takes (cxOf (L2.CX P w) P w K mg base N qual scope (He.fAd K p) cdv A outer s H E) (WE E) → Mkr (cxOf (L2.CX P w) P w K mg base N qual scope (He.fAd K p) cdv A outer s H E) →
      SSs (cxOf (L2.CX P w) P w K mg base N qual scope (He.fAd K p) cdv A outer s H E) (WE E) body m) : FnOk P w K mg base (L2.CX P w) (k + 1) (He.fAd K p) fd ps (spP K mg n (fin n m j)) := by
  obtain ⟨oc, od, dV, kV, doc, pm, an, cdv, ct, osl, rfl, lk, hcd, _, _⟩ := F.ex
  refine fn_of lk hcd S (fun vs H Q E h => ?_) fun A outer s H vs Q E hr h => ?_
  · obtain ⟨F, G, ds, _, hv, hn, _⟩ := h
    rw [hv.length, hn, hp]
  · exact body_P rfl rfl hN (hb cdv A outer s H E hr (takes_of rfl rfl rfl rfl) (mkr_of lk rfl rfl hcd tb hm un)) h
theorem fn_ID {P : Program} {w : World} {K : PySem.W.Frag} {mg : Str → Option Value} {base : Heap} {x qual : Str} {params : Arguments} {body : List Stmt} {scope : Scope} {dvs : List V} {kws : List (Str × V)} {f : Addr} {fd : FuncData} {N ps : List Str} {k n j : Nat} {m : Env → R Fl}
    (F : FunD K x qual params body scope dvs kws f fd) (S : FnScope N ps scope) (hp : ps.length = n + 1) (hN : N.length = n + 1 + j)
    (hb : ∀ (cdv : Value) (A : Around) (outer : List PySem.Env) (s : Shared) (H : Hp) (E : XK), Room k (A.deeper (PyProof.Rows.envOfC qual scope s.heap.objs.size f cdv)) → Takes (cxOf (L2.CX P w) P w K mg base N qual scope f cdv A outer s H E) (WE E) →
      SSs (cxOf (L2.CX P w) P w K mg base N qual scope f cdv A outer s H E) (WE E) body m) : FnOk P w K mg base (L2.CX P w) (k + 1) f fd ps (spI K mg n (finI n m j)) := by
  refine F.ok S (fun vs H Q E h => ?_) (fun cdv A outer s H vs Q E hr h => ?_)
  · obtain ⟨F, G, p, ws, xs, vs', ds, rfl, _, _, _, _, _, hv, hn, _⟩ := h
    rw [List.length_cons, hv.length, hn, hp]
  · exact body_I rfl rfl hN (hb cdv A outer s H E hr (takes_of rfl rfl rfl rfl)) h
theorem xc_of {P : Program} {w : World} {K : PySem.W.Frag} {mg : Str → Option Value} {base : Heap} {k : Nat} {c : Str} {ks : List Str} {fd : FuncData} (hg : mg c = some (.ref (He.ga K c))) (T : Sub K (He.ga K c) ks) (hi : iniB K c = true) (F : FnOk P w K mg base (L2.CX P w) k (He.ma K (He.ga K c) "__init__") fd ("self" :: ks) (spIni K (He.ga K c) ks c)) (hb : Binds K fd ("self" :: ks) []) : XcOk P w K mg base k c ks :=
  ⟨_, _, fd, hg, T.x, (iniB_ok hi).1, (iniB_ok hi).2, F, hb⟩
theorem law_CX' {P : Program} {w : World} {H : Hp} {s : Shared} {e : Value} {s' : Shared} (h : L2.CX P w [] H s (fun _ _ _ => False) e s') : False := by
  obtain ⟨a, B, H', cls, d, _, _, _, _, _, _, _, hE⟩ := h
  exact hE
end Rg
namespace Rg
open PySem PySem.Spec PyProof.Rows L2
theorem iniBinds {K : PySem.W.Frag} {x qual : Str} {params : Arguments} {body : List Stmt} {scope : Scope} {v : V} {kws : List (Str × V)} {f : Addr} {fd : FuncData} (F : FunD K x qual params body scope [v] kws f fd)
    (h : ∀ (T : Addr) (kV doc pm : Value) (an : Option Addr) (cdv ct u1 u2 i : Value), ∃ k, bindArgs (PySem.W.fnOf x qual params body scope (.ref T) kV doc pm an cdv ct) ⟨[u1, u2], []⟩ = seqItems? (.ref T) >>= k ∧ k (some #[i]) = pure ([("self", u1), ("word", u2)] : List (Str × Value))) : Binds K fd ["self", "word"] [] := by
  obtain ⟨ds, hv, hb⟩ := F.binds1 (ps := ["self", "word"]) 2 1 (by simp) (by simp) fun T kV doc pm an cdv ct us its l1 l2 => match us, l1, its, l2 with
    | [u1, u2], _, [i], _ => h T kV doc pm an cdv ct u1 u2 i
  have hv : Vals [] ds := hv
  cases hv
  exact hb
theorem kwBinds {K : PySem.W.Frag} {x qual : Str} {params : Arguments} {body : List Stmt} {scope : Scope} {kws : List (Str × V)} {f : Addr} {fd : FuncData} {ps ks : List Str} {n : Nat} (F : FunD K x qual params body scope [] kws f fd)
    (h : ∀ (kV doc pm : Value) (an : Option Addr) (cdv ct : Value) (us ws : List Value), us.length = n → ws.length = ks.length → bindArgs (PySem.W.fnOf x qual params body scope .none kV doc pm an cdv ct) ⟨us, ks.zip ws⟩ = pure (ps.zip (us ++ ws))) : KBn K fd ps n ks (fun us ws => us ++ ws) (fun us ws => us ++ ws) := by
  obtain ⟨oc, od, dV, kV, doc, pm, an, cdv, ct, osl, rfl, lk, hcd, hD, hK⟩ := F.ex
  rcases hD with ⟨_, rfl⟩ | ⟨e, _⟩
  · exact ⟨fun s us ws X l1 l2 => .of_eq (h kV doc pm an cdv ct us ws l1 l2), fun r1 r2 => r1.append r2⟩
  · exact absurd rfl e
end Rg
namespace Rg
open PySem PySem.Spec PyProof.Rows L2
theorem fsc {N P : List Str} {sc : Scope} (h : sc.kind = .function ∧ sc.isCoroutine = false ∧ sc.isGenerator = false ∧ N.Nodup ∧ N.take P.length = P ∧ (∀ x ∈ P, sc.names.lookup x = some .local ∨ sc.names.lookup x = some .cell) ∧ ∀ y ∈ sc.names, y.2 ≠ .free := by decide +kernel) : FnScope N P sc :=
  ⟨h.1, h.2.1, h.2.2.1, h.2.2.2.1, h.2.2.2.2.1, h.2.2.2.2.2.1, h.2.2.2.2.2.2⟩
def AllU : Nat → (List Value → Prop) → Prop
  | 0, P => P []
  | n + 1, P => ∀ u, AllU n fun us => P (u :: us)
theorem allU_at : ∀ {n : Nat} {P : List Value → Prop}, AllU n P → ∀ us, us.length = n → P us
  | 0, _, h, us, e => by rw [List.eq_nil_of_length_eq_zero e]; exact h
  | n + 1, P, h, u :: us, e => allU_at (P := fun us => P (u :: us)) (h u) us (by simpa using e)
theorem sfx {fn : List He.DefD} {tf : List He.Defn} {ex : PySem.W.Frag → Bool} {h : Heap} {K : PySem.W.Frag} (c : SaysY fn tf ex h K) (i : Nat) {a : Str × Option Str} {n q : Str} {s : Stmt} {ps : List Str} (e : fn[i]? = some (dzM a n q s))
    (hb : ∀ (kV doc pm : Value) (an : Option Addr) (cdv ct : Value), AllU ps.length fun us => bindArgs (PySem.W.fnOf n q (defArgs s) (defBody s) (defScope s) .none kV doc pm an cdv ct) ⟨us, []⟩ = pure (ps.zip us) := by first | exact fun _ _ _ _ _ _ _ => rfl | exact fun _ _ _ _ _ _ _ _ => rfl | exact fun _ _ _ _ _ _ _ _ _ => rfl | exact fun _ _ _ _ _ _ _ _ _ _ => rfl | exact fun _ _ _ _ _ _ => rfl | exact fun _ _ _ _ _ _ _ _ _ _ _ => rfl | exact fun _ _ _ _ _ _ _ _ _ _ _ _ => rfl) :
    ∃ fd, FunD K n q (defArgs s) (defBody s) (defScope s) [] [] (He.fAd K a) fd ∧ Binds K fd ps [] := by
  obtain ⟨fd, F⟩ := c.d _ (List.mem_of_getElem? e)
  replace F : FunD K n q (defArgs s) (defBody s) (defScope s) [] [] (He.fAd K a) fd := F
  exact ⟨fd, F, F.bindsN fun kV doc pm an cdv ct us hl => allU_at (hb kV doc pm an cdv ct) us hl⟩
end Rg
namespace Rg
open PySem PySem.Spec PyProof.Rows L2 LamX
section
variable (K : PySem.W.Frag) (mg : Str → Option Value)
end
section
variable {K : PySem.W.Frag} {mg : Str → Option Value} {a0 : Addr} {G F F1 H : Hp} {Γ : Env} {σ : L2.St}
end
section
variable {X : Cx} {E : XK} {e : Expr} {es : List Expr} {pos : Pos} {mas mks : Env → R (List BV × Env)} {k n : Nat} {f : Addr} {fd : FuncData} {ps : List Str} {x : Str} {p : Pos}
end
section
variable {K : PySem.W.Frag} {mg : Str → Option Value} {a0 : Addr} {G F H : Hp} {Γ : Env} {σ : L2.St} {W : WX}
end
section
variable {X : Cx} {W : WX} {k : Nat} {g : Addr} {kn : List Str} {m : Env → RS2} {p lpos pos : Pos}
end
end Rg
namespace Rg
open PySem PySem.Spec PyProof.Rows L2 LamX
section
variable {X : Cx} {W : WX} {e : Expr} {pos : Pos}
end
def PD (K : PySem.W.Frag) (a0 : Addr) (G F : Hp) (σ : L2.St) (Q : VK) : (Mk × List D) × Env → Prop := fun y => ∀ p o vs H' F', Ex F F' → G p = none → Rel K a0 (upd G p o) y.2 σ H' F' → y.1.1.Is K F' o vs → y.1.1.n = vs.length → RpA K F' vs y.1.2 → Q (.ref p) H'
def SdD (K : PySem.W.Frag) (mg : Str → Option Value) (W : WX) (t : TE) (m : Env → R ((Mk × List D) × Env)) : Prop :=
  ∀ a0 G Γ σ H F Q, Rel K a0 G Γ σ H F → OkG K mg G F W (PD K a0 G F σ Q) (m Γ) → t σ H Q
def SD (X : Cx) (W : WX) (e : Expr) (m : Env → R ((Mk × List D) × Env)) : Prop := ∃ t, PE X e t ∧ SdD X.K X.mg W t m
def mPin (m : Env → R ((Mk × List D) × Env)) : Env → R (BV × Env) := fun Γ => (m Γ).bind fun y => .ok (.v (y.1.1.d y.1.2), y.2)
section
variable {X : Cx} {W : WX} {e : Expr} {pos pos' : Pos} {m : Env → R ((Mk × List D) × Env)}
theorem sx_pin (h : SD X W e m) : SX X W e (mPin m) := by
  obtain ⟨t, p, s⟩ := h
  refine ⟨fun σ H Q => t σ H fun v H1 => ∃ d u, v = .ref d ∧ H1 d = some u ∧ Mut (some u) ∧ ∀ od, Q (.ref d) (upd H1 d (.frz od u)), ⟨fun pins st σ H Q I h => ?_⟩, fun a0 G Γ σ H F Q r h => ?_⟩
  · refine thn (p.run pins st σ H _ I h) fun u s1 ⟨v, H1, I1, rv, d, o, h1, h2, h3, h4⟩ => ?_
    obtain ⟨od, I2⟩ := I1.lock h2 h3
    subst h1
    exact ⟨.ref d, _, I2, rv, h4 od⟩
  · refine s a0 G Γ σ H F _ r (okG_bind h fun y _ hy p o vs H1 F1 e1 hG r1 hi hn ha => ?_)
    refine ⟨p, _, rfl, r1.wd.g _ _ upd_same, hi.mut, fun od => ?_⟩
    obtain ⟨e2, r2⟩ := r1.pinT (o' := .frz od o) hG rfl
    exact hy (.ref p) _ _ (Ex.trans e1 e2) r2 (Mk.rp upd_same (hi.mono e2) hn (ha.mono e2))
end
theorem keyOf_kV {K : PySem.W.Frag} {F : Hp} {v : V} {d : D} {k : Key} (h : Rp K F v d) (e : keyOf d = some k) : v = kV k := by
  cases h <;> simp only [keyOf] at e <;> cases e <;> rfl
section
variable {κ : Type} [DecidableEq κ]
theorem val_at : ∀ (ks : List κ) (vs : List V) (q : κ), valV (ks.zip vs) q = atK ks vs q
  | [], _, _ => rfl
  | _ :: _, [], _ => rfl
  | k :: ks, v :: vs, q => by
    have ih := val_at ks vs q
    unfold valV at *
    rw [List.zip_cons_cons, atK]
    by_cases h : k = q
    · simp [h]
    · rw [List.find?_cons_of_neg (by simpa using h), ih, if_neg h]
variable {K : PySem.W.Frag} {F : Hp}
theorem RpA.at : ∀ {vs : List V} {ds : List D} (ks : List κ) (q : κ), RpA K F vs ds → (∀ d, atK ks ds q = some d → ∃ v, atK ks vs q = some v ∧ Rp K F v d) ∧ (atK ks ds q = none → atK ks vs q = none)
  | _, _, [], q, _ => ⟨fun _ h => (by cases h), fun _ => rfl⟩
  | _, _, k :: ks, q, .nil => ⟨fun _ h => (by cases h), fun _ => rfl⟩
  | _, _, k :: ks, q, .cons (v := v) h a => by
    have ih := RpA.at ks q a
    simp only [atK]
    by_cases e : k = q
    · simp only [if_pos e]
      exact ⟨fun d hd => ⟨v, rfl, by cases hd; exact h⟩, fun z => by cases z⟩
    · simp only [if_neg e]
      exact ih
end
section
variable {X : Cx} {W : WX} {a b e tg : Expr} {pos pos' : Pos} {ma mb me : Env → R (BV × Env)} {m : Env → R ((Mk × List D) × Env)}
theorem Rh.dct {K : PySem.W.Frag} {F H : Hp} {v : V} {ks : List Key} {ds : List D} (e : Ex F H) (h : Rh K F H v (.dct ks ds)) : ∃ p o vs, v = .ref p ∧ H p = some (.frz o (.dK (ks.zip vs))) ∧ ks.length = vs.length ∧ RpA K F vs ds := by
  have h := h.rp (fun _ z => by cases z)
  cases h with
  | dct h1 h2 h3 => exact ⟨_, _, _, rfl, e _ _ h1, h2, h3⟩
theorem Rh.key {K : PySem.W.Frag} {F H : Hp} {v : V} {d : D} {q : Key} (h : Rh K F H v d) (e : keyOf d = some q) : v = kV q := by
  have h := h.rp (fun ds z => by subst z; simp [keyOf] at e)
  exact keyOf_kV h e
theorem sdS_setD {t : TE} {i : Nat} (s : SdD X.K X.mg W t m) : SdS X.K X.mg W (tAsg t (gName i)) (mSetD i m) := by
  intro a0 G Γ σ H F E r h
  refine s a0 G Γ σ H F _ r (okG_bind h fun y _ hy p o vs H1 F1 e1 hG r1 ho hn ha => ?_)
  split at hy
  · rename_i hi
    exact hy _ H1 F1 e1 (Rel.setS hi hG r1 ⟨vs, ho, hn, ha⟩)
  · exact hy.elim
theorem ss_setD (i : Nat) {x : Str} (hN : X.N.Nodup) (h : SD X W e m) (hi : X.N[i]? = some x := by rfl) (hx : Loc X.env.scope x := by first | exact Or.inl rfl | exact Or.inr rfl) (hs : swapsWith e (some (.Name x pos')) pos.line X.env = pure false := by rfl)
    (hf : X.fn x = true ∨ X.env.scope.names.lookup x = some .local := by first | exact .inl rfl | exact .inr rfl | assumption) : SS X W (.Assign [.Name x pos'] e pos) (mSetD i m) := by
  obtain ⟨t, p, s⟩ := h
  exact ⟨_, ps_set hN hi hx p hs hf, sdS_setD s⟩
theorem sx_dget (hu : X.A.units + 1 < cLine) (ha : SX X W a ma) (hb : SX X W b mb) (hs : NoSl b := by exact fun _ _ => rfl) : SX X W (.Subscript a b pos) (mB (two fDg) (mA1 ma (mA1 mb mA0))) := by
  obtain ⟨ta, pa, sa⟩ := ha
  obtain ⟨tb, pb, sb⟩ := hb
  refine ⟨_, pe_dget hu pa pb hs, sdX_op (f := getItem) (r := fun x y H Q => ∃ a v, x = .ref a ∧ DGet H a y (some v) ∧ Q v H) two_len (fun F H x y dx dy nw Q e hx hy hf hq => ?_) sa sb⟩
  simp only [two] at hf
  unfold fDg at hf
  split at hf
  · rename_i ks ds y' h0
    cases h0
    cases q : keyOf dy with
    | none => rw [q] at hf; cases hf
    | some k =>
      rw [q, Option.bind_some] at hf
      obtain ⟨p, o, vs, rfl, h1, h2, h3⟩ := Rh.dct e hx
      have hk := Rh.key hy q
      cases q2 : atK ks ds k with
      | none => rw [q2] at hf; cases hf
      | some d =>
        rw [q2] at hf
        cases hf
        obtain ⟨v, a1, a2⟩ := (RpA.at ks k h3).1 d q2
        exact ⟨p, v, rfl, .inl ⟨_, k, .inr ⟨o, h1⟩, hk, by rw [val_at, a1]⟩, hq.1 v a2⟩
  · cases hf
end
section
variable {K : PySem.W.Frag} {mg : Str → Option Value} {W : WX}
end
section
variable {X : Cx} {W : WX} {kx vx tg iter c : Expr} {scope : Scope} {own : List (Str × Nat)} {pos spos : Pos} {mi : Env → R (List D × Env)} {f : D → Env → Option Env} {ws : List Nat} {mt : Env → R (Bool × Env)} {mk mv : Env → R (BV × Env)}
end
end Rg
namespace Rg
open PySem PySem.Spec PyProof.Rows L2
section
variable {P : Program} {w : World} {A : Around} {E : Value → Shared → Prop} {s : Shared}
end
section
variable {X : Cx} {W : WX} {e : Expr} {me : Env → R (BV × Env)} {p p2 pos pos2 : Pos}
def inc (ns : List Int) : Prop := ns.Pairwise (· < ·)
end
end Rg
namespace Rg
open PySem PySem.Spec PyProof.Rows L2 PySem.W
section
variable {X : Cx} {pins : List (Addr × Obj)} {σ : L2.St} {H : Hp} {s : Shared}
end
section
variable {X : Cx}
end
end Rg
namespace Rg
open PySem PySem.Spec PyProof.Rows L2
def trV : V → Option Bool
  | .bl b => some b
  | .int i => some (i != 0)
  | _ => none
def trsV : List V → Option (List Bool)
  | [] => some []
  | v :: vs => (trV v).bind fun b => (trsV vs).map (b :: ·)
theorem trs_rp {K : PySem.W.Frag} {F : Hp} : ∀ {vs : List V} {ds : List D} {bs : List Bool}, RpA K F vs ds → trsD ds = some bs → trsV vs = some bs
  | _, _, bs, .nil, h => h
  | _, _, bs, .cons (v := v) (d := d) h1 h2, h => by
    simp only [trsD] at h
    cases hd : trD d with
    | none => rw [hd] at h; cases h
    | some b =>
      rw [hd] at h
      simp only [Option.bind_some] at h
      cases hs : trsD _ with
      | none => rw [hs] at h; cases h
      | some cs =>
        rw [hs] at h
        have e := trs_rp h2 hs
        have e1 : trV v = some b := by
          cases h1 <;> simp only [trD] at hd <;> first | (cases hd; rfl) | cases hd
        simp only [trsV, e1, e, Option.bind_some]
        exact h
theorem trs_get {vs : List V} {bs : List Bool} (h : trsV vs = some bs) : ∀ i x, vs[i]? = some x → trV x = some (bs.getD i false) := by
  induction vs generalizing bs with
  | nil => intro i x e; simp at e
  | cons v vs ih =>
    simp only [trsV] at h
    cases hd : trV v with
    | none => rw [hd] at h; cases h
    | some b =>
      rw [hd] at h
      simp only [Option.bind_some] at h
      cases hs : trsV vs with
      | none => rw [hs] at h; cases h
      | some cs =>
        rw [hs] at h
        cases h
        intro i x e
        cases i with
        | zero => simp at e; subst e; simpa using hd
        | succ i => simpa using ih hs i x (by simpa using e)
theorem trs_len {vs : List V} {bs : List Bool} (h : trsV vs = some bs) : bs.length = vs.length := by
  induction vs generalizing bs with
  | nil => cases h; rfl
  | cons v vs ih =>
    simp only [trsV] at h
    cases hd : trV v with
    | none => rw [hd] at h; cases h
    | some b =>
      rw [hd] at h
      simp only [Option.bind_some] at h
      cases hs : trsV vs with
      | none => rw [hs] at h; cases h
      | some cs => rw [hs] at h; cases h; simp [ih hs]
theorem truth_tr {prog : Program} {w : World} {A : Around} {vs : List V} {bs : List Bool} {its : List Value} (r : Vals vs its) (h : trsV vs = some bs) :
    TruthOf prog w A (fun i v => its.toArray[i]? = some v) (fun i => bs.getD i false) := fun i v s Q E hv hq => by
  have hv' : its[i]? = some v := by simpa using hv
  cases hx : vs[i]? with
  | none => rw [Vals.none_of r hx] at hv'; cases hv'
  | some x =>
    obtain ⟨u, hu, ru⟩ := Vals.get r hx
    rw [hv'] at hu
    cases hu
    have ht := trs_get h i x hx
    have hq' : Q (bs.getD i false) s := hq
    cases x <;> simp only [trV] at ht <;> try (cases ht; done)
    · simp only [L2.RelV] at ru
      subst ru
      injection ht with ht
      rw [← ht] at hq'
      exact wpAny_truthy_bool hq'
    · obtain ⟨t, rfl⟩ := ru
      injection ht with ht
      rw [← ht] at hq'
      exact truthy_int hq'
section
variable {X : Cx}
def rAnyT (K : PySem.W.Frag) : List V → Hp → VK → Prop := fun vs H Q => ∃ (a : Addr) (us : List V) (bs : List Bool), vs = [V.ref a] ∧ (SqL K H a us ∨ SqT K H a us) ∧ trsV us = some bs ∧ Q (.bl (bs.any id)) H
theorem iter_tupA {prog : Program} {w : World} {A : Around} {E : Value → Shared → Prop} {s : Shared} {l : Addr} {items : Array Value} {Q : Value → Shared → Prop} (hl : s.heap.IsTuple l items)
    (h : ∀ s₂ : Shared, s₂ = { s with heap := s.heap.push { cls := .type "tuple_iterator", data := .fields #[.ref l, .int 0 0] } } →
      (s₂.heap.IsTupleIter s.heap.objs.size l 0 ∧ s₂.heap.IsTuple l items) → l ≠ s.heap.objs.size → Q (.ref s.heap.objs.size) s₂) : wpAny (model prog w) A (pyIter (.ref l)) Q E s := by
  have hlt : l < s.heap.objs.size := by obtain ⟨_, e, _⟩ := hl; exact Heap.lt_size e
  exact wpAny_pyIter_tuple hl (h _ rfl ⟨⟨_, Heap.get?_push_size _ rfl, rfl, rfl⟩, IsTup.push hl _⟩ (Nat.ne_of_lt hlt))
theorem cr_anyT (hc : X.calm = true) : CallR X (.builtin "any") (rAnyT X.K) := by
  intro pins s σ H vs us Q I r h
  obtain ⟨a, xs, bs, rfl, hs | hs, hb, q⟩ := h
  · obtain ⟨its, rv, hl, _⟩ := I.list hs
    rw [Vals.ref1 r]
    refine call_any_walk (iter_any hl.isList fun s₂ e2 st hne => ?_)
    subst e2
    refine ⟨_, _, _, _, _, _, _, rfl, Walks.list (A := X.A.in1) (I.ok.hd hc) _ a hne its.toArray, st, truth_tr rv hb, fun h' tk hk => ?_⟩
    refine ⟨.bl _, H, I.kept fun b o eo => hk b o (fun hmem => ?_) (Heap.get?_push_of_some _ eo), ?_, q⟩
    · rcases List.mem_cons.mp hmem with e1 | hmem
      · exact absurd (e1 ▸ Heap.lt_size eo) (Nat.lt_irrefl _)
      · cases hmem
    · show Value.bool _ = Value.bool _
      rw [← L2.any_range, List.size_toArray, ← Vals.length rv, trs_len hb]
  · obtain ⟨its, rv, hl, _⟩ := I.tuple hs
    rw [Vals.ref1 r]
    refine call_any_walk (iter_tupA hl fun s₂ e2 st hne => ?_)
    subst e2
    refine ⟨_, _, _, _, _, _, _, rfl, Walks.tuple (A := X.A.in1) (I.ok.hd hc) _ a hne its.toArray, st, truth_tr rv hb, fun h' tk hk => ?_⟩
    refine ⟨.bl _, H, I.kept fun b o eo => hk b o (fun hmem => ?_) (Heap.get?_push_of_some _ eo), ?_, q⟩
    · rcases List.mem_cons.mp hmem with e1 | hmem
      · exact absurd (e1 ▸ Heap.lt_size eo) (Nat.lt_irrefl _)
      · cases hmem
    · show Value.bool _ = Value.bool _
      rw [← L2.any_range, List.size_toArray, ← Vals.length rv, trs_len hb]
theorem cs_anyT (hc : X.calm = true) : CalS X (.builtin "any") fAnyT := by
  refine ⟨_, cr_anyT hc, fun F H vs ds nw Q e hv hf hq => ?_⟩
  cases hv with
  | nil => simp [fAnyT] at hf
  | cons h hv =>
    cases hv with
    | cons _ _ => rename_i d _ _ _ _ _; cases d <;> simp [fAnyT] at hf
    | nil =>
      rename_i d
      cases d <;> simp only [fAnyT] at hf <;> try (cases hf; done)
      case lst xs =>
        cases q : trsD xs with
        | none => rw [q] at hf; cases hf
        | some bs =>
          rw [q] at hf; cases hf
          obtain ⟨p, vs, rfl, h1, h2⟩ := h.lst e
          exact ⟨p, vs, bs, rfl, .inl (SqL.of h1), trs_rp h2 q, hq.1 _ (.bl _)⟩
      case tup xs =>
        cases q : trsD xs with
        | none => rw [q] at hf; cases hf
        | some bs =>
          rw [q] at hf; cases hf
          obtain ⟨p, vs, rfl, h1, h2⟩ := h.tup e
          exact ⟨p, vs, bs, rfl, .inr h1, trs_rp h2 q, hq.1 _ (.bl _)⟩
end
end Rg
namespace Rg
open PySem PySem.Spec PyProof.Rows L2
section
variable {X : Cx}
end
end Rg
namespace Rg
open PySem PySem.Spec PyProof.Rows L2
end Rg
namespace Rg
open PySem PySem.Spec PyProof.Rows L2
end Rg
namespace Rg
open PySem L2
section
variable {X : Cx} {W : WX} {b : Expr} {pos pos1 : Pos} {mb : Env → R (BV × Env)}
end
end Rg
namespace Rg
open PySem PySem.Spec PyProof.Rows L2 LamX
theorem RpA.lk {K : PySem.W.Frag} {F : Hp} {f : Str} {d : D} : ∀ {ns : List Str} {vs : List V} {ds : List D}, RpA K F vs ds → lkD f ns ds = some d → ∃ v, (ns.zip vs).lookup f = some v ∧ Rp K F v d
  | [], _, _, _, h => by simp [lkD] at h
  | _ :: _, _, _, .nil, h => by simp [lkD] at h
  | n :: ns, _, _, .cons (v := v) h a, e => by
    simp only [List.zip_cons_cons, List.lookup_cons]
    unfold lkD at e
    cases q : f == n with
    | true => rw [q] at e; cases e; exact ⟨v, rfl, h⟩
    | false => rw [q] at e; exact RpA.lk a e
theorem RpA.lkn {K : PySem.W.Frag} {F : Hp} {f : Str} : ∀ {ns : List Str} {vs : List V} {ds : List D}, RpA K F vs ds → ns.length = vs.length → lkD f ns ds = none → (ns.zip vs).lookup f = none
  | [], _, _, _, _, _ => rfl
  | _ :: _, _, _, .nil, l, _ => by simp at l
  | n :: ns, _, _, .cons (v := v) h a, l, e => by
    simp only [List.zip_cons_cons, List.lookup_cons]
    unfold lkD at e
    cases q : f == n with
    | true => rw [q] at e; cases e
    | false => rw [q] at e; exact RpA.lkn a (by simpa using l) e
theorem Rh.ins {K : PySem.W.Frag} {F H : Hp} {v : V} {c : Str} {ns : List Str} {ds : List D} (e : Ex F H) (h : Rh K F H v (.ins c ns ds)) : ∃ a dx vs, v = .ref a ∧ F a = some (.ins (He.ga K c) dx (ns.zip vs)) ∧ ns.length = vs.length ∧ RpA K F vs ds := by
  have h := h.rp (fun _ z => by cases z)
  cases h with
  | ins h1 h2 h3 => exact ⟨_, _, _, rfl, h1, h2, h3⟩
section
variable {X : Cx} {W : WX} {e o : Expr} {es : List Expr} {pos apos : Pos} {me mo : Env → R (BV × Env)} {mas mks : Env → R (List BV × Env)}
variable {k n : Nat} {f : Addr} {fd : FuncData} {ps : List Str} {m : Str}
end
end Rg
namespace Rg
open PySem PySem.Spec PyProof.Rows L2 LamX
theorem jn_upd_r {G S : Hp} {p : Addr} {o : HO} (h : G p = none) : jn G (upd S p o) = upd (jn G S) p o := by
  funext b
  by_cases hb : b = p
  · subst hb; rw [upd_same, jn_r h, upd_same]
  · rw [upd_ne hb]; unfold jn; rw [upd_ne hb]
theorem look_app {f g : Str} {x : V} {fs : List (Str × V)} : (fs ++ [(g, x)]).lookup f = match fs.lookup f with | some v => some v | none => if f == g then some x else none := by
  induction fs with
  | nil =>
    show List.lookup f [(g, x)] = _
    rw [List.lookup_cons]
    cases f == g <;> rfl
  | cons p r ih =>
    obtain ⟨h, y⟩ := p
    rw [List.cons_append, List.lookup_cons, List.lookup_cons]
    cases f == h with
    | true => rfl
    | false => exact ih
section
variable {K : PySem.W.Frag} {a0 : Addr} {G : Hp} {Γ : Env} {σ : L2.St} {H F : Hp} {c : Str} {ns : List Str} {ds : List D} {w : Option (Str × List D)}
theorem RelO.tmutS {A : Hp} {p : Addr} {u u' : HO} (r : RelO K a0 A Γ σ H F) (h : A p = some u) (hw : muO u' = true) : RelO K a0 (upd A p u') Γ σ (upd H p u') F := by
  have e : A = upd A p u := by
    funext b
    by_cases hb : b = p
    · subst hb; rw [upd_same, h]
    · rw [upd_ne hb]
  rw [e] at r
  exact r.tmut' hw
theorem RelO.seti {A : Hp} {s : Sl} (hs : ∃ c ns ds w, s = .i c ns ds w) (r : RelO K a0 A Γ σ H F) : RelO K a0 A (Γ.set 0 s) σ H F := by
  obtain ⟨O, ad, x⟩ := r
  obtain ⟨c, ns, ds, w, rfl⟩ := hs
  have key : ∀ {j t}, gt (Γ.set 0 (.i c ns ds w)) j = t → t ≠ .no → (∀ c ns ds w, t ≠ .i c ns ds w) → j ≠ 0 ∧ gt Γ j = t := fun {j t} q n ni => by
    have hj : j ≠ 0 := fun z => by
      subst z
      cases Γ with
      | nil => exact n q.symm
      | cons a Γ => exact ni _ _ _ _ q.symm
    rw [gt_set_ne hj] at q
    exact ⟨hj, q⟩
  refine ⟨O, ad, ⟨x.wd, x.o, x.fo, x.go, fun j d q => ?_, fun j q => ?_, fun j k q1 q2 q3 => x.inj j k (ownd_lt (s := .i c ns ds w) rfl q1).2 (ownd_lt (s := .i c ns ds w) rfl q2).2 q3, fun q => ?_, by simpa using x.len, x.ol⟩⟩
  · exact x.v j d (key q (by simp) (fun _ _ _ _ z => by cases z)).2
  · obtain ⟨hj, q'⟩ := ownd_lt (s := .i c ns ds w) rfl q
    rw [gt_set_ne hj]
    exact x.own j q'
  · exact absurd rfl (ownd_lt (s := .i c ns ds w) rfl q).1
theorem gt0_self {s t : Sl} (g : gt Γ 0 = t) (h : t ≠ .no) : gt (Γ.set 0 s) 0 = s := gt_set_same (gt_lt g h)
theorem Rel.putV (r : Rel K a0 G Γ σ H F) (g : gt Γ 0 = .i c ns ds none) : σ[0]? = some (some (.ref a0)) ∧ ∃ dx vs, ns.length = vs.length ∧ RpA K F vs ds ∧ H a0 = some (.ins (He.ga K c) dx (ns.zip vs)) ∧
    ∀ f v d, Rp K F v d → Rel K a0 G (Γ.set 0 (.i c (ns ++ [f]) (ds ++ [d]) none)) σ (upd H a0 (.ins (He.ga K c) dx (ns.zip vs ++ [(f, v)]))) F := by
  obtain ⟨S, si, d, x⟩ := r
  obtain ⟨h1, dx, vs, h2, h3, h4⟩ := si.2 c ns ds none g
  have h4 : S a0 = some (.ins (He.ga K c) dx (ns.zip vs)) := h4
  have hS := ex_jn_r d _ _ h4
  have hG : G a0 = none := (d a0).elim id fun q => by rw [h4] at q; cases q
  refine ⟨h1, dx, vs, h2, h3, x.wd.g _ _ hS, fun f v e hv => ⟨upd S a0 (.ins (He.ga K c) dx (ns.zip vs ++ [(f, v)])), ⟨fun b o z => (by
    by_cases hb : b = a0
    · exact .inl hb
    · rw [upd_ne hb] at z; exact si.1 b o z), fun c' ns' ds' w' q => ?_⟩, dj_upd' d hG, ?_⟩⟩
  · rw [gt0_self g (by simp)] at q
    cases q
    refine ⟨h1, dx, vs ++ [v], by simp [h2], h3.append (.cons hv .nil), ?_⟩
    show upd S a0 _ a0 = _
    rw [upd_same, List.zip_append h2]
    rfl
  · rw [jn_upd_r hG]
    exact (x.tmutS hS rfl).seti ⟨_, _, _, _, rfl⟩
theorem Rel.ownL {f : Str} {xs : List D} (r : Rel K a0 G Γ σ H F) (g : gt Γ 0 = .i c ns ds (some (f, xs))) : σ[0]? = some (some (.ref a0)) ∧ ∃ dx vs q ws, ns.length = vs.length ∧ RpA K F vs ds ∧ F a0 = some (.ins (He.ga K c) dx (ns.zip vs ++ [(f, .ref q)])) ∧ H q = some (.lst ws) ∧ RpA K F ws xs ∧
    ∀ ws' xs', RpA K F ws' xs' → Rel K a0 G (Γ.set 0 (.i c ns ds (some (f, xs')))) σ (upd H q (.lst ws')) F := by
  obtain ⟨S, si, d, x⟩ := r
  obtain ⟨h1, dx, vs, h2, h3, q, ws, h4, h5, h6⟩ := si.2 c ns ds (some (f, xs)) g
  have hS := ex_jn_r d _ _ h5
  have hG : G q = none := (d q).elim id fun z => by rw [h5] at z; cases z
  refine ⟨h1, dx, vs, q, ws, h2, h3, h4, x.wd.g _ _ hS, h6, fun ws' xs' hv => ⟨upd S q (.lst ws'), ⟨fun b o z => (by
    by_cases hb : b = q
    · subst hb; rw [upd_same] at z; cases z; exact .inr rfl
    · rw [upd_ne hb] at z; exact si.1 b o z), fun c' ns' ds' w' z => ?_⟩, dj_upd' d hG, ?_⟩⟩
  · rw [gt0_self g (by simp)] at z
    cases z
    exact ⟨h1, dx, vs, h2, h3, q, ws', h4, upd_same, hv⟩
  · rw [jn_upd_r hG]
    exact (x.tmutS hS rfl).seti ⟨_, _, _, _, rfl⟩
theorem Rel.self (r : Rel K a0 G Γ σ H F) (g : gt Γ 0 = .i c ns ds w) : σ[0]? = some (some (.ref a0)) ∧ ∃ dx gs, H a0 = some (.ins (He.ga K c) dx gs) ∧ (∀ f d, lkD f ns ds = some d → ∃ v, gs.lookup f = some v ∧ Rp K F v d) ∧
    (∀ m, lkD m ns ds = none → (∀ f xs, w = some (f, xs) → (m == f) = false) → gs.lookup m = none) := by
  cases w with
  | none =>
    obtain ⟨h1, dx, vs, h2, h3, h4, _⟩ := r.putV g
    exact ⟨h1, dx, _, h4, fun f d q => h3.lk q, fun m q _ => h3.lkn h2 q⟩
  | some p =>
    obtain ⟨f, xs⟩ := p
    obtain ⟨h1, dx, vs, q, ws, h2, h3, h4, _⟩ := r.ownL g
    refine ⟨h1, dx, _, r.wd.f _ _ h4, fun f' d z => ?_, fun m z n => ?_⟩
    · obtain ⟨v, a1, a2⟩ := h3.lk z
      exact ⟨v, by rw [look_app, a1], a2⟩
    · rw [look_app, h3.lkn h2 z, n f xs rfl]; rfl
end
end Rg
namespace Rg
open PySem PySem.Spec PyProof.Rows L2 LamX
section
variable {X : Cx} {W : WX} {e o : Expr} {es : List Expr} {pos apos p1 : Pos} {me mo : Env → R (BV × Env)} {mas mks : Env → R (List BV × Env)} {x : Str}
variable {k n : Nat} {fa : Addr} {fd : FuncData} {ps : List Str} {m : Str}
end
section
variable {K : PySem.W.Frag} {mg : Str → Option Value} {G F H : Hp} {N ps : List Str} {c : Str} {n j : Nat} {m : Env → R Fl}
end
section
variable {P : Program} {w : World} {K : PySem.W.Frag} {mg : Str → Option Value} {base : Heap} {x qual : Str} {f : Addr} {fd : FuncData} {N ps : List Str} {k n j : Nat} {m : Env → R Fl} {c : Str}
end
section
variable {X : Cx} {W : WX} {e : Expr} {es : List Expr} {p pos : Pos} {mas mks : Env → R (List BV × Env)} {x : Str} {k n : Nat} {f : Addr} {fd : FuncData} {ps : List Str} {c : Str}
end
end Rg
namespace Rg
open PySem PySem.Spec PyProof.Rows L2 LamX
section
variable {K : PySem.W.Frag} {c f m : Str} {fs ms : List Str}
theorem metB_ok (h : metB K c m = true) : Meth K (He.ga K c) m (He.fAd K (c, some m)) := by
  obtain ⟨h1, h⟩ := He.ba h
  obtain ⟨h2, h3⟩ := He.ba h
  exact ⟨He.eqO_ok h1, h2, h3⟩
theorem clsB_cls (h : clsB K c fs ms = true) : Cls K (He.ga K c) := by
  obtain ⟨h1, h⟩ := He.ba h
  obtain ⟨h2, h⟩ := He.ba h
  obtain ⟨h3, h⟩ := He.ba h
  obtain ⟨h4, h⟩ := He.ba h
  exact ⟨h1, h2, h3, He.eqO_ok h4⟩
theorem clsB_all (h : clsB K c fs ms = true) : (fs.all fun f => noatB K (He.ga K c) f) = true ∧ (ms.all fun m => metB K c m) = true := by
  obtain ⟨h1, h⟩ := He.ba h
  obtain ⟨h2, h⟩ := He.ba h
  obtain ⟨h3, h⟩ := He.ba h
  obtain ⟨h4, h⟩ := He.ba h
  exact He.ba h
theorem clsB_no (h : clsB K c fs ms = true) (i : Nat) (hi : fs[i]? = some f) : NoAttr K (He.ga K c) f := He.eqO_ok (List.all_eq_true.mp (clsB_all h).1 f (List.mem_of_getElem? hi))
theorem clsB_met (h : clsB K c fs ms = true) (i : Nat) (hi : ms[i]? = some m) : Meth K (He.ga K c) m (He.fAd K (c, some m)) := metB_ok (List.all_eq_true.mp (clsB_all h).2 m (List.mem_of_getElem? hi))
theorem makB_ok (h : makB K c = true) : L2.Mk K (He.ga K c) (He.fAd K (c, some "__init__")) := by
  obtain ⟨h1, h⟩ := He.ba h
  obtain ⟨h2, h3⟩ := He.ba h
  have := metB_ok h2
  exact ⟨h1, this.at_, this.fn, h3⟩
end
section
variable {X : Cx} {W : WX}
end
end Rg
namespace Rg
open PySem PySem.Spec PyProof.Rows L2
section
variable {X : Cx} {W : WX} {e e2 : Expr} {mas : Env → R (List BV × Env)} {p pos tpos : Pos} {elts : List Expr} {kk : Nat}
end
end Rg
namespace Rg
open PySem PySem.Spec PyProof PyProof.Rows L2
variable {X : Cx} {W : WX} {pos : Pos} {e : Expr} {me : Env → R (BV × Env)}
end Rg
namespace L2
open PySem PySem.Spec PyProof PyProof.Rows
section
variable {X : Cx} {CX : CXT} {k n : Nat} {f C : Addr} {fd : FuncData} {ps ks : List Str} {sp : Sp} {E : XK} {m : Str} {pos apos : Pos} {e o : Expr} {es : List Expr} {kws : List Keyword} {ta : TE} {t tk : TA} {g : List Value → List Value → List Value} {gV : List V → List V → List V}
end
end L2
namespace Rg
open PySem PySem.Spec PyProof PyProof.Rows L2
section
variable {X : Cx} {W : WX} {e o : Expr} {es : List Expr} {apos pos : Pos} {mo : Env → R (BV × Env)} {mas mks : Env → R (List BV × Env)} {k n : Nat} {f : Addr} {fd : FuncData} {ps : List Str} {m : Str}
end
end Rg
namespace Rg
open PySem PySem.Spec PyProof PyProof.Rows L2 LamX
end Rg
namespace Rg
open PySem PySem.Spec PyProof.Rows L2
section
variable {X : Cx}
end
end Rg
namespace Rg
open PySem PySem.Spec PyProof.Rows L2 PySem.W
def tyOk (T : String) : D → Bool
  | .str _ => T == "str"
  | .lst _ => T == "list"
  | _ => false
def mBm (T : String) (bf : List D → Option Nw) (mo : Env → R (BV × Env)) (ma : Env → R (List BV × Env)) : Env → R (BV × Env) := fun Γ => (mo Γ).bind fun x => match rs x.2 x.1.fz with
  | some d => if tyOk T d = true then (ma x.2).bind fun y => match (rsA y.2 (x.1.fz :: y.1)).bind bf with
      | some nw => .ok (nw.bv, y.2)
      | none => .bad
    else .bad
  | none => .bad
def BmS (X : Cx) (id : String) (bf : List D → Option Nw) : Prop := ∃ r, MtR X id r ∧ ∀ F H v vs d ds nw Q, Ex F H → Rh X.K F H v d → RhA X.K F H vs ds → bf (d :: ds) = some nw → Yld X.K F H nw Q → r v vs H Q
theorem tyOk_V {K : PySem.W.Frag} {F H : Hp} {v : V} {d : D} {T : String} (e : Ex F H) (h : Rh K F H v d) (ht : tyOk T d = true) : tyV K T v H := by
  cases d <;> simp only [tyOk] at ht <;> try (cases ht; done)
  case str x =>
    cases h.str
    exact (by simpa using ht : T = "str")
  case lst xs =>
    obtain ⟨p, vs, rfl, h1, h2⟩ := h.lst e
    exact .inl ⟨by simpa using ht, vs, SqL.of h1⟩
section
variable {K : PySem.W.Frag} {mg : Str → Option Value} {W : WX}
theorem sdX_Bm {T : String} {to : TE} {ta : TA} {r : V → List V → Hp → VK → Prop} {bf : List D → Option Nw} {mo : Env → R (BV × Env)} {ma : Env → R (List BV × Env)} (ho : SdX K mg W to mo) (ha : SdA K mg W ta ma)
    (hr : ∀ F H v vs d ds nw Q, Ex F H → Rh K F H v d → RhA K F H vs ds → bf (d :: ds) = some nw → Yld K F H nw Q → r v vs H Q) : SdX K mg W (tBM K T r to ta) (mBm T bf mo ma) := by
  intro a0 G Γ σ H F Q rel h
  refine ho a0 G Γ σ H F _ rel (okG_bind h fun x _ hx => ?_)
  obtain ⟨b, Γ1⟩ := x
  refine PX_fz fun v H1 F1 e1 r1 hv => ?_
  dsimp only at hx
  cases q : rs Γ1 b.fz with
  | none => rw [q] at hx; exact hx.elim
  | some d =>
    rw [q] at hx
    dsimp only at hx
    by_cases ht : tyOk T d = true
    · rw [if_pos ht] at hx
      refine ⟨tyOk_V r1.wd.f (r1.rs hv q) ht, ?_⟩
      refine ha a0 G Γ1 σ H1 F1 _ r1 (okG_mono e1 (okG_bind hx fun y _ hy => hy) fun y _ hy => ?_)
      obtain ⟨bs, Γ2⟩ := y
      intro vs H2 F2 e2 r2 hb
      dsimp only at hy
      have hb2 := BsA.cons (hv.mono e2) hb
      cases q2 : rsA Γ2 (b.fz :: bs) with
      | none => rw [q2] at hy; exact hy.elim
      | some ds =>
        rw [q2, Option.bind_some] at hy
        cases q3 : bf ds with
        | none => rw [q3] at hy; exact hy.elim
        | some nw =>
          rw [q3] at hy
          have hR := r2.rsA hb2 q2
          cases hR with
          | cons ha1 ha2 => exact hr F2 H2 v vs _ _ nw Q r2.wd.f ha1 ha2 q3 (r2.yld (Ex.trans e1 e2) hy)
    · rw [if_neg ht] at hx; exact hx.elim
theorem sdX_Bm0 {T : String} {to : TE} {r : V → List V → Hp → VK → Prop} {bf : List D → Option Nw} {mo : Env → R (BV × Env)} (ho : SdX K mg W to mo)
    (hr : ∀ F H v vs d ds nw Q, Ex F H → Rh K F H v d → RhA K F H vs ds → bf (d :: ds) = some nw → Yld K F H nw Q → r v vs H Q) : SdX K mg W (tBM0 K T r to) (mBm T bf mo mA0) := by
  have := sdX_Bm (T := T) (bf := bf) ho (sdA_nil (K := K) (mg := mg) (W := W)) hr
  exact this
end
section
variable {X : Cx} {W : WX} {o e : Expr} {es : List Expr} {mo : Env → R (BV × Env)} {mas : Env → R (List BV × Env)} {name : Str} {apos cpos : Pos} {T id : String} {bf : List D → Option Nw}
theorem sx_bm (pa : PlainAttrs T) (slot : Slot T name id) (hty : typeOf (.builtin id) = pure (.type "method_descriptor")) (hm : BmS X id bf) (ho : SX X W o mo) (ha : SA X W (e :: es) mas)
    (hbase : attributeBase o name X.env (eval o X.env) = eval o X.env := by rfl)
    (hfew : ((backTo cpos (starEach (e :: es) X.env)).all (fun x => !x.1) && (backToKw cpos (keywordEach [] X.env)).all (fun x => x.1.isSome)
      && decide ((e :: es).length + ([] : List Keyword).length + (if ([] : List Keyword).isEmpty then 0 else 1) < 30)) = true := by rfl)
    (hline : (apos.endLine == cpos.line) = true := by rfl) (hs : starEach (e :: es) X.env = (false, eval e X.env) :: starEach es X.env := by rfl) (hplain : (backTo cpos (starEach es X.env)).any (·.1) = false := by rfl) :
    SX X W (.Call (.Attribute o name apos) (e :: es) [] cpos) (mBm T bf mo mas) := by
  obtain ⟨r, h1, h2⟩ := hm
  obtain ⟨to, po, so⟩ := ho
  obtain ⟨ta, pa', sa⟩ := ha
  exact ⟨_, pe_bm pa slot hty h1 po pa' hbase hfew hline hs hplain, sdX_Bm so sa h2⟩
theorem sx_bm0 (pa : PlainAttrs T) (slot : Slot T name id) (hty : typeOf (.builtin id) = pure (.type "method_descriptor")) (hm : BmS X id bf) (ho : SX X W o mo)
    (hbase : attributeBase o name X.env (eval o X.env) = eval o X.env := by rfl) (hline : (apos.endLine == cpos.line) = true := by rfl) : SX X W (.Call (.Attribute o name apos) [] [] cpos) (mBm T bf mo mA0) := by
  obtain ⟨r, h1, h2⟩ := hm
  obtain ⟨to, po, so⟩ := ho
  exact ⟨_, pe_bm0 pa slot hty h1 po hbase hline, sdX_Bm0 so h2⟩
end
section
variable {X : Cx}
end
end Rg
namespace Rg
open PySem PySem.Spec PyProof.Rows L2 LamX
def KyOk (K : PySem.W.Frag) (H B : Hp) : Prop := ∀ b xs, B b = some (.tup xs) → SqT K H b xs
def XGet (K : PySem.W.Frag) (H : Hp) (a : Addr) (y : V) (r : Option V) : Prop := ∃ p B kvs k b, Rd H a (DTo p B kvs) ∧ KyOk K H B ∧ y = .ref b ∧ SqT K H b (k.map kV) ∧ r = valV kvs k
def IsX (K : PySem.W.Frag) (H : Hp) (a : Addr) : Prop := ∃ p B kvs, Rd H a (DTo p B kvs) ∧ KyOk K H B
def intK (k : List Key) : Prop := ∃ ns : List Int, k = ns.map Sum.inl
section
variable {X : Cx} {pins : List (Addr × Obj)} {σ : L2.St} {H H' : Hp} {s : Shared} {a : Addr} {y v d : V} {u r : Value} {o : Option V} {A : Around} {E : Value → Shared → Prop}
theorem XGet.is (g : XGet X.K H a y o) : IsX X.K H a := let ⟨p, B, kvs, _, _, h1, h2, _⟩ := g; ⟨p, B, kvs, h1, h2⟩
section
variable {oe i e f value : Expr} {pos pos' apos cpos : Pos} {td ty tx tv : TE}
end
end
end Rg
namespace Rg
open PySem PySem.Spec PyProof.Rows L2 LamX
section
variable {X : Cx} {pins : List (Addr × Obj)} {σ : L2.St} {H : Hp} {s : Shared} {d : Addr} {o : Obj} {p : Addr} {B : Hp} {kvs : List (List Key × V)}
end
theorem KyOk.mono {K : PySem.W.Frag} {F H B : Hp} (e : Ex F H) (h : KyOk K F B) : KyOk K H B := fun b xs q => Evl.ex_t e (h b xs q)
section
variable {X : Cx} {W : WX} {e : Expr} {pos pos' : Pos}
end
end Rg
namespace Rg
open PySem PySem.Spec PyProof.Rows L2 LamX
def KyIs (K : PySem.W.Frag) (H : Hp) (y : V) (k : List Key) : Prop := k ∈ kyU ∧ ((∃ i, y = .int i ∧ k = [.inl i]) ∨ ∃ i j b, y = .ref b ∧ k = [.inl i, .inl j] ∧ SqT K H b (k.map kV))
section
variable {X : Cx} {pins : List (Addr × Obj)} {σ : L2.St} {H H' : Hp} {s : Shared} {a : Addr} {y v : V} {u r : Value} {A : Around} {E : Value → Shared → Prop} {p : Addr} {B : Hp} {kvs : List (List Key × V)} {k : List Key}
end
section
variable {X : Cx} {oe i e value : Expr} {pos pos' : Pos} {td ty tv : TE}
end
theorem KyIs.mono {K : PySem.W.Frag} {F H : Hp} {y : V} {k : List Key} (e : Ex F H) (h : KyIs K F y k) : KyIs K H y k :=
  ⟨h.1, h.2.elim .inl fun ⟨i, j, b, h1, h2, h3⟩ => .inr ⟨i, j, b, h1, h2, Evl.ex_t e h3⟩⟩
section
variable {X : Cx} {W : WX} {e : Expr} {pos pos' : Pos}
end
end Rg
namespace Rg
open PySem PySem.Spec PyProof.Rows L2
variable {P : Program} {w : World} {X : Cx} {W : WX} {a b : Expr} {ma mb : Env → R (BV × Env)} {pos : Pos}
end Rg
namespace Rg
open PySem PySem.Spec PyProof.Rows L2 LamX
section
variable {K : PySem.W.Frag} {mg : Str → Option Value} {a0 : Addr} {G F H : Hp} {Γ : Env} {σ : L2.St}
theorem own_ni {s : Sl} (h : ownd s = true) : ∀ c ns ds w, s ≠ .i c ns ds w := fun c ns ds w q => by rw [q] at h; cases h
theorem RelO.ioS {i : Nat} (r : RelO K a0 G Γ σ H F) (g : ownd (gt Γ i) = true) : ∃ p o G', σ[i]? = some (some (.ref p)) ∧ Ex G G' ∧ Wd K F G' H ∧ F p = none ∧ G' p = none ∧ H p = some o ∧ OwS K F o (gt Γ i) ∧
    ∀ F' H' o' s', Ex F F' → Wd K F' G' H' → F' p = none → H' p = some o' → OwS K F' o' s' → RelO K a0 G (Γ.set i s') σ H' F' := by
  obtain ⟨O, ad, x⟩ := r
  obtain ⟨h1, o, h2, h3⟩ := x.own i g
  have hF : F (ad i) = none := (x.fo (ad i)).elim id fun q => by rw [h2] at q; cases q
  have hG : G (ad i) = none := (x.go (ad i)).elim id fun q => by rw [h2] at q; cases q
  have hl : i < Γ.length := gt_lt rfl (fun z => by rw [z] at g; cases g)
  have eO : Ex (fun b => if b = ad i then none else O b) O := fun b u q => by
    by_cases hb : b = ad i
    · simp [hb] at q
    · simpa [hb] using q
  have exO : Ex (fun b => if b = ad i then none else O b) (jn G (fun b => if b = ad i then none else O b)) := fun b o h => by
    rw [jn_r ((x.go b).elim id fun q => by rw [eO b o h] at q; cases q)]; exact h
  have dj : ∀ b, F b = none ∨ jn G (fun b => if b = ad i then none else O b) b = none := fun b =>
    (x.wd.d b).elim .inl fun q => (x.fo b).elim .inl fun q2 => .inr (jn_none.mpr ⟨q, none_of_ex eO q2⟩)
  have hJ : jn G (fun b => if b = ad i then none else O b) (ad i) = none := jn_none.mpr ⟨hG, if_pos rfl⟩
  refine ⟨ad i, o, jn G (fun b => if b = ad i then none else O b), h1, ex_jn_l, ⟨x.wd.f, ex_jn x.wd.g (Ex.trans eO x.o), dj, x.wd.tb.toF (fun _ _ q _ => q) (ng_jn x.wd.tb.ng fun b o q => x.om b o (eO b o q))⟩, hF, hJ, x.o _ _ h2, h3, fun F' H' o' s' e w hF' hH' hR => ?_⟩
  have hO : Ex (fun b => if b = ad i then none else O b) H' := Ex.trans exO w.g
  have key : ∀ {j}, ownd (gt (Γ.set i s') j) = true → ownd (gt Γ j) = true := fun {j} q => by
    by_cases hj : j = i
    · subst hj; exact g
    · rw [gt_set_ne hj] at q; exact q
  refine ⟨upd (fun b => if b = ad i then none else O b) (ad i) o', ad, ⟨⟨w.f, Ex.trans ex_jn_l w.g, fun b => (w.d b).elim .inl fun q => .inr (jn_none.mp q).1, w.tb.toF (fun _ _ q _ => q) (fun b u q => w.tb.ng b u (ex_jn_l b u q))⟩, ex_updL hO hH', dj_upd' (fun b => (w.d b).elim .inl fun q => .inr (jn_none.mp q).2) hF', dj_upd' (fun b => (x.go b).elim .inl fun q => .inr (none_of_ex eO q)) hG, fun j d q => ?_, fun j q => ?_, fun j k q1 q2 q3 => x.inj j k (key q1) (key q2) q3, fun q => ?_, by simpa using x.len, ol_upd (u := o') (fun b o q => x.ol b o (eO b o q)) hR.mu hR.nf⟩⟩
  · have hj : j ≠ i := fun z => by
      subst z
      rw [gt_set_same hl] at q
      have := hR.own
      rw [q] at this; cases this
    rw [gt_set_ne hj] at q
    obtain ⟨v, a1, a2⟩ := x.v j d q
    exact ⟨v, a1, a2.mono e⟩
  · by_cases hj : j = i
    · subst hj
      rw [gt_set_same hl]
      exact ⟨h1, _, upd_same, hR⟩
    · rw [gt_set_ne hj] at q ⊢
      obtain ⟨a1, us, a2, a3⟩ := x.own j q
      have na : ad j ≠ ad i := fun z => hj (x.inj j i q g z)
      refine ⟨a1, us, ?_, a3.mono e⟩
      rw [upd_ne na]
      show (if ad j = ad i then none else O (ad j)) = _
      rw [if_neg na]
      exact a2
  · by_cases hj : 0 = i
    · subst hj; exact x.z g
    · rw [gt_set_ne hj] at q; exact x.z q
theorem Rel.ioS {i : Nat} (r : Rel K a0 G Γ σ H F) (g : ownd (gt Γ i) = true) : ∃ p o G', σ[i]? = some (some (.ref p)) ∧ Ex G G' ∧ Wd K F G' H ∧ F p = none ∧ G' p = none ∧ H p = some o ∧ OwS K F o (gt Γ i) ∧
    ∀ F' H' o' s', Ex F F' → Wd K F' G' H' → F' p = none → H' p = some o' → OwS K F' o' s' → Rel K a0 G (Γ.set i s') σ H' F' := by
  obtain ⟨S, si, d, x⟩ := r
  obtain ⟨p, o, G', h1, h2, h3, h4, h5, h6, h7, h8⟩ := x.ioS g
  exact ⟨p, o, G', h1, Ex.trans ex_jn_l h2, h3, h4, h5, h6, h7, fun F' H' o' s' e w f1 f2 f3 => ⟨S, si.to e (gt0_set (own_ni f3.own) fun _ _ => rfl), d, h8 F' H' o' s' e w f1 f2 f3⟩⟩
theorem Rel.io0S (r : Rel K a0 G Γ σ H F) (g : ownd (gt Γ 0) = true) : ∃ o, F a0 = none ∧ G a0 = none ∧ H a0 = some o ∧ OwS K F o (gt Γ 0) := by
  obtain ⟨S, si, dd, O, ad, x⟩ := r
  obtain ⟨h1, o, h2, h3⟩ := x.own 0 g
  rw [x.z g] at h2
  have f1 : F a0 = none := (x.fo a0).elim id fun q => by rw [h2] at q; cases q
  have g1 : G a0 = none := (jn_none.mp ((x.go a0).elim id fun q => by rw [h2] at q; cases q)).1
  exact ⟨o, f1, g1, x.o _ _ h2, h3⟩
def PRS (K : PySem.W.Frag) (G F : Hp) (p : Addr) (Q : VK) : Nw × Sl → Prop
  | (.v d, s') => ∀ v H' F' o', Ex F F' → Wd K F' G H' → F' p = none → H' p = some o' → OwS K F' o' s' → Rp K F' v d → Q v H'
  | (.o _, _) => False
def spS (K : PySem.W.Frag) (mg : Str → Option Value) (n : Nat) (M : Sl → List D → R (Nw × Sl)) : Sp := fun vs H Q E => ∃ F G p o s vs' ds, vs = .ref p :: vs' ∧ Wd K F G H ∧ F p = none ∧ G p = none ∧ H p = some o ∧ OwS K F o s ∧ RpA K F vs' ds ∧ ds.length = n ∧
  OkG K mg G F (WE E) (PRS K G F p Q) (M s ds)
section
variable {W : WX} {F1 : Hp}
theorem sp_callS {n : Nat} {M : Sl → List D → R (Nw × Sl)} {v0 : V} {vs : List V} {i : Nat} {bs : List BV} {ds : List D} {Γ1 : Env} {Q : VK} (r : Rel K a0 G Γ σ H F1) (e : Ex F F1) (h0 : σ[i]? = some (some v0)) (hb : BsA K σ F1 vs bs) (hr : fzL bs Γ = some (ds, Γ1)) (hl : ∀ s ds, ds.length ≠ n → M s ds = .bad)
    (hk : OkG K mg G F W (PX K a0 G F σ Q) (if ownd (gt Γ1 i) = true then (match M (gt Γ1 i) ds with
        | .ok (.v d, s) => .ok (.v d, Γ1.set i s)
        | .ok (.o _, _) => .bad
        | .exc c fs => .exc c fs
        | .bad => .bad) else .bad)) (E : XK) (hE : ∀ c d H, (∀ σ, W c d σ H) → E c d H) : spS K mg n M (v0 :: vs) H Q E := by
  obtain ⟨F2, e2, r2, hd⟩ := r.fzA hb hr
  have e02 : Ex F F2 := Ex.trans e e2
  split at hk
  · rename_i g
    obtain ⟨p, o, G', h1, eG, w, hFp, hGp, hHp, hx, back⟩ := r2.ioS g
    rw [h1] at h0; cases h0
    have hn : ds.length = n := Decidable.byContradiction fun z => by rw [hl _ ds z] at hk; exact hk.elim
    refine ⟨F2, G', p, o, _, vs, ds, rfl, w, hFp, hGp, hHp, hx, hd, hn, ?_⟩
    cases q : M (gt Γ1 i) ds with
    | bad => rw [q] at hk; exact hk.elim
    | exc c fs =>
      rw [q] at hk
      exact fun ca dd τ H' F' e' hx => hE _ _ _ fun σ => hk ca dd σ H' F' (Ex.trans e02 e') ⟨⟨hx.1.f, Ex.trans eG hx.1.g, fun b => (hx.1.d b).elim .inl fun z => .inr (none_of_ex eG z), hx.1.tb.toF (fun _ _ q _ => q) (fun b u q => hx.1.tb.ng b u (eG b u q))⟩, hx.2⟩
    | ok z =>
      rw [q] at hk
      obtain ⟨nw, s'⟩ := z
      cases nw with
      | v d => exact fun v H' F' o' e' w' hF' hH' hx' hv => hk v H' F' (Ex.trans e02 e') (back F' H' o' s' e' w' hF' hH' hx') hv
      | o ys => exact hk.elim
  · exact hk.elim
end
end
section
variable {X : Cx} {W : WX} {e : Expr} {es : List Expr} {x : Str} {p : Pos} {pos : Pos} {mas : Env → R (List BV × Env)} {k n : Nat} {f : Addr} {fd : FuncData} {ps : List Str}
end
def finS (n : Nat) (m : Env → R Fl) (k : Nat) : Sl → List D → R (Nw × Sl) := fun s ds => if ds.length = n then (m (s :: (ds.map Sl.v ++ List.replicate k .no))).bind fun f => (match f with
  | .nx Γ => if ownd (gt Γ 0) = true then .ok (.v .non, gt Γ 0) else .bad
  | .rt (.v d) Γ => if ownd (gt Γ 0) = true then .ok (.v d, gt Γ 0) else .bad
  | _ => .bad) else .bad
theorem finS_len {n : Nat} {m : Env → R Fl} {k : Nat} : ∀ s ds, ds.length ≠ n → finS n m k s ds = .bad := fun s ds h => by unfold finS; rw [if_neg h]
section
variable {K : PySem.W.Frag} {mg : Str → Option Value} {G F H : Hp}
theorem Rel.startS {N : List Str} {vs : List V} {o : HO} {s : Sl} {ds : List D} {k : Nat} {p : Addr} (w : Wd K F G H) (hF : F p = none) (hG : G p = none) (hp : H p = some o) (hx : OwS K F o s) (hv : RpA K F vs ds) (hl : N.length = ds.length + 1 + k) :
    Rel K p G (s :: (ds.map Sl.v ++ List.replicate k .no)) (L2.start N (.ref p :: vs)) H F := by
  have hs := hx.own
  have key : ∀ {i}, ownd (gt (s :: (ds.map Sl.v ++ List.replicate k .no)) i) = true → i = 0 := fun {i} q => by
    cases i with
    | zero => rfl
    | succ i =>
      have q : ownd (gt (ds.map Sl.v ++ List.replicate k .no) i) = true := q
      rcases gt_v (ds := ds) (k := k) (i := i) with ⟨d', h1, h2⟩ | h1 <;> rw [h1] at q <;> cases q
  refine Rel.ofO (fun c ns fs u q => own_ni hs c ns fs u q) ⟨fun b => if b = p then some o else none, fun _ => p, ⟨w, fun b u h => ?_, fun b => ?_, fun b => ?_, fun i d q => ?_, fun i q => ?_, fun i j q1 q2 _ => (key q1).trans (key q2).symm, fun _ => rfl, ?_, fun b u h => ?_⟩⟩
  · by_cases hb : b = p
    · simp [hb] at h; rw [hb, ← h]; exact hp
    · simp [hb] at h
  · by_cases hb : b = p
    · rw [hb]; exact .inl hF
    · exact .inr (if_neg hb)
  · by_cases hb : b = p
    · rw [hb]; exact .inl hG
    · exact .inr (if_neg hb)
  · cases i with
    | zero =>
      have q : s = .v d := q
      rw [q] at hs; cases hs
    | succ i =>
      have q : gt (ds.map Sl.v ++ List.replicate k .no) i = .v d := q
      rcases gt_v (ds := ds) (k := k) (i := i) with ⟨d', h1, h2⟩ | h1
      · rw [h1] at q; cases q
        obtain ⟨v, h3, h4⟩ := hv.get h2
        exact ⟨v, start_get (by simpa using h3), h4⟩
      · rw [h1] at q; cases q
  · have e := key q
    subst e
    exact ⟨start_get rfl, _, if_pos rfl, hx⟩
  · have := hv.length
    simp [L2.start]; omega
  · by_cases hb : b = p
    · simp [hb] at h; rw [← h]; exact ⟨hx.mu, hx.nf⟩
    · simp [hb] at h
theorem body_S {X : Cx} {N : List Str} {n j : Nat} {m : Env → R Fl} {E : XK} {body : List Stmt} {vs : List V} {H : Hp} {Q : VK} (eK : X.K = K) (eg : X.mg = mg) (hN : N.length = n + 1 + j) (hb : SSs X (WE E) body m) (h : spS K mg n (finS n m j) vs H Q E) :
    ∃ t, PSs X body t ∧ t { nx := fun _ H' => Q .non H', rt := Q } (L2.start N vs) H := by
  obtain ⟨t, p, s⟩ := hb
  obtain ⟨F, G, p0, o, s0, vs', ds, rfl, wd, hF, hG, hp, hx, hv, hn, hk⟩ := h
  subst eK eg
  refine ⟨t, p, s p0 G _ _ H F _ (Rel.startS wd hF hG hp hx hv (by rw [hN, hn])) ?_⟩
  unfold finS at hk
  rw [if_pos hn] at hk
  refine okG_bind hk fun f _ hf => ?_
  cases f with
  | bk Γ => exact hf.elim
  | ct Γ => exact hf.elim
  | nx Γ =>
    dsimp only at hf
    split at hf
    · rename_i g
      intro σ H' F' e r
      obtain ⟨o', a1, a2, a3, a4⟩ := r.io0S g
      exact hf .non H' F' o' e r.wd a1 a3 a4 .non
    · exact hf.elim
  | rt w Γ =>
    cases w with
    | v d =>
      dsimp only at hf
      split at hf
      · rename_i g
        intro σ v H' F' e r hv
        obtain ⟨o', a1, a2, a3, a4⟩ := r.io0S g
        exact hf v H' F' o' e r.wd a1 a3 a4 hv
      · exact hf.elim
    | o ys => exact hf.elim
end
section
variable {P : Program} {w : World} {K : PySem.W.Frag} {mg : Str → Option Value} {base : Heap} {k : Nat} {f : Addr} {fd : FuncData} {x : Str} {qual : Str} {N ps : List Str} {n j : Nat} {m : Env → R Fl}
theorem fn_SD {params : Arguments} {body : List Stmt} {scope : Scope} {dvs : List V} {kws : List (Str × V)} (F : FunD K x qual params body scope dvs kws f fd) (S : FnScope N ps scope) (hp : ps.length = n + 1) (hN : N.length = n + 1 + j)
    (hb : ∀ (cdv : Value) (A : Around) (outer : List PySem.Env) (s : Shared) (H : Hp) (E : XK), Room k (A.deeper (PyProof.Rows.envOfC qual scope s.heap.objs.size f cdv)) → Takes (cxOf (L2.CX P w) P w K mg base N qual scope f cdv A outer s H E) (WE E) →
      SSs (cxOf (L2.CX P w) P w K mg base N qual scope f cdv A outer s H E) (WE E) body m) : FnOk P w K mg base (L2.CX P w) (k + 1) f fd ps (spS K mg n (finS n m j)) := by
  refine F.ok S (fun vs H Q E h => ?_) (fun cdv A outer s H vs Q E hr h => ?_)
  · obtain ⟨F, G, p, o, s, vs', ds, rfl, _, _, _, _, _, hv, hn, _⟩ := h
    rw [List.length_cons, hv.length, hn, hp]
  · exact body_S rfl rfl hN (hb cdv A outer s H E hr (takes_of rfl rfl rfl rfl)) h
end
section
variable {P : Program} {w : World} {K : PySem.W.Frag} {mg : Str → Option Value} {base : Heap} {CX : L2.CXT} {k n : Nat} {f : Addr} {fd : FuncData} {ps : List Str}
theorem fn_noS : FnOk P w K mg base CX k f fd ps (spS K mg n fun _ _ => .bad) :=
  ⟨fun _ _ _ _ ⟨_, _, _, _, _, _, _, _, _, _, _, _, _, _, _, h⟩ => h.elim, fun _ _ _ _ _ _ _ _ _ _ _ _ _ ⟨_, _, _, _, _, _, _, _, _, _, _, _, _, _, _, h⟩ => h.elim⟩
end
section
variable {X : Cx} {W : WX} {a b : Expr} {ma : Env → R (BV × Env)} {md : Env → R ((Mk × List D) × Env)} {pos : Pos}
end
end Rg
namespace Rg
open PySem PySem.Spec PyProof.Rows L2 LamX
section
variable {X : Cx} {CX : CXT} {C g : Addr} {k : Nat} {fd : FuncData} {ps : List Str} {sp : Sp} {E : XK}
end
section
variable {X : Cx} {W : WX} {e : Expr} {pos : Pos} {mas : Env → R (List BV × Env)} {f : Addr} {fd : FuncData} {ps : List Str} {k : Nat}
end
section
variable {X : Cx}
end
end Rg
namespace Rg
open PySem PySem.Spec PyProof.Rows L2 LamX
section
variable {X : Cx} {CX : CXT} {C g : Addr} {k : Nat} {fd : FuncData} {ps : List Str} {sp : Sp} {E : XK}
end
section
variable {X : Cx} {W : WX} {a b : Expr} {pos : Pos} {ma mb : Env → R (BV × Env)} {f : Addr} {fd : FuncData} {ps : List Str} {k : Nat}
end
section
variable {X : Cx} {W : WX} {e : Expr} {p pc pos : Pos} {m : Env → R (BV × Env)}
end
end Rg
namespace Rg
open PySem PySem.Spec PyProof.Rows L2 LamX
theorem log2_sm {i : Int} (h : -1000000 ≤ i ∧ i ≤ 1000000) : i.natAbs.log2 < 1920 := by
  by_cases c : i.natAbs = 0
  · rw [c]; decide
  · rw [Nat.log2_lt c]
    have : i.natAbs < 2 ^ 20 := by omega
    exact Nat.lt_of_lt_of_le this (Nat.pow_le_pow_right (by decide) (by decide))
def fStr : List D → Option Nw
  | [.int i] => if -1000000 ≤ i ∧ i ≤ 1000000 then some (.v (.str (toString i))) else none
  | [.str s] => some (.v (.str s))
  | _ => none
section
variable {X : Cx}
theorem cs_str : CalS X (.type "str") fStr := by
  refine ⟨fun xs H Q => (∃ i : Int, xs = [.int i] ∧ i.natAbs.log2 < 1920 ∧ Q (.str (toString i)) H) ∨ ∃ a, xs = [.str a] ∧ Q (.str a) H, fun pins s σ H xs us Q I r h => ?_, fun F H vs ds nw Q e hv hf hq => ?_⟩
  · rcases h with h | h
    · exact call_str_int pins s σ H xs us Q I r h
    · exact SkE.call_str_str pins s σ H xs us Q I r h
  · unfold fStr at hf
    split at hf
    · split at hf
      · rename_i i hi
        cases hf
        cases hv with
        | cons h1 h2 =>
          cases h2
          cases h1.int
          exact .inl ⟨_, rfl, log2_sm hi, hq.1 _ (.str _)⟩
      · cases hf
    · cases hf
      cases hv with
      | cons h1 h2 =>
        cases h2
        cases h1.str
        exact .inr ⟨_, rfl, hq.1 _ (.str _)⟩
    · cases hf
end
def fFmt : List D → Option Nw
  | [.int i] => if -1000000 ≤ i ∧ i ≤ 1000000 then some (.v (.str (toString i))) else none
  | [.str s] => if s.length ≤ SZ then some (.v (.str s)) else none
  | _ => none
def mJsL : List (Env → R (BV × Env)) → Str → Env → R (Str × Env)
  | [], acc, Γ => .ok (acc, Γ)
  | m :: ms, acc, Γ => (m Γ).bind fun x => match x.1 with
    | .v (.str y) => if (acc ++ y).length ≤ SZ then mJsL ms (acc ++ y) x.2 else .bad
    | _ => .bad
def mJs (ms : List (Env → R (BV × Env))) : Env → R (BV × Env) := fun Γ => (mJsL ms Str.empty Γ).bind fun z => .ok (.v (.str z.1), z.2)
section
variable {X : Cx} {W : WX} {e : Expr} {pos : Pos} {m : Env → R (BV × Env)}
inductive SJ (X : Cx) (W : WX) : List Expr → List (Env → R (BV × Env)) → Prop where
  | nil : SJ X W [] []
  | cons {e : Expr} {m : Env → R (BV × Env)} {es : List Expr} {ms : List (Env → R (BV × Env))} (h : SX X W e m) (r : SJ X W es ms) : SJ X W (e :: es) (m :: ms)
theorem sx_fmt (he : SX X W e m) : SX X W (.FormattedValue e (-1) none pos) (mB fFmt (mA1 m mA0)) := by
  obtain ⟨t, p, s⟩ := he
  refine ⟨_, pe_fmt p, sdX_B (r := fun vs H Q => match vs with
    | [x] => (∃ y : Str, x = .str y ∧ y.length ≤ sizeLine ∧ Q (.str y) H) ∨ ∃ i : Int, x = .int i ∧ i.natAbs.log2 < 1920 ∧ Q (.str (toString i)) H
    | _ => False) (sdA_cons s sdA_nil) (fun σ H Q h => h) fun F H vs ds nw Q e hv hf hq => ?_⟩
  unfold fFmt at hf
  split at hf
  · split at hf
    · rename_i i hi
      cases hf
      cases hv with
      | cons h1 h2 =>
        cases h2
        cases h1.int
        exact .inr ⟨_, rfl, log2_sm hi, hq.1 _ (.str _)⟩
    · cases hf
  · split at hf
    · rename_i hi
      cases hf
      cases hv with
      | cons h1 h2 =>
        cases h2
        cases h1.str
        exact .inl ⟨_, rfl, sz_le hi, hq.1 _ (.str _)⟩
    · cases hf
  · cases hf
theorem sd_js : ∀ {es : List Expr} {ms : List (Env → R (BV × Env))}, SJ X W es ms → ∃ ts, PJ X es ts ∧ ∀ (acc : Str) a0 G Γ σ H F (Q : Str → Hp → Prop), Rel X.K a0 G Γ σ H F →
    OkG X.K X.mg G F W (fun z : Str × Env => ∀ H1 F1, Ex F F1 → Rel X.K a0 G z.2 σ H1 F1 → Q z.1 H1) (mJsL ms acc Γ) → tJs ts acc σ H Q
  | _, _, .nil => ⟨[], .nil, fun acc a0 G Γ σ H F Q r h => h H F (Ex.refl F) r⟩
  | _, _, .cons h t => by
    obtain ⟨ts, p, k⟩ := sd_js t
    obtain ⟨t0, p0, s0⟩ := h
    refine ⟨t0 :: ts, .cons p0 p, fun acc a0 G Γ σ H F Q r h => ?_⟩
    refine s0 a0 G Γ σ H F _ r (okG_bind h fun x _ hx => ?_)
    obtain ⟨b, Γ1⟩ := x
    dsimp only at hx
    cases b with
    | o xs => exact hx.elim
    | s i => exact hx.elim
    | v d =>
      cases d with
      | str y =>
        dsimp only at hx
        split at hx
        · rename_i hl
          intro v H1 F1 e1 r1 hv
          cases hv
          exact ⟨y, rfl, sz_le hl, k _ a0 G Γ1 σ H1 F1 Q r1 (okG_mono e1 hx fun z _ hz H2 F2 e2 r2 => hz H2 F2 (Ex.trans e1 e2) r2)⟩
        · exact hx.elim
      | _ => exact hx.elim
theorem sx_js {v1 v2 : Expr} {rest : List Expr} {ms : List (Env → R (BV × Env))} (h : SJ X W (v1 :: v2 :: rest) ms) : SX X W (.JoinedStr (v1 :: v2 :: rest) pos) (mJs ms) := by
  obtain ⟨ts, p, k⟩ := sd_js h
  refine ⟨_, pe_joined p, fun a0 G Γ σ H F Q r hk => ?_⟩
  refine k Str.empty a0 G Γ σ H F _ r (okG_bind hk fun z _ hz H1 F1 e1 r1 => ?_)
  exact hz _ _ _ e1 r1 (.str _)
end
section
variable {X : Cx} {CX : CXT} {C g : Addr} {k : Nat} {fd : FuncData} {ps : List Str} {sp : Sp} {E : XK}
end
section
variable {X : Cx} {W : WX} {e : Expr} {pos : Pos} {mas : Env → R (List BV × Env)} {f : Addr} {fd : FuncData} {ps : List Str} {k : Nat}
end
end Rg
namespace Rg
open PySem PySem.Spec PyProof.Rows L2
section
variable {X : Cx} {W : WX} {p pos : Pos} {mks : Env → R (List BV × Env)} {x : Str} {k n : Nat} {f : Addr} {fd : FuncData} {ps : List Str} {c : Str}
end
end Rg
namespace Rg
open PySem PySem.Spec PyProof.Rows L2 LamX
section
variable {X : Cx} {E : XK} {pos : Pos} {mks : Env → R (List BV × Env)} {k n : Nat} {f : Addr} {fd : FuncData} {ps : List Str} {x c : Str} {p : Pos}
end
end Rg
namespace Rg
open PySem PySem.Spec PyProof.Rows L2 LamX
section
variable {X : Cx} {CX : CXT} {C g : Addr} {k : Nat} {fd : FuncData} {ps : List Str} {sp : Sp} {E : XK}
end
section
variable {X : Cx} {W : WX} {e : Expr} {pos : Pos} {mas : Env → R (List BV × Env)} {f : Addr} {fd : FuncData} {ps : List Str} {k : Nat}
end
def txts : List D → Option (List Str)
  | [] => some []
  | .str s :: ds => (txts ds).bind fun r => some (s :: r)
  | _ => none
def fJoin : List D → Option Nw
  | [.str a, .lst ds] => match txts ds with
    | some ys => if (ys.map (·.length)).sum + ys.length * a.length ≤ 16777216 then some (.v (.str (Txt.join a ys))) else none
    | none => none
  | _ => none
theorem txts_RhA {K : PySem.W.Frag} {F : Hp} : ∀ {vs : List V} {ds : List D} {ys : List Str}, RpA K F vs ds → txts ds = some ys → vs = ys.map V.str
  | [], [], ys, _, h => by cases h; rfl
  | v :: vs, d :: ds, ys, .cons h1 h2, h => by
    cases d with
    | str s =>
      simp only [txts] at h
      cases q : txts ds with
      | none => rw [q] at h; cases h
      | some r =>
        rw [q, Option.bind_some] at h
        cases h
        cases h1 with
        | str _ => rw [txts_RhA h2 q]; rfl
    | _ => simp only [txts] at h <;> cases h
section
variable {X : Cx}
theorem bs_join : BmS X "str.join" fJoin := by
  refine ⟨_, mt_join, fun F H v vs d ds nw Q e hv hvs hf hq => ?_⟩
  unfold fJoin at hf
  split at hf
  · rename_i a xs heq
    cases heq
    split at hf
    · rename_i ys hy
      split at hf
      · rename_i hl
        cases hf
        cases hvs with
        | cons hx hn =>
          cases hn
          obtain ⟨p, us, rfl, h1, h2⟩ := hx.lst e
          cases hv.str
          refine ⟨a, p, ys, rfl, rfl, .inl ?_, hl, hq.1 _ (.str _)⟩
          have := txts_RhA h2 hy
          subst this
          exact SqL.of h1
      · cases hf
    · cases hf
  · cases hf
end
section
variable {X : Cx} {W : WX} {e : Expr} {es : List Expr} {p pos : Pos} {mas : Env → R (List BV × Env)} {x : Str} {k n : Nat} {f : Addr} {fd : FuncData} {ps : List Str} {c : Str}
end
end Rg
namespace Rg
open PySem PySem.Spec PyProof.Rows L2 LamX
def fAlnum : List D → Option Nw
  | [.str a] => some (.v (.bl (Txt.isalnum a)))
  | _ => none
def fInS (neg : Bool) : List D → Option Nw
  | [.str x, .str z] => match x.cps.toList with
    | [c] => some (.v (.bl (neg ^^ decide (c ∈ z.cps.toList))))
    | _ => none
  | _ => none
def fIntS : List D → Option Nw
  | [.str a] => if a.length ≤ 640 then (intText? a).map fun n => .v (.int n) else none
  | _ => none
def fLenS : List D → Option Nw
  | [.str a] => if a.length ≤ SZ then some (.v (.int a.length)) else none
  | _ => none
def sgs (s : Str) : List D := s.cps.toList.map fun c => D.str ⟨#[c]⟩
def mIc (m : Env → R (BV × Env)) : Env → R (List D × Env) := fun Γ => (mFz1 m Γ).bind fun x => match x.1 with
  | .str s => .ok (sgs s, x.2)
  | _ => .bad
theorem rp_strs {K : PySem.W.Frag} {F : Hp} : ∀ ys : List Str, RpA K F (ys.map V.str) (ys.map D.str)
  | [] => .nil
  | y :: ys => .cons (.str y) (rp_strs ys)
section
variable {X : Cx} {W : WX} {tg e a b c : Expr} {pos : Pos} {me ma mb mc : Env → R (BV × Env)}
theorem sx_globS {x : Str} {i : Str} {t : Tok} (hg : Gl X x) (hm : X.mg x = some (.str i t)) (hd : (x == ("__debug__" : Str)) = false := by decide) : SX X W (.Name x pos) (mK (.str i)) :=
  sx_const (pe_glob hg hm (v := .str i) ⟨t, rfl⟩ hd) fun _ _ => .str i
theorem bs_alnum : BmS X "str.isalnum" fAlnum := by
  refine ⟨_, mt_isalnum, fun F H v vs d ds nw Q e hv hvs hf hq => ?_⟩
  unfold fAlnum at hf
  split at hf
  · rename_i a heq
    cases heq
    cases hf
    cases hvs
    cases hv.str
    exact ⟨a, rfl, rfl, trivial, hq.1 _ (.bl _)⟩
  · cases hf
theorem os_inS : OpS X (compareOp .In) (fInS false) := by
  refine ⟨_, op_in_sign, fun F H x y dx dy nw Q e hx hy hf hq => ?_⟩
  unfold fInS at hf
  split at hf
  · rename_i x z heq
    cases heq
    split at hf
    · rename_i c hc
      cases hf
      cases hx.str
      cases hy.str
      refine ⟨c, z, ?_, rfl, ?_⟩
      · congr 1
        cases x with
        | mk cps => congr 1; exact Array.toList_inj.mp (by simpa using hc)
      · have := hq.1 _ (.bl _)
        simpa using this
    · cases hf
  · cases hf
theorem cs_intS : CalS X (.type "int") fIntS := by
  refine ⟨_, call_int_str, fun F H vs ds nw Q e hvs hf hq => ?_⟩
  unfold fIntS at hf
  split at hf
  · rename_i a
    split at hf
    · rename_i hl
      cases hvs with
      | cons hx hn =>
        cases hn
        cases hx.str
        cases q : intText? a with
        | none => rw [q] at hf; cases hf
        | some n =>
          rw [q] at hf
          cases hf
          exact ⟨a, n, rfl, q, hl, hq.1 _ (.int _)⟩
    · cases hf
  · cases hf
theorem cs_lenS : CalS X (.builtin "len") fLenS := by
  refine ⟨_, call_len_str, fun F H vs ds nw Q e hvs hf hq => ?_⟩
  unfold fLenS at hf
  split at hf
  · rename_i a
    split at hf
    · rename_i hl
      cases hvs with
      | cons hx hn =>
        cases hn
        cases hx.str
        cases hf
        exact ⟨a, rfl, sz_le hl, hq.1 _ (.int _)⟩
    · cases hf
  · cases hf
theorem si_str (h : SX X W e me) : SI X W tg e (mIc me) := by
  obtain ⟨t, p, s⟩ := h
  refine ⟨_, pi_str p, fun a0 G Γ σ H F Rr r hk => ?_⟩
  refine sdX_fz s r (okG_bind hk fun y _ hy v H1 F1 e1 r1 hv => ?_)
  obtain ⟨d, Γ1⟩ := y
  dsimp only at hy hv
  split at hy
  · rename_i sx hq
    cases hv with
    | str x =>
      refine ⟨_, rfl, hy _ _ _ _ H1 F1 e1 r1 walk_str ⟨by simp [sgs], fun F2 H2 e2 e3 => trivial, fun i d hd F2 H2 x H3 e2 e3 hY => ?_⟩⟩
      obtain ⟨rfl, c, hc, rfl⟩ := hY
      refine .inl ⟨rfl, ?_⟩
      have : d = D.str ⟨#[c]⟩ := by
        unfold sgs at hd
        rw [List.getElem?_map] at hd
        have h2 : sx.cps.toList[i]? = some c := by simpa using hc
        rw [h2] at hd
        exact (Option.some.inj hd).symm
      rw [this]
      exact .str _
  · exact hy.elim
noncomputable def fMulS : List D → Option Nw
  | [.str a, .int n] => @ite _ (MulOk a n) (Classical.propDecidable _) (some (.v (.str (Txt.mul a n)))) none
  | _ => none
def fSlHS : List D → Option Nw
  | [.str a, .int i] => if a.length ≤ SZ then some (.v (.str (cutS a none (some i)))) else none
  | _ => none
def fSlLS : List D → Option Nw
  | [.str a, .int i] => if a.length ≤ SZ then some (.v (.str (cutS a (some i) none))) else none
  | _ => none
theorem op_mul_str : OpR X (binaryOp .Mult) (fun x y H Q => ∃ a n, x = .str a ∧ y = .int n ∧ MulOk a n ∧ Q (.str (Txt.mul a n)) H) := by
  intro pins s σ H x y v u Q I rx ry h
  obtain ⟨a, n, rfl, rfl, hm, q⟩ := h
  obtain ⟨t, rfl⟩ := rx
  obtain ⟨t2, rfl⟩ := ry
  exact PySem.SB.mul hm fun t' k => ⟨.str _, H, I.tok _, ⟨t', rfl⟩, q⟩
theorem os_mulS : OpS X (binaryOp .Mult) fMulS := by
  refine ⟨_, op_mul_str, fun F H x y dx dy nw Q e hx hy hf hq => ?_⟩
  unfold fMulS at hf
  split at hf
  · rename_i a n heq
    cases heq
    split at hf
    · rename_i hm
      cases hf
      cases hx.str
      cases hy.int
      exact ⟨a, n, rfl, rfl, hm, hq.1 _ (.str _)⟩
    · cases hf
  · cases hf
theorem sl_str1 {F H : Hp} {x : V} {a : Str} {lo hi : Option Int} {Q : VK} (hx : Rh X.K F H x (.str a)) (hl : a.length ≤ SZ) (hq : Yld X.K F H (.v (.str (cutS a lo hi))) Q) : rSlS x lo hi H Q := by
  cases hx.str
  exact ⟨a, rfl, sz_le hl, hq.1 _ (.str _)⟩
theorem sx_slHS {p2 : Pos} (ha : SX X W a ma) (hb : SX X W b mb) : SX X W (.Subscript a (.Slice none (some b) none p2) pos) (mB fSlHS (mA1 ma (mA1 mb mA0))) := by
  obtain ⟨ta, pa, sa⟩ := ha
  obtain ⟨tb, pb, sb⟩ := hb
  refine ⟨_, pe_slice sl_str pa po_none (po_some pb), sdX_B (r := fun vs H Q => match vs with | [x, y] => ∃ i, y = .int i ∧ rSlS x none (some i) H Q | _ => False) (sdA_cons sa (sdA_cons sb sdA_nil)) (fun σ H Q h => h) fun F H vs ds nw Q e hv hf hy => ?_⟩
  unfold fSlHS at hf
  split at hf
  · split at hf
    · rename_i hl
      cases hf
      obtain ⟨x, y, rfl, h1, h2⟩ := hv.two
      cases h2.int
      exact ⟨_, rfl, sl_str1 h1 hl hy⟩
    · cases hf
  · cases hf
theorem sx_slLS {p2 : Pos} (ha : SX X W a ma) (hb : SX X W b mb) : SX X W (.Subscript a (.Slice (some b) none none p2) pos) (mB fSlLS (mA1 ma (mA1 mb mA0))) := by
  obtain ⟨ta, pa, sa⟩ := ha
  obtain ⟨tb, pb, sb⟩ := hb
  refine ⟨_, pe_slice sl_str pa (po_some pb) po_none, sdX_B (r := fun vs H Q => match vs with | [x, y] => ∃ i, y = .int i ∧ rSlS x (some i) none H Q | _ => False) (sdA_cons sa (sdA_cons sb sdA_nil)) (fun σ H Q h => h) fun F H vs ds nw Q e hv hf hy => ?_⟩
  unfold fSlLS at hf
  split at hf
  · split at hf
    · rename_i hl
      cases hf
      obtain ⟨x, y, rfl, h1, h2⟩ := hv.two
      cases h2.int
      exact ⟨_, rfl, sl_str1 h1 hl hy⟩
    · cases hf
  · cases hf
end
end Rg
namespace Rg
open PySem PySem.Spec PyProof.Rows L2 LamX
def rplN {α : Type} (f : Str) (y : α) : List Str → List α → List α
  | n :: ns, x :: xs => if (f == n) = true then y :: xs else x :: rplN f y ns xs
  | _, xs => xs
theorem rplN_len {α : Type} (f : Str) (y : α) : ∀ (ns : List Str) (xs : List α), (rplN f y ns xs).length = xs.length
  | [], _ => by unfold rplN; rfl
  | _ :: _, [] => rfl
  | n :: ns, x :: xs => by
    unfold rplN
    split
    · rfl
    · rw [List.length_cons, rplN_len f y ns xs, List.length_cons]
theorem RpA.rplN {K : PySem.W.Frag} {F : Hp} {f : Str} {v : V} {d : D} (hv : Rp K F v d) : ∀ (ns : List Str) {vs : List V} {ds : List D}, RpA K F vs ds → RpA K F (Rg.rplN f v ns vs) (Rg.rplN f d ns ds)
  | [], _, _, h => by unfold Rg.rplN; exact h
  | _ :: _, _, _, .nil => .nil
  | n :: ns, _, _, .cons h a => by
    unfold Rg.rplN
    split
    · exact .cons hv a
    · exact .cons h (RpA.rplN hv ns a)
theorem putF_app {f : Str} {v : V} : ∀ {fs : List (Str × V)}, fs.lookup f = none → putF f v fs = fs ++ [(f, v)]
  | [], _ => rfl
  | (g, x) :: r, h => by
    rw [List.lookup_cons] at h
    unfold putF
    cases q : f == g with
    | true => rw [q] at h; cases h
    | false =>
      rw [q] at h
      have : g ≠ f := fun z => by rw [z, beq_self_eq_true] at q; cases q
      rw [if_neg this, putF_app h]; rfl
theorem putF_zip {f : Str} {v : V} : ∀ {ns : List Str} {vs : List V} {u : V}, (ns.zip vs).lookup f = some u → putF f v (ns.zip vs) = ns.zip (Rg.rplN f v ns vs)
  | [], _, _, h => by simp at h
  | _ :: _, [], _, h => by simp at h
  | n :: ns, x :: vs, u, h => by
    rw [List.zip_cons_cons, List.lookup_cons] at h
    rw [List.zip_cons_cons]
    unfold putF Rg.rplN
    cases q : f == n with
    | true =>
      have : n = f := (beq_iff_eq.mp q).symm
      rw [if_pos this, if_pos rfl, List.zip_cons_cons, this]
    | false =>
      rw [q] at h
      have : n ≠ f := fun z => by rw [z, beq_self_eq_true] at q; cases q
      rw [if_neg this, if_neg (by decide), putF_zip h, List.zip_cons_cons]
theorem rplN_fst {α : Type} {f : Str} {y : α} : ∀ (ns : List Str) (xs : List α), (ns.zip (rplN f y ns xs)).map (·.1) = (ns.zip xs).map (·.1)
  | [], _ => by simp
  | _ :: _, [] => rfl
  | n :: ns, x :: xs => by
    unfold rplN
    split
    · simp only [List.zip_cons_cons, List.map_cons]
    · simp only [List.zip_cons_cons, List.map_cons, rplN_fst ns xs]
def mRg (c : Str) (k : Nat) (f : Str) : Env → R (BV × Env) := fun Γ => match gt Γ k with
  | .m (.r c' ns) ds => if c' = c then (match lkD f ns ds with
    | some d => .ok (.v d, Γ)
    | none => .bad) else .bad
  | _ => .bad
def mRp (c : Str) (k : Nat) (f : Str) (me : Env → R (BV × Env)) : Env → R Fl := fun Γ => (mFz1 me Γ).bind fun y => match gt y.2 k with
  | .m (.r c' ns) ds => if c' = c ∧ (lkD f ns ds).isNone = true ∧ ds.length < 100 ∧ twB (ns ++ [f]) = false then .ok (.nx (y.2.set k (.m (.r c' (ns ++ [f])) (ds ++ [y.1])))) else .bad
  | _ => .bad
def mRa (c : Str) (k : Nat) (f : Str) (me : Env → R (BV × Env)) : Env → R Fl := fun Γ => match gt Γ k with
  | .m (.r c' ns) ds => if c' = c then (match lkD f ns ds with
    | some (.int i) => (mFz1 me Γ).bind fun y => (match y.1, gt y.2 k with
      | .int j, .m (.r c2 ns2) ds2 => if c2 = c ∧ ds2.length < 100 ∧ (lkD f ns2 ds2).isSome = true then .ok (.nx (y.2.set k (.m (.r c2 ns2) (rplN f (.int (i + j)) ns2 ds2)))) else .bad
      | _, _ => .bad)
    | _ => .bad) else .bad
  | _ => .bad
section
variable {X : Cx} {W : WX} {e : Expr} {me : Env → R (BV × Env)} {pos apos p1 : Pos}
theorem sx_rG (c : Str) (k : Nat) {x f : Str} (hc : Cls X.K (He.ga X.K c)) (hn : NoAttr X.K (He.ga X.K c) f) (hN : X.N[k]? = some x := by rfl) (hv : Vis X.env.scope x := by first | exact Or.inl rfl | exact Or.inr (Or.inl rfl) | exact Or.inr (Or.inr rfl)) (hd : (x == ("__debug__" : Str)) = false := by decide)
    (hcd : (x == ("__classdict__" : Str)) = false := by decide) (hb : attributeBase (.Name x p1) f X.env (eval (.Name x p1) X.env) = eval (.Name x p1) X.env := by rfl) : SX X W (.Attribute (.Name x p1) f pos) (mRg c k f) := by
  refine ⟨_, L2.pe_fld (pe_var hN hv hd hcd) hb, fun a0 G Γ σ H F Q r h => ?_⟩
  unfold mRg at h
  split at h
  · rename_i c' ns ds g
    split at h
    · rename_i hcc
      subst hcc
      obtain ⟨q, o, vs, h1, h2, ⟨dx, rfl, ht⟩, h3, h4, _⟩ := r.getm g
      cases q2 : lkD f ns ds with
      | none => rw [q2] at h; exact h.elim
      | some d =>
        rw [q2] at h
        obtain ⟨v, b1, b2⟩ := h4.lk q2
        exact ⟨.ref q, h1, q, _, dx, _, v, rfl, h2, hc, hn, b1, h v H F (Ex.refl F) r b2⟩
    · exact h.elim
  · exact h.elim
theorem ss_rP (c : Str) (k : Nat) {x f : Str} (hc : Cls X.K (He.ga X.K c)) (hn : NoAttr X.K (He.ga X.K c) f) (he : SX X W e me) (hN : X.N[k]? = some x := by rfl) (hv : Vis X.env.scope x := by first | exact Or.inl rfl | exact Or.inr (Or.inl rfl) | exact Or.inr (Or.inr rfl)) (hd : (x == ("__debug__" : Str)) = false := by decide)
    (hcd : (x == ("__classdict__" : Str)) = false := by decide) (hs : swapsWith e (some (.Attribute (.Name x p1) f apos)) pos.line X.env = pure false := by rfl) : SS X W (.Assign [.Attribute (.Name x p1) f apos] e pos) (mRp c k f me) := by
  obtain ⟨t, p, s⟩ := he
  refine ⟨_, ps_fld (pe_var hN hv hd hcd) p hs, fun a0 G Γ σ H F E r h => ?_⟩
  refine sdX_fz s r (okG_bind h fun y _ hy v H1 F1 e1 r1 hv => ?_)
  obtain ⟨d, Γ1⟩ := y
  dsimp only at hy hv r1
  split at hy
  · rename_i c' ns ds g
    split at hy
    · rename_i hcc
      obtain ⟨rfl, hl, hlen, htw⟩ := hcc
      obtain ⟨q, o, vs, h1, h2, ⟨dx, rfl, ht⟩, h3, h4, _⟩ := r1.getm g
      have h3 : ns.length = vs.length := h3
      have hlk := h4.lkn h3 (Option.isNone_iff_eq_none.mp hl)
      refine ⟨.ref q, h1, q, _, dx, _, rfl, h2, hc, hn, by rw [List.length_zip, ← h4.length] at *; omega, ?_⟩
      rw [putF_app hlk]
      refine hy σ _ F1 e1 (r1.mutS (s' := .m (.r c' (ns ++ [f])) (ds ++ [d])) (ownd_m g) h1 ⟨vs ++ [v], ⟨dx, ?_, ?_⟩, ?_, h4.append (.cons hv .nil)⟩ (fun _ z => by cases z))
      · rw [List.zip_append h3]; rfl
      · rw [List.zip_append h3, List.map_append, ← List.map_append, ← List.zip_append h3]
        have : ((ns ++ [f]).zip (vs ++ [v])).map (·.1) = ns ++ [f] := List.map_fst_zip (by simp [h3])
        rw [this]; exact htw
      · show (ns ++ [f]).length = (vs ++ [v]).length
        simp [h3]
    · exact hy.elim
  · exact hy.elim
theorem ss_rA (c : Str) (k : Nat) {x f : Str} (hc : Cls X.K (He.ga X.K c)) (hn : NoAttr X.K (He.ga X.K c) f) (he : SX X W e me) (hN : X.N[k]? = some x := by rfl) (hv : Vis X.env.scope x := by first | exact Or.inl rfl | exact Or.inr (Or.inl rfl) | exact Or.inr (Or.inr rfl)) (hd : (x == ("__debug__" : Str)) = false := by decide)
    (hcd : (x == ("__classdict__" : Str)) = false := by decide) : SS X W (.AugAssign (.Attribute (.Name x p1) f apos) .Add e pos) (mRa c k f me) := by
  obtain ⟨t, p, s⟩ := he
  refine ⟨_, ps_fldaug (pe_var hN hv hd hcd) p in_add, fun a0 G Γ σ H F E r h => ?_⟩
  unfold mRa at h
  split at h
  · rename_i c' ns ds g
    split at h
    · rename_i hcc
      subst hcc
      obtain ⟨q, o, vs, h1, h2, ⟨dx, rfl, ht⟩, h3, h4, _⟩ := r.getm g
      split at h
      · rename_i i q2
        obtain ⟨v, b1, b2⟩ := h4.lk q2
        cases b2
        refine ⟨.ref q, h1, q, _, dx, _, _, rfl, h2, hc, hn, b1, ?_⟩
        refine sdX_fz s r (okG_bind h fun y _ hy v H1 F1 e1 r1 hv => ?_)
        obtain ⟨d, Γ1⟩ := y
        dsimp only at hy hv r1
        split at hy
        · rename_i j c2 ns2 ds2 g2 _
          split at hy
          · rename_i hcc
            obtain ⟨rfl, hlen, hsm⟩ := hcc
            obtain ⟨q', o', vs2, a1, a2, ⟨dx2, rfl, ht2⟩, a3, a4, _⟩ := r1.getm g2
            rw [h1] at a1; cases a1
            cases hv
            obtain ⟨d2, hd2⟩ := Option.isSome_iff_exists.mp hsm
            obtain ⟨v2, c1, _⟩ := a4.lk hd2
            have a3 : ns2.length = vs2.length := a3
            refine ⟨i, j, rfl, rfl, dx2, _, a2, by rw [List.length_zip, ← a4.length] at *; omega, ?_⟩
            rw [putF_zip c1]
            refine hy σ _ F1 e1 (r1.mutS (s' := .m (.r c2 ns2) (rplN f (.int (i + j)) ns2 ds2)) (ownd_m g2) h1 ⟨rplN f (.int (i + j)) ns2 vs2, ⟨dx2, rfl, ?_⟩, ?_, a4.rplN (.int _) ns2⟩ (fun _ z => by cases z))
            · rw [rplN_fst]; exact ht2
            · show ns2.length = (rplN f _ ns2 vs2).length
              rw [rplN_len]; exact a3
          · exact hy.elim
        · exact hy.elim
      · exact h.elim
    · exact h.elim
  · exact h.elim
def mMthS (c : Str) (k : Nat) (m : Str) (M : Sl → List D → R (Nw × Sl)) : Env → R (BV × Env) := fun Γ => match gt Γ k with
  | .m (.r c' ns) ds => if c' = c ∧ (lkD m ns ds).isNone = true then (match M (.m (.r c' ns) ds) [] with
    | .ok (.v d, s) => .ok (.v d, Γ.set k s)
    | .ok (.o _, _) => .bad
    | .exc c fs => .exc c fs
    | .bad => .bad) else .bad
  | _ => .bad
variable {n j : Nat} {f : Addr} {fd : FuncData} {ps : List Str}
theorem sx_methS (c : Str) (i : Nat) {k : Nat} {x m : Str} {M : Sl → List D → R (Nw × Sl)} {pl : Sem Bool} (hc : Cls X.K (He.ga X.K c)) (hm : Meth X.K (He.ga X.K c) m f) (F : FnOk X.prog X.w X.K X.mg X.base (L2.CX X.prog X.w) k f fd ps (spS X.K X.mg 0 M)) (hl : ∀ s ds, ds.length ≠ 0 → M s ds = .bad) (hr : Room k X.A) (hb : Binds X.K fd ps []) (tk : Takes X W)
    (hN : X.N[i]? = some x := by rfl) (hv : Vis X.env.scope x := by first | exact Or.inl rfl | exact Or.inr (Or.inl rfl) | exact Or.inr (Or.inr rfl)) (hd : (x == ("__debug__" : Str)) = false := by decide) (hcd : (x == ("__classdict__" : Str)) = false := by decide)
    (ht : eval (.Call (.Attribute (.Name x p1) m apos) [] [] pos) X.env = (do
      let ov ← eval (.Name x p1) X.env
      standAt apos.atName
      let (g, first) ← holding [ov] (getMethod ov m pl)
      callWith pos g first (backTo pos (starEach [] X.env)) (backToKw pos (keywordEach [] X.env))) := by rfl) :
    SX X W (.Call (.Attribute (.Name x p1) m apos) [] [] pos) (mMthS c i m M) := by
  refine ⟨_, pe_meth0 (E := fun c d H => ∀ σ, W c d σ H) (pe_var hN hv hd hcd) hc hm F hr hb .nil (passes_call tk fun c d σ H h => h σ) ht, fun a0 G Γ σ H F Q r h => ?_⟩
  unfold mMthS at h
  split at h
  · rename_i c' ns ds g
    split at h
    · rename_i hcc
      obtain ⟨rfl, hlk⟩ := hcc
      obtain ⟨q, o, vs, h1, h2, ⟨dx, rfl, ht⟩, h3, h4, _⟩ := r.getm g
      refine ⟨.ref q, h1, q, dx, _, rfl, h2, h4.lkn h3 (Option.isNone_iff_eq_none.mp hlk), ?_⟩
      show spS X.K X.mg 0 M (.ref q :: ([] ++ [])) H Q _
      refine sp_callS (F := F) (F1 := F) (W := W) (i := i) (bs := []) (ds := []) (Γ1 := Γ) r (Ex.refl F) h1 .nil rfl hl ?_ _ fun c d H h => h
      rw [g]
      exact h
    · exact h.elim
  · exact h.elim
def mRm (c : Str) (M : Sl → List D → R (Nw × Sl)) (ma : Env → R (List BV × Env)) : Env → R ((Mk × List D) × Env) := fun Γ => (ma Γ).bind fun y => match rsA y.2 y.1 with
  | some ds => if allV y.1 = true then (match M (.m (.r c []) []) ds with
    | .ok (.v .non, .m k xs) => .ok ((k, xs), y.2)
    | .exc c fs => .exc c fs
    | _ => .bad) else .bad
  | none => .bad
theorem sp_makeS {K : PySem.W.Frag} {mg : Str → Option Value} {a0 : Addr} {G F F1 H : Hp} {Γ : Env} {σ : L2.St} {M : Sl → List D → R (Nw × Sl)} {c : Str} {vs : List V} {bs : List BV} {ds : List D} {Q : VK} (r : Rel K a0 G Γ σ H F1) (e : Ex F F1) (hb : BsA K σ F1 vs bs) (hr : rsA Γ bs = some ds) (ha : allV bs = true) (hl : ∀ s ds, ds.length ≠ n → M s ds = .bad)
    (hk : OkG K mg G F W (PD K a0 G F σ Q) (match M (.m (.r c []) []) ds with
      | .ok (.v .non, .m k xs) => .ok ((k, xs), Γ)
      | .exc c fs => .exc c fs
      | _ => .bad)) {y dx : Addr} (hy : H y = none) (hdx : H dx = none) (hne : dx ≠ y) : spS K mg n M (.ref y :: vs) (upd (upd H dx (.own y)) y (.ins (He.ga K c) dx [])) (fun v H2 => v = .non ∧ Q (.ref y) H2) (fun c d H => ∀ σ, W c d σ H) := by
  have hn : ds.length = n := Decidable.byContradiction fun z => by rw [hl _ ds z] at hk; exact hk.elim
  obtain ⟨e2, r2⟩ := r.newF (o := .own y) hdx
  obtain ⟨G', eG, w, back, backT⟩ := r2.split
  have hy2 : upd H dx (.own y) y = none := by rw [upd_ne (Ne.symm hne)]; exact hy
  have hF : upd F1 dx (.own y) y = none := none_of_ex w.f hy2
  have hG : G' y = none := none_of_ex w.g hy2
  refine ⟨upd F1 dx (.own y), G', y, .ins (He.ga K c) dx [], .m (.r c []) [], vs, ds, rfl, ⟨ex_upd w.f hF, ex_upd w.g hG, w.d, w.tb.toF (keep_upd hy2) w.tb.ng⟩, hF, hG, upd_same, ⟨[], ⟨dx, rfl, rfl⟩, rfl, .nil⟩, (allV_rpA hb ha hr).mono e2, hn, ?_⟩
  cases q : M (.m (.r c []) []) ds with
  | bad => rw [q] at hk; exact hk.elim
  | exc cc fs =>
    rw [q] at hk
    exact fun ca dd τ H' F' e' hx σ => hk ca dd σ H' F' (Ex.trans e (Ex.trans e2 e')) ⟨hx.1.less eG, hx.2⟩
  | ok z =>
    rw [q] at hk
    obtain ⟨nw, s'⟩ := z
    cases nw with
    | o _ => exact hk.elim
    | v d =>
      cases d with
      | non =>
        cases s' with
        | m k xs =>
          intro v H' F' o' e' w' hF' hH' hx hv
          cases hv
          obtain ⟨us, h1, h2, h3⟩ := hx
          have wd : Wd K F' (upd G' y o') H' := ⟨w'.f, ex_updL w'.g hH', dj_upd' w'.d hF', w'.tb.toF (fun _ _ q _ => q) (ng_upd w'.tb.ng h1.mu)⟩
          obtain ⟨g1, r3⟩ := backT F' H' y o' e' hG wd
          exact ⟨rfl, hk y o' us H' F' (Ex.trans e (Ex.trans e2 e')) g1 r3 h1 h2 h3⟩
        | _ => exact hk.elim
      | _ => exact hk.elim
theorem sd_rM (c : Str) {k : Nat} {es : List Expr} {x : Str} {p : Pos} {M : Sl → List D → R (Nw × Sl)} {mas : Env → R (List BV × Env)} (MK : L2.Mk X.K (He.ga X.K c) f) (F : FnOk X.prog X.w X.K X.mg X.base (L2.CX X.prog X.w) k f fd ps (spS X.K X.mg n M)) (hl : ∀ s ds, ds.length ≠ n → M s ds = .bad) (hr : Room (k + 1) X.A) (hm : X.mg x = some (.ref (He.ga X.K c)))
    (hb : Binds X.K fd ps []) (tk : Takes X W) (ha : SA X W (e :: es) mas) (hg : Gl X x := by rfl) (hdb : (x == ("__debug__" : Str)) = false := by decide) (he : starEach (e :: es) X.env = (false, eval e X.env) :: starEach es X.env := by rfl)
    (hpl : (backTo pos (starEach es X.env)).any (·.1) = false := by rfl) : SD X W (.Call (.Name x p) (e :: es) [] pos) (mRm c M mas) := by
  obtain ⟨t, pa, s⟩ := ha
  refine ⟨_, pe_make (E := fun c d H => ∀ σ, W c d σ H) MK F hr hg hm hb .nil (passes_call tk fun c d σ H h => h σ) pa hdb he hpl, fun a0 G Γ σ H F Q r h => ?_⟩
  refine s a0 G Γ σ H F _ r (okG_bind h fun y _ hy vs H1 F1 e1 r1 hb => ?_)
  refine fun x dx hx hdx hne => ?_
  rw [List.append_nil]
  cases q : rsA y.2 y.1 with
  | none => rw [q] at hy; exact hy.elim
  | some ds =>
    rw [q] at hy
    dsimp only at hy
    split at hy
    · rename_i ha
      exact sp_makeS r1 e1 hb q ha hl hy hx hdx hne
    · exact hy.elim
end
end Rg
namespace Rg
open PySem PySem.Spec PyProof.Rows L2 LamX
def dcE (K : PySem.W.Frag) (n : Str) : Option (List (Int × Str × Str)) := match K.lookup (He.ga K n) with
  | some ⟨.type t, none, .dict es _, sl⟩ => if t = "dict" ∧ sl.size = 0 then es.toList.mapM fun e => (match e.key, e.val with
    | .str k _, .str v _ => some (e.hash, k, v)
    | _, _ => none) else none
  | _ => none
def dcH (w : World) (kvs : List (Str × Str)) : List (Int × Str × Str) := kvs.map fun kv => (PyData.keyHash w.params kv.1, kv.1, kv.2)
structure DcW (w : World) (K : PySem.W.Frag) (mg : Str → Option Value) (n : Str) (kvs : List (Str × Str)) : Prop where
  g : mg n = some (.ref (He.ga K n))
  e : dcE K n = some (dcH w kvs)
  nd : (kvs.map (·.1)).Nodup
  s : (!(He.ga K n == sysModules)) = true
theorem dc_of {P : Program} {w : World} {kvs : List (Str × Str)} {h : Heap} {a : Addr} {o : Obj} {es : Array DictEntry} {ep : Nat} (ho : h.get? a = some o) (hx : o.ExactDict) (hd : o.data = .dict es ep)
    (he : es.toList.mapM (fun e => (match e.key, e.val with | .str k _, .str v _ => some (e.hash, k, v) | _, _ => none : Option (Int × Str × Str))) = some (dcH w kvs)) (nd : (kvs.map (·.1)).Nodup) :
    ∃ vs : List (Str × Value), Heap.DictOf (PySem.strKind P w) h a vs ∧ Paired (fun p q => p.1 = q.1 ∧ ∃ t, q.2 = Value.str p.2 t) kvs vs := by
  have key : ∀ (es : List DictEntry) (kvs : List (Str × Str)), es.mapM (fun e => (match e.key, e.val with | .str k _, .str v _ => some (e.hash, k, v) | _, _ => none : Option (Int × Str × Str))) = some (dcH w kvs) →
      ∃ vs : List (Str × Value), Paired (fun p q => p.1 = q.1 ∧ ∃ t, q.2 = Value.str p.2 t) kvs vs ∧ PySem.Pairs (PySem.strKind P w) es vs ∧ ∀ e ∈ es, ∃ k, (PySem.strKind P w).is k e.key = true ∧ e.hash = (PySem.strKind P w).hash k := by
    intro es
    induction es with
    | nil =>
      intro kvs h
      cases kvs with
      | nil => exact ⟨[], .nil, .nil, fun _ q => by cases q⟩
      | cons _ _ => simp [dcH] at h
    | cons e es ih =>
      intro kvs h
      rw [List.mapM_cons] at h
      cases kvs with
      | nil =>
        simp only [dcH, List.map_nil, Option.bind_eq_bind, Option.bind_eq_some_iff] at h
        obtain ⟨a, _, b, _, q⟩ := h
        cases q
      | cons kv kvs =>
        simp only [dcH, List.map_cons, Option.bind_eq_bind, Option.bind_eq_some_iff] at h
        obtain ⟨x, h1, y, h2, q⟩ := h
        injection q with q
        injection q with q1 q2
        subst q1 q2
        obtain ⟨vs, p1, p2, p3⟩ := ih kvs h2
        obtain ⟨hh, kk, vv⟩ := e
        dsimp only at h1
        split at h1
        · rename_i k t v t'
          injection h1 with h1
          injection h1 with h3 h4
          injection h4 with h4 h5
          subst h3 h4 h5
          refine ⟨(kv.1, .str kv.2 t') :: vs, .cons ⟨rfl, t', rfl⟩ p1, .cons ?_ rfl p2, fun e he => ?_⟩
          · show (kv.1 == kv.1) = true
            exact beq_self_eq_true _
          · rcases List.mem_cons.mp he with rfl | he
            · exact ⟨kv.1, (show (kv.1 == kv.1) = true from beq_self_eq_true _), rfl⟩
            · exact p3 e he
        · cases h1
  obtain ⟨vs, p1, p2, p3⟩ := key es.toList kvs he
  refine ⟨vs, ⟨o, es, ep, ho, hx, hd, fun e q => p3 e (Array.mem_toList_iff.mpr q), p2, ?_⟩, p1⟩
  have : vs.map (fun x => x.1) = kvs.map (·.1) := by
    clear p2 he nd
    induction p1 with
    | nil => rfl
    | cons h _ ih => rw [List.map_cons, List.map_cons, ih, h.1]
  rw [this]
  exact nd
section
variable {X : Cx} {pins : List (Addr × Obj)} {σ : L2.St} {H : Hp} {s : Shared} {n : Str} {kvs : List (Str × Str)}
theorem DcW.at (D : DcW X.w X.K X.mg n kvs) (I : Inv X pins σ H s) : ∃ vs : List (Str × Value), Heap.DictOf (PySem.strKind X.prog X.w) s.heap (He.ga X.K n) vs ∧ Paired (fun p q => p.1 = q.1 ∧ ∃ t, q.2 = Value.str p.2 t) kvs vs := by
  have e := D.e
  unfold dcE at e
  split at e
  · rename_i t es ep sl hl
    split at e
    · rename_i hc
      obtain ⟨rfl, hs⟩ := hc
      exact dc_of (I.kIn _ _ hl) ⟨rfl, rfl, Array.eq_empty_of_size_eq_zero hs⟩ rfl e D.nd
    · cases e
  · cases e
def lkS (kvs : List (Str × Str)) (k : Str) : Option Str := (kvs.find? fun p => decide (p.1 = k)).map (·.2)
theorem lkS_at {kvs : List (Str × Str)} {vs : List (Str × Value)} (h : Paired (fun p q => p.1 = q.1 ∧ ∃ t, q.2 = Value.str p.2 t) kvs vs) (k : Str) : (∀ v, lkS kvs k = some v → ∃ t, valueAt vs k = some (.str v t)) ∧ (lkS kvs k = none → valueAt vs k = none) := by
  induction h with
  | nil => exact ⟨fun v q => (by cases q), fun _ => rfl⟩
  | @cons p q ps qs hq t ih =>
    obtain ⟨h1, t', h2⟩ := hq
    unfold lkS valueAt at *
    by_cases c : p.1 = k
    · have c2 : q.1 = k := by rw [← h1]; exact c
      rw [List.find?_cons_of_pos (by simpa using c), List.find?_cons_of_pos (by simpa using c2)]
      refine ⟨fun v z => ⟨t', ?_⟩, fun z => (by cases z)⟩
      cases z
      show some q.2 = _
      rw [h2]
    · have c2 : ¬ q.1 = k := by rw [← h1]; exact c
      rw [List.find?_cons_of_neg (by simpa using c), List.find?_cons_of_neg (by simpa using c2)]
      exact ih
variable {A : Around} {E : Value → Shared → Prop} {Q : Value → Shared → Prop} {x : Str} {t : Tok}
theorem dcs_item {P : Program} {w : World} {a : Addr} {vs : List (Str × Value)} {r : Value} (hm : Heap.DictOf (PySem.strKind P w) s.heap a vs) (hr : valueAt vs x = some r) (h : ∀ n, Q r { s with toks := s.toks + n }) : wpAny (model P w) A (getItem (.ref a) (.str x t)) Q E s := by
  have ty := hm.typeIs
  unfold getItem
  refine wpAny_holding (wpAny_bind (wpAny_sequenceKey ty (by decide) ?_))
  refine wpAny_bind ?_
  refine wpAny_callSpecial?_slot (name := Str.ofString "__getitem__") ty PySem.F.slot_dict_getitem ?_
  refine wpAny_call_entry PySem.F.slot_dict_getitem ty PySem.F.entry_dict_getitem ?_ (args_dict_getitem _ _)
  show wpAny _ _ (dictGet a (.str x t) >>= _) _ _ s
  refine wpAny_bind (wpAny_dictGet_of (knd := PySem.strKind P w) (k := x) (show (x == x) = true from beq_self_eq_true _) hm.mapOf ?_)
  rw [hr]
  exact wpAny_pure ⟨r, rfl, wpAny_pure (h 1)⟩
theorem dcs_has {P : Program} {w : World} {a : Addr} {vs : List (Str × Value)} {Q : Bool → Shared → Prop} (hm : Heap.DictOf (PySem.strKind P w) s.heap a vs) (hd : (a == sysModules) = false) (h : ∀ n, Q (valueAt vs x).isSome { s with toks := s.toks + n }) : wpAny (model P w) A (contains (.ref a) (.str x t)) Q E s := by
  have ty := hm.typeIs
  unfold contains
  refine wpAny_holding (wpAny_bind (wpAny_specialOf ty PySem.F.slot_dict_contains.lookup ?_))
  have nn : ¬ (some (Value.builtin "dict.__contains__") == some Value.none) = true := by rw [beq_builtin_none]; simp
  refine (show wpAny (model P w) A (ite ((some (Value.builtin "dict.__contains__") == some Value.none) = true) _ _) Q E s from ?_)
  rw [if_neg nn]
  refine wpAny_bind ?_
  refine wpAny_callSpecialUnlessNone?_slot (name := Str.ofString "__contains__") ty PySem.F.slot_dict_contains ?_
  refine wpAny_call_entry PySem.F.slot_dict_contains ty PySem.F.entry_dict_contains ?_ (args_dict_contains _ _)
  show wpAny _ _ (dictGet a (.str x t) >>= _) _ _ s
  refine wpAny_bind (wpAny_dictGet_of (knd := PySem.strKind P w) (k := x) (show (x == x) = true from beq_self_eq_true _) hm.mapOf ?_)
  have hn := h 1
  cases e : valueAt vs x with
  | some p =>
    rw [e] at hn
    show wpAny _ _ (ret (.bool true)) _ _ _
    exact wpAny_pure ⟨_, rfl, wpAny_truthy_bool hn⟩
  | none =>
    rw [e] at hn
    show wpAny _ _ (Builtin.Dict.pendingKey? a (.str x t) >>= _) _ _ _
    exact wpAny_bind (wpAny_pendingKey_other hd (wpAny_pure ⟨_, rfl, wpAny_truthy_bool hn⟩))
end
def tDc (kvs : List (Str × Str)) (ti : TE) : TE := fun σ H Q => ti σ H fun y H1 => ∃ k v, y = .str k ∧ lkS kvs k = some v ∧ Q (.str v) H1
def fDc (kvs : List (Str × Str)) : List D → Option Nw
  | [.str k] => (lkS kvs k).map fun v => .v (.str v)
  | _ => none
section
variable {X : Cx} {W : WX} {n : Str} {kvs : List (Str × Str)} {i : Expr} {pos p1 : Pos} {ti : TE} {mi : Env → R (BV × Env)}
theorem pe_dcG (D : DcW X.w X.K X.mg n kvs) (hg : Gl X n) (hi : PE X i ti) (hs : NoSl i) (hdb : (n == ("__debug__" : Str)) = false := by decide) : PE X (.Subscript (.Name n p1) i pos) (tDc kvs ti) := by
  refine ⟨fun pins s σ H Q I h => ?_⟩
  refine subD_of PySem.F.slot_dict_getitem.lookup hs (thn ((pe_glob hg D.g (v := .ref (He.ga X.K n)) rfl hdb).run pins s σ H (fun v H' => v = .ref (He.ga X.K n) ∧ ti σ H' _) I ⟨rfl, h⟩) fun u s1 ⟨x, H1, I1, rx, ex, q1⟩ => thn (hi.run pins s1 σ H1 _ I1 q1) fun iv s2 ⟨y, H2, I2, ry, k, v, ey, hl, q2⟩ => ?_)
  subst ex ey
  obtain rfl : u = Value.ref _ := rx
  obtain ⟨t, rfl⟩ : ∃ t, iv = .str k t := ry
  obtain ⟨vs, hm, hp⟩ := D.at I2
  obtain ⟨t', hr⟩ := (lkS_at hp k).1 v hl
  exact ⟨hm.typeIs, dcs_item hm hr fun n => ⟨.str v, H2, I2.tok _, ⟨t', rfl⟩, q2⟩⟩
theorem sx_dcG (D : DcW X.w X.K X.mg n kvs) (hg : Gl X n) (hi : SX X W i mi) (hs : NoSl i := by exact fun _ _ => rfl) (hdb : (n == ("__debug__" : Str)) = false := by decide) : SX X W (.Subscript (.Name n p1) i pos) (mB (fDc kvs) (mA1 mi mA0)) := by
  obtain ⟨t, p, s⟩ := hi
  refine ⟨_, pe_dcG D hg p hs hdb, sdX_B (r := fun vs H Q => match vs with
    | [x] => ∃ k v, x = .str k ∧ lkS kvs k = some v ∧ Q (.str v) H
    | _ => False) (sdA_cons s sdA_nil) (fun σ H Q h => h) fun F H vs ds nw Q e hv hf hy => ?_⟩
  unfold fDc at hf
  split at hf
  · rename_i k
    cases hv with
    | cons h1 hv =>
      cases hv
      have h1 := h1.rp (fun _ z => by cases z)
      cases h1
      cases q : lkS kvs k with
      | none => rw [q] at hf; cases hf
      | some v =>
        rw [q] at hf
        cases hf
        exact ⟨k, v, rfl, q, hy.1 _ (.str v)⟩
  · cases hf
def rDcIn (kvs : List (Str × Str)) (a : Addr) : R2 := fun y x H Q => ∃ k, x = .ref a ∧ y = .str k ∧ Q (.bl (lkS kvs k).isSome) H
theorem or_dcin (D : DcW X.w X.K X.mg n kvs) : OpR X (compareOp .In) (rDcIn kvs (He.ga X.K n)) := fun pins s σ H y x v u Q I ry rx ⟨k, ex, ey, q⟩ => by
  subst ex ey
  obtain rfl : u = Value.ref _ := rx
  obtain ⟨t, rfl⟩ : ∃ t, v = .str k t := ry
  obtain ⟨vs, hm, hp⟩ := D.at I
  have e : (valueAt vs k).isSome = (lkS kvs k).isSome := by
    have h := lkS_at hp k
    cases c : lkS kvs k with
    | none => rw [h.2 c]; rfl
    | some v => obtain ⟨t, z⟩ := h.1 v c; rw [z]; rfl
  refine wpAny_bind (dcs_has hm (by simpa using D.s) fun n => wpAny_pure ?_)
  rw [e]
  exact ⟨.bl _, H, I.tok _, rfl, q⟩
def fDcI (kvs : List (Str × Str)) : List D → Option Nw
  | [.str k] => some (.v (.bl (lkS kvs k).isSome))
  | _ => none
theorem sd_dcI (D : DcW X.w X.K X.mg n kvs) (s : SdX X.K X.mg W ti mi) : SdX X.K X.mg W (tOp (rDcIn kvs (He.ga X.K n)) ti (tC (.ref (He.ga X.K n)))) (mB (fDcI kvs) (mA1 mi mA0)) := by
  refine sdX_B (r := fun vs H Q => match vs with
    | [x] => ∃ k, (V.ref (He.ga X.K n)) = .ref (He.ga X.K n) ∧ x = .str k ∧ Q (.bl (lkS kvs k).isSome) H
    | _ => False) (sdA_cons s sdA_nil) (fun σ H Q h => h) fun F H vs ds nw Q e hv hf hy => ?_
  · unfold fDcI at hf
    split at hf
    · rename_i k
      cases hv with
      | cons h1 hv =>
        cases hv
        have h1 := h1.rp (fun _ z => by cases z)
        cases h1
        cases hf
        exact ⟨k, rfl, rfl, hy.1 _ (.bl _)⟩
    · cases hf
theorem st_dcI (D : DcW X.w X.K X.mg n kvs) (hg : Gl X n) (hi : SX X W i mi) (hm : behindInMarks .In (.Name n p1) = false := by rfl) (hdb : (n == ("__debug__" : Str)) = false := by decide) : ST X W (.Compare i [.In] [.Name n p1] pos) (mT (mB (fDcI kvs) (mA1 mi mA0))) := by
  obtain ⟨t, p, s⟩ := hi
  exact ⟨_, pt_cmpR (or_dcin D) p (pe_glob hg D.g (v := .ref (He.ga X.K n)) rfl hdb) hm, sdT_of (sd_dcI D s)⟩
end
end Rg
namespace Rg
open PySem PySem.Spec PyProof.Rows L2 LamX
def strsOf : List D → Option (List Str)
  | [] => some []
  | .str x :: ds => (strsOf ds).map (x :: ·)
  | _ :: _ => none
theorem strsOf_eq : ∀ {ds : List D} {ns : List Str}, strsOf ds = some ns → ds = ns.map D.str
  | [], _, h => by cases h; rfl
  | d :: ds, _, h => by
    cases d <;> simp only [strsOf] at h <;> try (cases h; done)
    rename_i x
    cases q : strsOf ds with
    | none => rw [q] at h; cases h
    | some ms => rw [q] at h; cases h; rw [strsOf_eq q]; rfl
theorem strsOf_map : ∀ ns : List Str, strsOf (ns.map D.str) = some ns
  | [] => rfl
  | n :: ns => by simp only [List.map_cons, strsOf, strsOf_map ns]; rfl
theorem RpA.toStrs {K : PySem.W.Frag} {F : Hp} : ∀ {vs : List V} {ns : List Str}, RpA K F vs (ns.map D.str) → vs = ns.map V.str
  | _, [], .nil => rfl
  | _, n :: ns, .cons (.str _) a => by rw [RpA.toStrs a]; rfl
theorem inV_strs (i : Str) (ns : List Str) : inV (.str i) (ns.map V.str) = ns.contains i := by
  induction ns with
  | nil => rfl
  | cons n ns ih =>
    simp only [inV, List.map_cons, List.any_cons, List.contains_cons] at ih ⊢
    rw [ih]
    congr 1
    show (n == i) = (i == n)
    exact Bool.beq_comm
theorem flat_strs (ns : List Str) : (ns.map V.str).all flatV = true := by
  induction ns with
  | nil => rfl
  | cons n ns ih => simp only [List.map_cons, List.all_cons, ih, Bool.and_true]; rfl
def fInW (neg : Bool) : List D → Option Nw
  | [.str i, .tup ds] => (strsOf ds).map fun ns => .v (.bl (if neg then !ns.contains i else ns.contains i))
  | [.str i, .lst ds] => (strsOf ds).map fun ns => .v (.bl (if neg then !ns.contains i else ns.contains i))
  | _ => none
section
variable {X : Cx}
theorem os_inWG {op : CmpOp} {neg : Bool} (h : OpR X (compareOp op) (rIn X.K neg)) : OpS X (compareOp op) (fInW neg) := by
  refine ⟨_, h, fun F H x y dx dy nw Q e hx hy hf hq => ?_⟩
  cases dx <;> cases dy <;> simp only [fInW] at hf <;> try (cases hf; done)
  case str.tup i ds =>
    cases q : strsOf ds with
    | none => rw [q] at hf; cases hf
    | some ns =>
      rw [q] at hf; cases hf
      have hx := hx.rp (fun _ z => by cases z)
      cases hx
      obtain ⟨p, vs, rfl, h1, h2⟩ := hy.tup e
      rw [strsOf_eq q] at h2
      rw [h2.toStrs] at h1
      refine ⟨p, _, rfl, .inr h1, rfl, flat_strs ns, hq.1 _ ?_⟩
      rw [inV_strs]; exact .bl _
  case str.lst i ds =>
    cases q : strsOf ds with
    | none => rw [q] at hf; cases hf
    | some ns =>
      rw [q] at hf; cases hf
      have hx := hx.rp (fun _ z => by cases z)
      cases hx
      obtain ⟨p, vs, rfl, h1, h2⟩ := hy.lst e
      rw [strsOf_eq q] at h2
      rw [h2.toStrs] at h1
      refine ⟨p, _, rfl, .inl (SqL.of h1), rfl, flat_strs ns, hq.1 _ ?_⟩
      rw [inV_strs]; exact .bl _
theorem os_inW : OpS X (compareOp .In) (fInW false) := os_inWG op_in_seq
theorem os_notInW : OpS X (compareOp .NotIn) (fInW true) := os_inWG op_notIn_seq
end
section
variable {X : Cx} {W : WX} {a b c : Expr} {pos p2 : Pos} {ma mb mc : Env → R (BV × Env)}
def mSlB (ma mb mc : Env → R (BV × Env)) : Env → R (BV × Env) := fun Γ => (ma Γ).bind fun x => match x.1 with
  | .v (.str a) => (mb x.2).bind fun y => (match y.1 with
    | .v (.int i) => (mc y.2).bind fun z => (match z.1 with
      | .v (.int j) => if a.length ≤ SZ then .ok (.v (.str (cutS a (some i) (some j))), z.2) else .bad
      | _ => .bad)
    | _ => .bad)
  | _ => .bad
theorem sx_slBS (ha : SX X W a ma) (hb : SX X W b mb) (hc : SX X W c mc) : SX X W (.Subscript a (.Slice (some b) (some c) none p2) pos) (mSlB ma mb mc) := by
  obtain ⟨ta, pa, sa⟩ := ha
  obtain ⟨tb, pb, sb⟩ := hb
  obtain ⟨tc, pc, sc⟩ := hc
  refine ⟨_, pe_slice sl_str pa (po_some pb) (po_some pc), fun a0 G Γ σ H F Q r h => ?_⟩
  refine sa a0 G Γ σ H F _ r (okG_bind h fun x _ hx => ?_)
  obtain ⟨bx, Γ1⟩ := x
  cases bx with
  | o _ => exact hx.elim
  | s _ => exact hx.elim
  | v d =>
    cases d with
    | str w =>
      intro v H1 F1 e1 r1 hv
      cases hv
      refine sb a0 G Γ1 σ H1 F1 _ r1 (okG_mono e1 (okG_bind hx fun y _ hy => hy) fun y _ hy => ?_)
      obtain ⟨by', Γ2⟩ := y
      cases by' with
      | o _ => exact hy.elim
      | s _ => exact hy.elim
      | v d =>
        cases d with
        | int i =>
          intro v2 H2 F2 e2 r2 hv2
          cases hv2
          refine ⟨i, rfl, ?_⟩
          refine sc a0 G Γ2 σ H2 F2 _ r2 (okG_mono (Ex.trans e1 e2) (okG_bind hy fun z _ hz => hz) fun z _ hz => ?_)
          obtain ⟨bz, Γ3⟩ := z
          cases bz with
          | o _ => exact hz.elim
          | s _ => exact hz.elim
          | v d =>
            cases d with
            | int j =>
              intro v3 H3 F3 e3 r3 hv3
              cases hv3
              refine ⟨j, rfl, ?_⟩
              dsimp only at hz
              split at hz
              · rename_i hl
                have hz : PX X.K a0 G F σ Q (.v (.str (cutS w (some i) (some j))), Γ3) := hz
                exact ⟨w, rfl, Nat.le_trans hl (by decide), hz _ H3 F3 (Ex.trans e1 (Ex.trans e2 e3)) r3 (.str _)⟩
              · exact hz.elim
            | _ => exact hz.elim
        | _ => exact hy.elim
    | _ => exact hx.elim
end
def kvS (kvs : List (Str × Str)) : List (Key × V) := kvs.map fun kv => (Sum.inr kv.1, V.str kv.2)
def mDs (kvs : List (Str × Str)) : Env → R ((Mk × List D) × Env) := fun Γ => .ok ((.k (kvs.map fun kv => Sum.inr kv.1), kvs.map fun kv => .str kv.2), Γ)
theorem kvS_zip : ∀ kvs : List (Str × Str), kvS kvs = (kvs.map fun kv => (Sum.inr kv.1 : Key)).zip (kvs.map fun kv => V.str kv.2)
  | [] => rfl
  | kv :: r => by
    show (Sum.inr kv.1, V.str kv.2) :: kvS r = _
    rw [kvS_zip r]; rfl
theorem rpS {K : PySem.W.Frag} {F : Hp} : ∀ kvs : List (Str × Str), RpA K F (kvs.map fun kv => V.str kv.2) (kvs.map fun kv => D.str kv.2)
  | [] => .nil
  | kv :: r => .cons (.str _) (rpS r)
section
variable {X : Cx} {W : WX} {pos : Pos}
theorem sd_dispS (kvs : List (Str × Str)) {keys : List (Option Expr)} {values : List Expr} {trs : List (TE × TE)} (hp : PPs X pos keys values trs) (ht : ∀ σ H Q, Q (kvs.map fun kv => (V.str kv.1, V.str kv.2)) H → tPairs trs σ H Q)
    (hm : mergeK [] (kvS kvs) = kvS kvs) (hkl : kvs.length ≤ 15 := by decide) (hall : keys.all (·.isSome) = true := by rfl) (hl : keys.length = values.length := by rfl) (h0 : keys ≠ [] := by simp) (h15 : keys.length ≤ 15 := by decide) :
    SD X W (.Dict keys values pos) (mDs kvs) := by
  refine ⟨_, pe_disp hp hall hl h0 h15, fun a0 G Γ σ H F Q r hk => ?_⟩
  intro p hH
  refine ht _ _ _ ⟨upd_same, kvS kvs, by simp [kvS, kV], by simpa [kvS] using hkl, ?_⟩
  rw [upd_upd, hm]
  obtain ⟨hG, r1⟩ := r.newT' (o := .dK (kvS kvs)) hH rfl
  exact hk p _ (kvs.map fun kv => V.str kv.2) _ F (Ex.refl F) hG r1 (congrArg HO.dK (kvS_zip kvs)) (by show (kvs.map _).length = (kvs.map _).length; simp) (rpS kvs)
end
section
variable {P : Program} {w : World} {K : PySem.W.Frag} {mg : Str → Option Value} {base : Heap} {CX : L2.CXT} {k n : Nat} {f : Addr} {fd : FuncData} {ps : List Str}
theorem fn_noP : FnOk P w K mg base CX k f fd ps (spP K mg n fun _ => .bad) :=
  ⟨fun _ _ _ _ ⟨_, _, _, _, _, _, z⟩ => z.elim, fun _ _ _ _ _ _ _ _ _ _ _ _ _ ⟨_, _, _, _, _, _, z⟩ => z.elim⟩
theorem fn_noI : FnOk P w K mg base CX k f fd ps (spI K mg n fun _ _ => .bad) :=
  ⟨fun _ _ _ _ ⟨_, _, _, _, _, _, _, _, _, _, _, _, _, _, _, z⟩ => z.elim, fun _ _ _ _ _ _ _ _ _ _ _ _ _ ⟨_, _, _, _, _, _, _, _, _, _, _, _, _, _, _, z⟩ => z.elim⟩
end
end Rg
namespace Rg
open PySem PySem.Spec PyProof.Rows L2 LamX
section
variable {X : Cx} {W : WX} {e : Expr} {mas : Env → R (List BV × Env)} {pos : Pos}
end
end Rg
namespace Rg
open PySem PySem.Spec PyProof.Rows L2 LamX
structure FnR (Ro : Around → Prop) (P : Program) (w : World) (K : PySem.W.Frag) (mg : Str → Option Value) (base : Heap) (CX : CXT) (f : Addr) (fd : FuncData) (ps : List Str) (sp : Sp) : Prop where
  len : ∀ vs H Q E, sp vs H Q E → vs.length = ps.length
  run : ∀ (A : Around) (outer : List PySem.Env) (s : Shared) (H : Hp) (args : Args) (us : List Value) (vs : List V) (Q : VK) (E : XK), Ro A → Env0 P w K mg base A outer s H → BindsTo s fd args (ps.zip us) → Vals vs us →
    sp vs H Q E → codeAny (model P w) A (.call (.ref f) args) (CR CX outer P w H s Q E) s
structure RoomD (n : Nat) (A : Around) : Prop where
  hd : A.handled = none
  dp : A.depth + n + 40 < recursionLimit
  un : A.units + 4 * n + 600 < cLine
section
variable {n k : Nat} {A : Around}
theorem RoomD.deeper (r : RoomD (n + 1) A) (env : PySem.Env) : RoomD n (A.deeper env) := ⟨r.hd, by
  have := r.dp
  show A.depth + 1 + n + 40 < _
  omega, by
  have := r.un
  show A.units + 3 + 4 * n + 600 < _
  omega⟩
theorem RoomD.of (r : Room k A) (h : n + 40 ≤ 3 * k + 5) (h2 : 4 * n + 600 ≤ 16 * k + 200) : RoomD n A := ⟨r.hd, by have := r.dp; omega, by have := r.un; omega⟩
theorem RoomD.mono {j : Nat} (r : RoomD n A) (h : j ≤ n) : RoomD j A := ⟨r.hd, by have := r.dp; omega, by have := r.un; omega⟩
end
section
variable {P : Program} {w : World} {K : PySem.W.Frag} {mg : Str → Option Value} {base : Heap} {CX : CXT} {Ro : Around → Prop} {k : Nat} {f : Addr} {fd : FuncData} {ps : List Str} {sp : Sp}
theorem FnR.ok (F : FnR Ro P w K mg base CX f fd ps sp) (h : ∀ A, Room k A → Ro A) : FnOk P w K mg base CX k f fd ps sp :=
  ⟨F.len, fun A o s H args us vs Q E r => F.run A o s H args us vs Q E (h A r)⟩
end
section
variable {X : Cx} {CX : CXT} {Ro : Around → Prop} {f C : Addr} {fd : FuncData} {ps : List Str} {sp : Sp} {E : XK}
variable {W : WX} {p1 apos pos : Pos}
end
section
variable {P : Program} {w : World} {K : PySem.W.Frag} {mg : Str → Option Value} {base : Heap} {n : Nat} {f : Addr} {fd : FuncData} {x : Str} {qual : Str} {N ps : List Str} {j : Nat} {m : Rg.Env → R Fl}
end
end Rg
namespace Rg
open PySem PySem.Spec PyProof.Rows L2 LamX
section
variable {prog : Program} {w : World} {A : Around} {E : Value → Shared → Prop} {s : Shared}
theorem star_items {t : Addr} {items : Array Value} {i : Nat} {Q : List Value → Shared → Prop} (hh : A.handled = none) (ht : IsTup s.heap t items) (hi : i ≤ items.size) (hz : items.size ≤ 16384)
    (hQ : ∀ (g : Heap) (tk : Nat), (∀ b o, s.heap.get? b = some o → g.get? b = some o) → Q (items.toList.take i ++ [Value.ref g.objs.size]) { s with heap := g.push { cls := .type "list", data := .seq (items.toList.drop i).toArray 0 }, toks := tk }) :
    wpAny (model prog w) A (unpackItems (.ref t) (i + 1) (some i)) Q E s := by
  have hlt : t < s.heap.objs.size := by
    obtain ⟨o, h, _⟩ := ht
    exact Heap.lt_size h
  have hne : t ≠ s.heap.objs.size := Nat.ne_of_lt hlt
  have h1 : wpAny (model prog w) A (notIterableAtAll (.ref t)) (fun b s2 => b = false ∧ s2 = s) E s := by
    unfold notIterableAtAll
    refine wpAny_bind (wpAny_specialOf ht.typeIs slot_tuple_iter.lookup ?_)
    exact wpAny_pure ⟨rfl, rfl⟩
  unfold unpackItems
  refine wpAny_bind (wpAny_mono h1 ?_ fun _ _ h => h)
  rintro b s2 ⟨rfl, rfl⟩
  dsimp only
  rw [if_neg (fun z => Bool.noConfusion z)]
  refine wpAny_bind (wpAny_holding (iter_tuple ht ?_))
  -- the first ones
  refine wpAny_bind (wpAny_holding (draw_tuple hne i 0 _ _ ⟨_, Heap.get?_push_size _ rfl, rfl, rfl⟩ (ht.push _) (by omega) ?_))
  intro g1 it1 sb1
  rw [Nat.zero_add] at it1
  have t1 : IsTup g1 t items := (ht.push _).extBut sb1.extBut hne
  have len1 : ((items.toList.drop 0).take i).length = i := by rw [List.drop_zero, List.length_take, Array.length_toList]; omega
  rw [if_neg (by rw [len1]; omega)]
  have sz1 : s2.heap.objs.size < g1.objs.size := by
    obtain ⟨o, h, _⟩ := it1
    exact Heap.lt_size h
  have sz2 : t < g1.objs.size := by
    obtain ⟨o, h, _⟩ := t1
    exact Heap.lt_size h
  -- the others
  refine wpAny_bind (wpAny_holding (PySem.W.kun_collect (s := { s2 with heap := g1 }) (T := "tuple_iterator") (Or.inr (Or.inr (Or.inr rfl))) (Walks.tuple (A := A.in1) hh s2.heap.objs.size t hne items) (fun _ _ st => st.1.typeIs) hi ⟨it1, t1⟩ sz1 sz2 ?_ (by rw [sizeLine_eq]; omega)))
  intro g2 tk kept
  have all : ∀ b o, s2.heap.get? b = some o → g2.get? b = some o := fun b o h => by
    have hb : b ≠ s2.heap.objs.size := Nat.ne_of_lt (Heap.lt_size h)
    exact kept b o hb (sb1.extBut b o hb (Heap.get?_push_of_some _ h))
  have more : (items.toList.drop i).length = items.size - i := by rw [List.length_drop, Array.length_toList]
  have none_left : i + 1 - 1 - i = 0 := by omega
  simp only [none_left, Nat.not_lt_zero, if_false, Nat.sub_zero, List.drop_zero, List.take_length, List.drop_length, List.append_nil]
  refine wpAny_bind (wpAny_newList (s := { s2 with heap := g2, toks := tk }) (wpAny_pure ?_) (by rw [more, sizeLine_eq]; omega))
  exact hQ g2 tk all
end
def gStar (K : PySem.W.Frag) (i j l : Nat) : TG := fun v σ H Q => ∃ a x y rest, v = .ref a ∧ SqT K H a (x :: y :: rest) ∧ (x :: y :: rest).length ≤ 16384 ∧ ∀ p, H p = none → Q (((σ.set i (some x)).set j (some y)).set l (some (.ref p))) (upd H p (.lst rest))
section
variable {X : Cx} {W : WX} {pos : Pos} {me : Rg.Env → R (BV × Rg.Env)} {e : Expr}
theorem pg_star {i j l : Nat} {x y z : Str} {px py pz ps : Pos} {kt : Nat} (hc : X.calm = true) (hN : X.N.Nodup) (hi : X.N[i]? = some x) (hj : X.N[j]? = some y) (hl : X.N[l]? = some z) (hx : Loc X.env.scope x) (hy : Loc X.env.scope y) (hz : Loc X.env.scope z)
    (hfx : X.fn x = true ∨ X.env.scope.names.lookup x = some .local) (hfy : X.fn y = true ∨ X.env.scope.names.lookup y = some .local) (hfz : X.fn z = true ∨ X.env.scope.names.lookup z = some .local) :
    PG X (.Tuple [.Name x px, .Name y py, .Starred (.Name z pz) ps] kt pos) (gStar X.K i j l) := by
  have three : PGs X [.Name x px, .Name y py, .Name z pz] (gCons (gName i) (gCons (gName j) (gCons (gName l) gNil))) := pgs_cons (pg_name hN hi hx hfx) (pgs_cons (pg_name hN hj hy hfy) (pgs_cons (pg_name hN hl hz hfz) pgs_nil))
  constructor
  rintro pins s σ H v u Q I r ⟨a, b, c, rest, rfl, hq, hlen, h⟩
  have hu : u = Value.ref a := r
  subst hu
  obtain ⟨its, rv, ht, _⟩ := I.tuple hq
  have hs : its.toArray.size = rest.length + 2 := by rw [List.size_toArray, ← rv.length]; rfl
  rw [assign_Tuple]
  refine wpAny_bind (wpAny_standAt ?_)
  show wpAny _ _ (holding [Value.ref a] (unpackItems (.ref a) 3 (some 2)) >>= fun vs => assignInOrder ((assignEach [.Name x px, .Name y py, .Name z pz] X.env).map (·.2)) vs) _ _ _
  refine wpAny_bind (wpAny_holding (star_items (i := 2) (I.ok.hd hc) ht (by omega) (by rw [hs]; simpa using hlen) ?_))
  intro g tk kept
  cases rv with
  | cons r1 rv =>
    cases rv with
    | cons r2 rv =>
      rename_i u1 _ u2 us
      have I1 : Inv X pins σ H { s with heap := g, toks := tk } := I.kept kept
      have free : H g.objs.size = none := I1.hok.fresh (Nat.le_refl _)
      have new : ObjOk X.prog X.w (upd H g.objs.size (.lst rest)) (g.push { cls := .type "list", data := .seq (us.toArray) 0 }) g.objs.size (.lst rest) := by
        refine ⟨?_, us, 0, rv, Heap.get?_push_size _ rfl⟩
        have : rest.length ≤ 16384 := by simp at hlen; omega
        rw [sizeLine_eq]; omega
      have I2 : Inv X pins σ (upd H g.objs.size (.lst rest)) { s with heap := g.push { cls := .type "list", data := .seq (us.toArray) 0 }, toks := tk } :=
        I1.laid (t' := tk) (fun b u e => Heap.get?_push_of_some _ e) (Nat.le_refl _) new
      have q := h g.objs.size free
      exact three.run pins _ σ _ [b, c, .ref g.objs.size] _ Q I2 (.cons r1 (.cons r2 (.cons rfl .nil))) ⟨b, _, rfl, c, _, rfl, .ref g.objs.size, _, rfl, rfl, q⟩
def mStar (i j l : Nat) (m : Rg.Env → R (BV × Rg.Env)) : Rg.Env → R Fl := fun Γ => (mFz1 m Γ).bind fun x => match x.1 with
  | .tup (a :: b :: rest) => if 0 < l ∧ rest.length ≤ 10000 then .ok (.nx (((x.2.set i (.v a)).set j (.v b)).set l (.o rest))) else .bad
  | _ => .bad
theorem ss_star (i j l : Nat) {x y z : Str} {px py pz pt pe : Pos} {kt : Nat} (hc : X.calm = true) (hN : X.N.Nodup) (he : SX X W e me) (hi : X.N[i]? = some x := by rfl) (hj : X.N[j]? = some y := by rfl) (hl : X.N[l]? = some z := by rfl)
    (hx : Loc X.env.scope x := by first | exact Or.inl rfl | exact Or.inr rfl) (hy : Loc X.env.scope y := by first | exact Or.inl rfl | exact Or.inr rfl) (hz : Loc X.env.scope z := by first | exact Or.inl rfl | exact Or.inr rfl)
    (hfx : X.fn x = true ∨ X.env.scope.names.lookup x = some .local := by first | exact .inl rfl | exact .inr rfl | assumption) (hfy : X.fn y = true ∨ X.env.scope.names.lookup y = some .local := by first | exact .inl rfl | exact .inr rfl | assumption) (hfz : X.fn z = true ∨ X.env.scope.names.lookup z = some .local := by first | exact .inl rfl | exact .inr rfl | assumption)
    (hs : swapsWithSole [.Tuple [.Name x px, .Name y py, .Starred (.Name z pz) pe] kt pt] e pos.line X.env = pure false := by rfl) (hw : swappedStores [.Tuple [.Name x px, .Name y py, .Starred (.Name z pz) pe] kt pt] e X.env = pure none := by rfl)
    (h1 : (assignEach [.Tuple [.Name x px, .Name y py, .Starred (.Name z pz) pe] kt pt] X.env).map (·.2) = [assign (.Tuple [.Name x px, .Name y py, .Starred (.Name z pz) pe] kt pt) X.env] := by rfl) :
    SS X W (.Assign [.Tuple [.Name x px, .Name y py, .Starred (.Name z pz) pe] kt pt] e pos) (mStar i j l me) := by
  obtain ⟨t, p, s⟩ := he
  refine ⟨_, ps_asg p (pg_star hc hN hi hj hl hx hy hz hfx hfy hfz) hs hw h1, fun a0 G Γ σ H F E r h => ?_⟩
  refine sdX_fz s r (okG_bind h fun y _ hy v H1 F1 e1 r1 hv => ?_)
  obtain ⟨d, Γ1⟩ := y
  dsimp only at hy hv r1
  split at hy
  · rename_i da db rest
    split at hy
    · rename_i hlr
      cases hv with
      | tup ht ha =>
        cases ha with
        | cons h1 ha =>
          cases ha with
          | cons h2 ha =>
            refine ⟨_, _, _, _, rfl, Evl.ex_t r1.wd.f ht, ?_, fun q hq => ?_⟩
            · simp only [List.length_cons]
              have := ha.length
              omega
            · obtain ⟨hG, r2⟩ := r1.newT (vs := _) hq
              exact hy _ _ F1 e1 (Rel.seto hlr.1 hG ((r2.setv h1).setv h2) ha)
    · exact hy.elim
  · exact hy.elim
theorem sx_globTS {x : Str} {a : Addr} {ns : List Str} (hg : Gl X x) (hm : X.mg x = some (.ref a)) (hT : ∀ F, SqT X.K F a (ns.map V.str)) (hd : (x == ("__debug__" : Str)) = false := by decide) : SX X W (.Name x pos) (mK (.tup (ns.map D.str))) :=
  ⟨_, pe_glob hg hm (v := .ref a) rfl hd, fun a0 G Γ σ H F Q r hk => hk (.ref a) H F (Ex.refl F) r (.tup (hT F) (rp_strs ns))⟩
end
theorem lk_rel {env : PySem.Env} : ∀ {ns : List (Str × NameKind)} {x : Str}, ns.lookup x = some .cell ∨ ns.lookup x = some .free →
    (ns.map fun (n, k) => if (k == NameKind.free && env.scope.kind == .function && env.kindOf n == some .cell) then (n, NameKind.cell) else (n, k)).lookup x = some .cell ∨ (ns.map fun (n, k) => if (k == NameKind.free && env.scope.kind == .function && env.kindOf n == some .cell) then (n, NameKind.cell) else (n, k)).lookup x = some .free
  | [], _, h => by simp at h
  | (n, k) :: r, x, h => by
    have ih := @lk_rel env r x
    rw [List.map_cons]
    dsimp only
    by_cases hc : (k == NameKind.free && env.scope.kind == .function && env.kindOf n == some .cell) = true
    · rw [if_pos hc]
      cases hx : x == n with
      | true => left; simp only [List.lookup_cons, hx]
      | false =>
        simp only [List.lookup_cons, hx] at h ⊢
        exact ih h
    · rw [if_neg hc]
      cases hx : x == n with
      | true =>
        simp only [List.lookup_cons, hx] at h ⊢
        exact h
      | false =>
        simp only [List.lookup_cons, hx] at h ⊢
        exact ih h
theorem lamS_blk {csc scope : Scope} {env : PySem.Env} (h : LamX.lamSB csc scope = true) : LamX.LamS (relabel csc env) scope :=
  have L := LamX.lamS_by h
  ⟨L.kind, L.co, L.gen, L.own, fun y hy e => lk_rel (L.free y hy e)⟩
end Rg
namespace Rg
open PySem PySem.Spec PyProof.Rows L2 LamX
section
variable {X : Cx}
end
instance : Inhabited LamB := ⟨⟨default, default, default, default⟩⟩
structure LamF (X : Cx) (k : Nat) (b : LamB) (m : Env → R (BV × Env)) : Prop where
  q : X.env.qual ++ "<lambda>" = b.qual
  l : LamS X.env.scope b.scope
  bind : ∀ (q : Str) (cl : Cells) (pm cv ctv : Value), bindArgs (PySem.W.kla_fn "<lambda>" q b.params b.body b.scope cl pm cv ctv) ⟨[], []⟩ = pure []
  body : ∀ (A : Around) (outer : List PySem.Env) (s : Shared) (H : Hp) (E : XK) (f c : Addr), Room k (A.deeper (lamEnv X b.scope s.heap.objs.size f c)) → SX (lamCx X A outer s H E b.scope f c) (WE E) b.body m
inductive LamT (X : Cx) (k : Nat) : List LamB → List (Env → R (BV × Env)) → Prop
  | nil : LamT X k [] []
  | cons {b : LamB} {m : Env → R (BV × Env)} {bs : List LamB} {ms : List (Env → R (BV × Env))} : LamF X k b m → LamT X k bs ms → LamT X k (b :: bs) (m :: ms)
theorem LamT.len {X : Cx} {k : Nat} : ∀ {bs : List LamB} {ms : List (Env → R (BV × Env))}, LamT X k bs ms → bs.length = ms.length
  | _, _, .nil => rfl
  | _, _, .cons _ t => congrArg Nat.succ t.len
section
variable {K : PySem.W.Frag} {mg : Str → Option Value} {a0 : Addr} {G F H : Hp} {Γ : Env} {σ τ : L2.St} {w : Nat}
theorem Rel.outer (r : Rel K a0 G Γ σ H F) (hw : L2.wipe σ [w] = L2.wipe τ [w]) : Rel K a0 G (Γ.set w .no) τ H F := by
  have r1 := r.wipe [w]
  rw [hw] at r1
  exact r1.unwipe fun v hv => gt_wipeE (vs := [w]) hv
end
section
variable {X : Cx} {W : WX} {k : Nat} {g : Addr} {kn : List Str} {lt : List LamB} {ms : List (Env → R (BV × Env))} {w : Nat} {x : Str} {iter : Expr} {sc : Scope} {p1 p2 p3 px pos : Pos} {mi : Env → R (List D × Env)}
end
section
variable {X : Cx} {W : WX} {pos : Pos}
end
end Rg
namespace Rg
open PySem PySem.Spec PyProof.Rows L2 LamX
end Rg
namespace Rg
open PySem PySem.Spec PyProof.Rows L2 PySem.W
section
variable {X : Cx} {W : WX} {e : Expr} {me : Env → R (BV × Env)} {p p2 pos pos2 : Pos}
end
end Rg
namespace Rg
open PySem PySem.Spec PyProof.Rows L2 LamX PySem.W
section
variable {prog : Program} {w : World} {A : Around} {s : Shared} {E : Value → Shared → Prop} {env : PySem.Env}
end
end Rg
namespace Rg
open PySem PySem.Spec PyProof.Rows L2 LamX PySem.W
def keyP (ns : List Int) : PyData := .tuple [.int (ns.length : Int), .tuple (ns.map .int)]
def RowV (K : PySem.W.Frag) (H : Hp) (v : V) (k : PyData) : Prop := ∃ r q rest ns, v = .ref r ∧ SqT K H r (.ref q :: rest) ∧ SqT K H q (ns.map V.int) ∧ k = keyP ns
inductive RowsV (K : PySem.W.Frag) (H : Hp) : List V → List PyData → Prop
  | nil : RowsV K H [] []
  | cons {v : V} {vs : List V} {k : PyData} {ks : List PyData} : RowV K H v k → RowsV K H vs ks → RowsV K H (v :: vs) (k :: ks)
theorem RowsV.length {K : PySem.W.Frag} {H : Hp} {vs : List V} {ks : List PyData} (h : RowsV K H vs ks) : vs.length = ks.length := by
  induction h with
  | nil => rfl
  | cons _ _ ih => simp [ih]
section
variable {X : Cx} {pins : List (Addr × Obj)} {σ : L2.St} {H : Hp} {s : Shared}
end
section
variable {X : Cx} {b : LamB}
end
end Rg
namespace Rg
open PySem PySem.Spec PyProof.Rows L2 LamX PySem.W
section
variable {X : Cx} {W : WX} {e : Expr} {me : Env → R (BV × Env)}
end
end Rg
namespace Rg
open PySem PySem.Spec PyProof.Rows L2 LamX PySem.W
inductive Nlp : PyData → Prop
  | int (i : Int) : Nlp (.int i)
  | tup {ds : List PyData} : (∀ d ∈ ds, Nlp d) → Nlp (.tuple ds)
section
variable {h : Heap}
end
def keyQ (ps : List PyData) : PyData := .tuple [.int (ps.length : Int), .tuple ps]
def RowW (K : PySem.W.Frag) (H : Hp) (v : V) (k : PyData) : Prop := ∃ r q rest ws ps, v = .ref r ∧ SqT K H r (.ref q :: rest) ∧ SqT K H q ws ∧ DpAll K H ws ps ∧ (∀ p ∈ ps, Nlp p) ∧ k = keyQ ps
inductive RowsW (K : PySem.W.Frag) (H : Hp) : List V → List PyData → Prop
  | nil : RowsW K H [] []
  | cons {v : V} {vs : List V} {k : PyData} {ks : List PyData} : RowW K H v k → RowsW K H vs ks → RowsW K H (v :: vs) (k :: ks)
theorem RowsW.length {K : PySem.W.Frag} {H : Hp} {vs : List V} {ks : List PyData} (h : RowsW K H vs ks) : vs.length = ks.length := by
  induction h with
  | nil => rfl
  | cons _ _ ih => simp [ih]
section
variable {X : Cx} {pins : List (Addr × Obj)} {σ : L2.St} {H : Hp} {s : Shared}
end
section
variable {X : Cx} {b : LamB}
end
section
variable {X : Cx} {W : WX} {e : Expr} {me : Env → R (BV × Env)}
end
section
variable {X : Cx} {W : WX} {p pos : Pos} {x : Str} {k n : Nat} {f : Addr} {fd : FuncData} {ps : List Str} {c : Str}
end
end Rg
namespace Rg
open PySem PySem.Spec PyProof.Rows L2
end Rg
namespace Rg
open PySem PySem.Spec PyProof.Rows L2
variable {P : Program} {w : World} {X : Cx} {W : WX} {a b c : Expr} {ma mb mc : Env → R (BV × Env)} {pos : Pos}
end Rg
namespace Rg
open PySem PyProof.Rows L2
variable {P : Program} {w : World} {X : Cx} {W : WX} {a b c : Expr} {mas : Env → R (List BV × Env)} {pos : Pos}
end Rg
namespace Rg
open PySem L2
section
variable {X : Cx} {W : WX} {b : Expr} {pos pos1 : Pos} {mb : Env → R (BV × Env)}
end
end Rg
namespace Rg
open PySem PySem.Spec PyProof.Rows L2 PySem.W
section
variable {X : Cx}
end
end Rg
namespace Rg
open PySem PySem.Spec PyProof.Rows L2 LamX
section
variable {X : Cx} {CX : CXT} {C g : Addr} {k : Nat} {fd : FuncData} {ps : List Str} {sp : Sp} {E : XK}
end
section
variable {X : Cx} {W : WX} {e : Expr} {pos : Pos} {m : Env → R (BV × Env)} {f : Addr} {fd : FuncData} {ps : List Str} {k : Nat}
end
end Rg
namespace Rg
open PySem PySem.Spec PyProof.Rows L2 LamX
section
variable {X : Cx} {W : WX} {a b : Expr} {pos : Pos} {ma mb : Env → R (BV × Env)} {f : Addr} {fd : FuncData} {ps : List Str} {k : Nat}
end
section
variable {X : Cx} {W : WX} {e : Expr} {p pc pos : Pos} {m : Env → R (BV × Env)}
end
end Rg
namespace Rg
open PySem PySem.Spec PyProof.Rows L2
theorem hrm {a b : Nat} {A : Around} (hr : Room a A) (h : b ≤ a := by decide) : Room b A := hr.mono h
abbrev Gf (K : PySem.W.Frag) (mg : Str → Option Value) (n : Str) : Prop := mg n = some (.ref (He.fAd K (n, none)))
end Rg
namespace PySem.W
open PySem PySem.Calls PyProof.Rows PyProof.V PySem.Spec
section
variable {prog : Program} {w : World} {K : Type} [DecidableEq K] {knd : HeapKind prog w K} {A : Around} {E : Value → Shared → Prop} {s : Shared}
end
end PySem.W
namespace Rg
open PySem PySem.Spec PyProof.Rows L2 PySem.W
section
variable {X : Cx}
end
end Rg
namespace Rg
open PySem L2
section
variable {K : PySem.W.Frag} {mg : Str → Option Value} {W : WX}
end
section
variable {X : Cx} {W : WX} {pos : Pos}
end
end Rg
namespace Rg
open PySem PySem.Spec PyProof.Rows L2 LamX
structure FnC (P : Program) (w : World) (K : PySem.W.Frag) (mg : Str → Option Value) (base : Heap) (f : Addr) (fd : FuncData) (x : Str) (sp : Sp) : Prop where
  go : ∀ (st : Shared) (H : Hp) (a : Addr) (Q : VK) (E : XK), Env0 P w K mg base callerA [] st H → BindsTo st fd ⟨[.ref a], []⟩ [(x, .ref a)] → sp [.ref a] H Q E →
    codeAny (model P w) callerA (.call (.ref f) ⟨[.ref a], []⟩) (CR (L2.CX P w) [] P w H st Q E) st
theorem FnC.imp {P : Program} {w : World} {K : PySem.W.Frag} {mg : Str → Option Value} {base : Heap} {f : Addr} {fd : FuncData} {x : Str} {sp sp' : Sp} (F : FnC P w K mg base f fd x sp) (h : ∀ vs H Q E, sp' vs H Q E → sp vs H Q E) : FnC P w K mg base f fd x sp' :=
  ⟨fun st H a Q E e b q => F.go st H a Q E e b (h _ _ _ _ q)⟩
section
variable {P : Program} {w : World} {K : PySem.W.Frag} {mg mb : Str → Option Value} {fa a : Addr} {cs : List (Addr × Addr)} {fd : FuncData} {x : Str} {sp : Sp} {s1 : Shared} {vs : List Value} {ns : List Int}
end
end Rg
namespace Rg
open PySem PySem.Spec PyProof.Rows L2 LamX
section
variable {X : Cx}
end
end Rg
namespace Rg
open PySem L2
end Rg
namespace Rg
open PySem PySem.Spec PyProof.Rows L2 LamX
def TPut (K : PySem.W.Frag) (H : Hp) (a : Addr) (y v : V) (R : Hp → Prop) : Prop :=
  (∃ φ kvs i, H a = some (.ext φ) ∧ (∀ h, φ h → DKp a kvs h) ∧ y = .int i ∧ kvs.length < sizeLine ∧ (∀ q ∈ kvs, ∃ j, q.1 = .inl j) ∧
    ∀ ψ, isTw (.ext ψ) → (∀ h, ψ h → DKp a (putK kvs (.inl i) v) h) → R (upd H a (.ext ψ))) ∨
  (∃ φ B kvs k b, H a = some (.ext φ) ∧ (∀ h, φ h → DTp a B kvs h) ∧ KyOk K H B ∧ y = .ref b ∧ SqT K H b (k.map kV) ∧ kvs.length < sizeLine ∧ (∀ q ∈ kvs, intK q.1) ∧ intK k ∧
    ∀ ψ, isTw (.ext ψ) → (∀ h, ψ h → DTp a (upd B b (.tup (k.map kV))) (putK kvs k v) h) → R (upd H a (.ext ψ)))
section
variable {X : Cx} {pins : List (Addr × Obj)} {σ : L2.St} {H H' : Hp} {s : Shared} {a : Addr} {y v d : V} {u r : Value} {o : Option V} {A : Around} {E : Value → Shared → Prop} {φ : Heap → Prop} {B : Hp} {kvs : List (List Key × V)}
end
def TK.kd : TK → D
  | .o i => .int i
  | .l i j => .tup [.int i, .int j]
def TK.r (r1 r2 : Addr) : TK → Addr
  | .o _ => r1
  | .l _ _ => r2
theorem TPut.imp {K : PySem.W.Frag} {H : Hp} {a : Addr} {y v : V} {R R' : Hp → Prop} (h : TPut K H a y v R) (k : ∀ H', R H' → R' H') : TPut K H a y v R' := by
  rcases h with ⟨φ, kvs, i, a1, a2, a3, a4, a5, a6⟩ | ⟨φ, B, kvs, q, b, a1, a2, a3, a4, a5, a6, a7, a8, a9⟩
  · exact .inl ⟨φ, kvs, i, a1, a2, a3, a4, a5, fun ψ h1 h2 => k _ (a6 ψ h1 h2)⟩
  · exact .inr ⟨φ, B, kvs, q, b, a1, a2, a3, a4, a5, a6, a7, a8, fun ψ h1 h2 => k _ (a9 ψ h1 h2)⟩
section
variable {X : Cx} {oe i value : Expr} {pos pos' : Pos} {td ty tv : TE}
end
def TK.at (Γ : Env) : TK → Prop
  | .o i => gt Γ 1 = .v (.int i)
  | .l i j => gt Γ 1 = .v (.int i) ∧ gt Γ 2 = .v (.int j)
section
variable {K : PySem.W.Frag} {mg : Str → Option Value} {a0 : Addr} {G F H : Hp} {Γ : Env} {σ : L2.St} {W : WX}
end
section
variable {X : Cx} {W : WX} {st : Stmt} {ke1 ke2 ke3 fe1 fe2 fe3 value : Expr} {sp2 sp3 cp ap ip rp p1 pos p2 : Pos} {me : Env → R (BV × Env)} {mB : Env → R Fl} {pick : Env → Option (Int × TK)}
end
end Rg
namespace Rg
open PySem PySem.Spec PyProof.Rows L2 LamX
section
variable {X : Cx} {pos : Pos}
end
section
variable {K : PySem.W.Frag} {a0 : Addr} {G : Hp} {Γ : Env} {σ : L2.St} {H F : Hp}
end
section
variable {K : PySem.W.Frag} {mg : Str → Option Value} {G F H : Hp} {N ps : List Str} {c : Str} {m1 m2 : Env → R Fl}
end
section
variable {P : Program} {w : World} {K : PySem.W.Frag} {mg : Str → Option Value} {base : Heap} {x qual : Str} {f : Addr} {fd : FuncData} {N ps : List Str} {k : Nat} {m1 m2 : Env → R Fl} {c : Str}
end
end Rg
namespace Rg
open PySem PySem.Spec PyProof.Rows L2 LamX Mn
end Rg
namespace Rg
open PySem PySem.Spec PyProof.Rows L2
def PRPr (K : PySem.W.Frag) (G F : Hp) (Q : VK) : D × List D → Prop := fun z => ∀ t v q us H' F', Ex F F' → G q = none → Wd K F' (upd G q (.lst us)) H' → H' t = some (.tup [v, .ref q]) → Rp K F' v z.1 → RpA K F' us z.2 → Q (.ref t) H'
theorem PRPr.mono {K : PySem.W.Frag} {G F F1 : Hp} {Q : VK} {z : D × List D} (e : Ex F F1) (h : PRPr K G F Q z) : PRPr K G F1 Q z := fun t v q us H' F' e' => h t v q us H' F' (Ex.trans e e')
section
variable {X : Cx} {W : WX} {st : Stmt} {sts : List Stmt} {a b e : Expr} {es : List Expr} {pos : Pos} {m ms : Env → R Fl} {mt : Env → R (D × List D)} {ma mb : Env → R (BV × Env)} {mas mks : Env → R (List BV × Env)}
end
section
variable {P : Program} {w : World} {K : PySem.W.Frag} {mg : Str → Option Value} {base : Heap} {x qual : Str} {f : Addr} {fd : FuncData} {N ps : List Str} {k n j : Nat} {m : Env → R (D × List D)}
end
section
variable {X : Cx} {W : WX} {e : Expr} {es : List Expr} {pos : Pos} {mas mks : Env → R (List BV × Env)}
end
noncomputable def mrg (g : Addr → Env) : Env := (List.range (g 0).length).map fun j => @ite _ (∀ q, gt (g q) j = gt (g 0) j) (Classical.propDecidable _) (gt (g 0) j) .no
theorem gt_map (h : Nat → Sl) : ∀ (n a j : Nat), gt ((List.range' a n).map h) j = if j < n then h (a + j) else .no
  | 0, a, j => by simp [gt]
  | n + 1, a, 0 => by simp [List.range', gt]
  | n + 1, a, j + 1 => by
    rw [List.range'_succ, List.map_cons]
    show gt ((List.range' (a + 1) n).map h) j = _
    rw [gt_map h n (a + 1) j]
    by_cases c : j < n
    · rw [if_pos c, if_pos (by omega), show a + 1 + j = a + (j + 1) by omega]
    · rw [if_neg c, if_neg (by omega)]
theorem gt_ge : ∀ {Γ : Env} {j : Nat}, Γ.length ≤ j → gt Γ j = .no
  | [], _, _ => rfl
  | _ :: _, 0, h => by simp at h
  | _ :: Γ, j + 1, h => gt_ge (Γ := Γ) (by simpa using h)
theorem gt_mrg {g : Addr → Env} {j : Nat} : gt (mrg g) j = .no ∨ ∀ q, gt (g q) j = gt (mrg g) j := by
  unfold mrg
  rw [List.range_eq_range', gt_map]
  by_cases c : j < (g 0).length
  · rw [if_pos c, Nat.zero_add]
    by_cases d : ∀ q, gt (g q) j = gt (g 0) j
    · rw [if_pos d]; exact .inr d
    · rw [if_neg d]; exact .inl rfl
  · rw [if_neg c]; exact .inl rfl
theorem mrg_len {g : Addr → Env} : (mrg g).length = (g 0).length := by unfold mrg; simp
section
variable {K : PySem.W.Frag} {mg : Str → Option Value} {a0 : Addr} {G F H : Hp} {Γ : Env} {σ : L2.St} {W : WX}
theorem RelO.wk {Γ2 : Env} (r : RelO K a0 G Γ σ H F) (hl : Γ2.length = Γ.length) (h : ∀ j, gt Γ2 j = .no ∨ gt Γ2 j = gt Γ j) : RelO K a0 G Γ2 σ H F := by
  obtain ⟨O, ad, x⟩ := r
  have key : ∀ {j s}, gt Γ2 j = s → s ≠ .no → gt Γ j = s := fun {j s} q n => by
    rcases h j with c | c
    · rw [c] at q; exact absurd q.symm n
    · rw [← c]; exact q
  have ko : ∀ {j}, ownd (gt Γ2 j) = true → gt Γ2 j = gt Γ j := fun {j} q => by
    rcases h j with c | c
    · rw [c] at q; cases q
    · exact c
  refine ⟨O, ad, ⟨x.wd, x.o, x.fo, x.go, fun j d q => x.v j d (key q (by simp)), fun j q => ?_, fun j k q1 q2 q3 => x.inj j k (by rw [← ko q1]; exact q1) (by rw [← ko q2]; exact q2) q3, fun q => x.z (by rw [← ko q]; exact q), by rw [hl]; exact x.len, x.ol⟩⟩
  rw [ko q]
  exact x.own j (by rw [← ko q]; exact q)
theorem Rel.wk {Γ2 : Env} (r : Rel K a0 G Γ σ H F) (hl : Γ2.length = Γ.length) (h : ∀ j, gt Γ2 j = .no ∨ gt Γ2 j = gt Γ j) : Rel K a0 G Γ2 σ H F := by
  obtain ⟨S, si, d, x⟩ := r
  refine ⟨S, si.to (Ex.refl F) fun c ns ds w q => ?_, d, x.wk hl h⟩
  rcases h 0 with c' | c'
  · rw [c'] at q; cases q
  · exact ⟨c'.symm, rfl⟩
theorem set_self {i : Nat} {v : Option V} (h : σ[i]? = some v) : σ.set i v = σ := by
  obtain ⟨hi, e⟩ := List.getElem?_eq_some_iff.mp h
  rw [← e]
  exact List.set_getElem_self hi
theorem Rel.back {i : Nat} {q : Addr} {vs : List V} {xs : List D} {g : Addr → Env} (hi : 0 < i) (hG : G q = none) (r : Rel K a0 (upd G q (.lst vs)) (g q) σ H F) (hq : gt (g q) i = .v (.adr q)) (hl : ∀ q, (g q).length = (g 0).length) (h : RpA K F vs xs) : Rel K a0 G ((mrg g).set i (.o xs)) σ H F := by
  obtain ⟨v, h1, h2⟩ := r.getv hq
  cases h2
  have r2 := Rel.seto hi hG r h
  rw [set_self h1] at r2
  refine r2.wk (by rw [List.length_set, List.length_set, mrg_len, hl q]) fun j => ?_
  by_cases hj : j = i
  · subst hj
    by_cases c : j < (g q).length
    · rw [gt_set_same c, gt_set_same (by rw [mrg_len, ← hl q]; exact c)]; exact .inr rfl
    · have c2 : (mrg g).length ≤ j := by rw [mrg_len, ← hl q]; omega
      rw [List.set_eq_of_length_le c2, gt_ge c2]; exact .inl rfl
  · rw [gt_set_ne hj, gt_set_ne hj]
    rcases gt_mrg (g := g) (j := j) with c | c
    · exact .inl c
    · exact .inr (c q).symm
end
section
variable {X : Cx} {W : WX} {mb : Env → R Fl} {pos : Pos}
end
section
variable {X : Cx} {W : WX} {elt tg iter c : Expr} {scope : Scope} {pos spos : Pos} {mi : Env → R (List D × Env)} {f : D → Env → Option Env} {ws : List Nat} {me : Env → R (BV × Env)}
end
end Rg
namespace Rm
def cf (a : List Int) (k : Nat) : Int := a.getD k 0
theorem cf_nil (k : Nat) : cf [] k = 0 := by simp [cf]
theorem cf_zero (x : Int) (a : List Int) : cf (x :: a) 0 = x := rfl
theorem cf_succ (x : Int) (a : List Int) (k : Nat) : cf (x :: a) (k + 1) = cf a k := by simp [cf]
theorem cf_ge {a : List Int} {k : Nat} (h : a.length ≤ k) : cf a k = 0 := by simp [cf, List.getD_eq_getElem?_getD, List.getElem?_eq_none h]
theorem cf_lt {a : List Int} {k : Nat} (h : k < a.length) : cf a k = a[k] := by simp [cf, List.getD_eq_getElem?_getD, List.getElem?_eq_getElem h]
theorem cf_get? {a : List Int} {k : Nat} (h : k < a.length) : a[k]? = some (cf a k) := by rw [List.getElem?_eq_getElem h, cf_lt h]
theorem cf_append_l {a b : List Int} {k : Nat} (h : k < a.length) : cf (a ++ b) k = cf a k := by
  simp [cf, List.getD_eq_getElem?_getD, List.getElem?_append_left h]
theorem cf_append_r {a b : List Int} {k : Nat} (h : a.length ≤ k) : cf (a ++ b) k = cf b (k - a.length) := by
  simp [cf, List.getD_eq_getElem?_getD, List.getElem?_append_right h]
theorem cf_replicate (n k : Nat) : cf (List.replicate n 0) k = 0 := by
  simp only [cf, List.getD_eq_getElem?_getD, List.getElem?_replicate]
  split <;> rfl
theorem cf_map (f : Int → Int) (h0 : f 0 = 0) (a : List Int) (k : Nat) : cf (a.map f) k = f (cf a k) := by
  simp only [cf, List.getD_eq_getElem?_getD, List.getElem?_map]
  cases a[k]? <;> simp [h0]
theorem cf_set {a : List Int} {i k : Nat} {x : Int} (h : i < a.length) : cf (a.set i x) k = if k = i then x else cf a k := by
  by_cases e : k = i
  · subst e; simp [cf, List.getD_eq_getElem?_getD, h]
  · simp [cf, List.getD_eq_getElem?_getD, List.getElem?_set_ne (Ne.symm e), e]
theorem cf_take {a : List Int} {n k : Nat} : cf (a.take n) k = if k < n then cf a k else 0 := by
  simp only [cf, List.getD_eq_getElem?_getD, List.getElem?_take]
  split <;> rfl
def trim : List Int → List Int
  | [] => []
  | x :: a => if x = 0 ∧ trim a = [] then [] else x :: trim a
theorem trim_cf : ∀ (a : List Int) (k : Nat), cf (trim a) k = cf a k
  | [], _ => rfl
  | x :: a, k => by
    simp only [trim]
    split
    · rename_i h
      rw [cf_nil]
      cases k with
      | zero => rw [cf_zero, h.1]
      | succ k => rw [cf_succ, ← trim_cf a k, h.2, cf_nil]
    · cases k with
      | zero => rfl
      | succ k => rw [cf_succ, cf_succ, trim_cf a k]
theorem trim_nil_of {a : List Int} (h : ∀ k, cf a k = 0) : trim a = [] := by
  induction a with
  | nil => rfl
  | cons x a ih =>
    have h0 : x = 0 := h 0
    have h1 := ih fun k => by rw [← cf_succ x a k]; exact h (k + 1)
    simp [trim, h0, h1]
theorem trim_ext : ∀ {a b : List Int}, (∀ k, cf a k = cf b k) → trim a = trim b
  | [], b, h => by rw [trim_nil_of (a := b) fun k => by rw [← h k, cf_nil]]; rfl
  | x :: a, [], h => by rw [trim_nil_of (a := x :: a) fun k => by rw [h k, cf_nil]]; rfl
  | x :: a, y :: b, h => by
    have e : x = y := h 0
    have ih : trim a = trim b := trim_ext fun k => by rw [← cf_succ x a k, h (k + 1), cf_succ]
    simp [trim, e, ih]
theorem trim_trim (a : List Int) : trim (trim a) = trim a := trim_ext (trim_cf a)
theorem trim_length_le : ∀ a : List Int, (trim a).length ≤ a.length
  | [] => Nat.le_refl _
  | x :: a => by
    have := trim_length_le a
    simp only [trim]
    split <;> simp <;> omega
theorem trim_mem : ∀ {a : List Int} {x : Int}, x ∈ trim a → x ∈ a
  | [], _, h => by simp [trim] at h
  | y :: a, x, h => by
    simp only [trim] at h
    split at h
    · simp at h
    · rcases List.mem_cons.mp h with h | h
      · rw [h]; exact List.mem_cons_self ..
      · exact List.mem_cons_of_mem _ (trim_mem h)
theorem trim_eq_of_ext {a b : List Int} (ha : trim a = a) (hb : trim b = b) (h : ∀ k, cf a k = cf b k) : a = b := by rw [← ha, ← hb]; exact trim_ext h
theorem trim_last {a : List Int} (h : trim a = a) (hn : a ≠ []) : cf a (a.length - 1) ≠ 0 := by
  induction a with
  | nil => exact absurd rfl hn
  | cons x a ih =>
    cases a with
    | nil =>
      intro z
      have z : x = 0 := z
      simp [trim, z] at h
    | cons y b =>
      have h2 : trim (y :: b) = y :: b := by
        rw [trim] at h
        split at h
        · cases h
        · exact (List.cons.inj h).2
      have := ih h2 (by simp)
      simpa [cf] using this
def pad (a : List Int) (n : Nat) : List Int := a ++ List.replicate (n - a.length) 0
theorem pad_length {a : List Int} {n : Nat} (h : a.length ≤ n) : (pad a n).length = n := by simp [pad]; omega
theorem pad_cf (a : List Int) (n k : Nat) : cf (pad a n) k = cf a k := by
  unfold pad
  by_cases h : k < a.length
  · exact cf_append_l h
  · rw [cf_append_r (by omega), cf_replicate, cf_ge (by omega)]
def zw (f : Int → Int → Int) : List Int → List Int → List Int
  | a :: as, b :: bs => f a b :: zw f as bs
  | _, _ => []
theorem zw_length (f : Int → Int → Int) : ∀ a b : List Int, (zw f a b).length = min a.length b.length
  | [], _ => by simp [zw]
  | _ :: _, [] => by simp [zw]
  | _ :: a, _ :: b => by simp [zw, zw_length f a b]
theorem zw_cf (f : Int → Int → Int) (h0 : f 0 0 = 0) : ∀ (a b : List Int) (k : Nat), a.length = b.length → cf (zw f a b) k = f (cf a k) (cf b k)
  | [], [], k, _ => by simp [zw, cf_nil, h0]
  | x :: a, y :: b, 0, _ => rfl
  | x :: a, y :: b, k + 1, h => by simp only [zw, cf_succ]; exact zw_cf f h0 a b k (by simpa using h)
def bl (p w : Int) (a b : List Int) : List Int := trim (zw (fun x y => (x + w * y) % p) (pad a (max a.length b.length)) (pad b (max a.length b.length)))
theorem bl_cf (p w : Int) (a b : List Int) (k : Nat) : cf (bl p w a b) k = (cf a k + w * cf b k) % p := by
  unfold bl
  rw [trim_cf, zw_cf _ (by simp), pad_cf, pad_cf]
  rw [pad_length (by omega), pad_length (by omega)]
theorem bl_trim (p w : Int) (a b : List Int) : trim (bl p w a b) = bl p w a b := trim_trim _
theorem bl_length (p w : Int) (a b : List Int) : (bl p w a b).length ≤ max a.length b.length := by
  refine Nat.le_trans (trim_length_le _) ?_
  rw [zw_length, pad_length (by omega), pad_length (by omega)]; omega
def cv (b : List Int) : List Int → Nat → Nat → Int
  | [], _, _ => 0
  | x :: a, k, j => (if k ≤ j then x * cf b (j - k) else 0) + cv b a (k + 1) j
theorem cv_hi (b : List Int) : ∀ (a : List Int) (k j : Nat), k + a.length + b.length ≤ j + 1 → 0 < b.length → cv b a k j = 0
  | [], _, _, _, _ => rfl
  | x :: a, k, j, h, hb => by
    simp only [List.length_cons] at h
    have e : cf b (j - k) = 0 := cf_ge (by omega)
    simp only [cv, e, Int.mul_zero, ite_self, cv_hi b a (k + 1) j (by omega) hb, Int.add_zero]
theorem cv_nil (a : List Int) : ∀ k j, cv [] a k j = 0 := by
  induction a with
  | nil => intros; rfl
  | cons x a ih => intro k j; simp only [cv, cf_nil, Int.mul_zero, ite_self, ih, Int.add_zero]
def mulP (p : Int) (a b : List Int) : List Int := trim ((List.range (a.length + b.length)).map fun j => cv b a 0 j % p)
theorem cf_range_map (f : Nat → Int) (n k : Nat) (h : n ≤ k → f k = 0) : cf ((List.range n).map f) k = f k := by
  by_cases e : k < n
  · simp [cf, List.getD_eq_getElem?_getD, e]
  · rw [cf_ge (by simp; omega), h (by omega)]
theorem cv_ge (b a : List Int) (j : Nat) (h : a.length + b.length ≤ j) : cv b a 0 j = 0 := by
  cases b with
  | nil => exact cv_nil a 0 j
  | cons y b => exact cv_hi _ a 0 j (by simp at h ⊢; omega) (by simp)
theorem mulP_cf (p : Int) (a b : List Int) (k : Nat) : cf (mulP p a b) k = cv b a 0 k % p := by
  unfold mulP
  rw [trim_cf, cf_range_map]
  intro h
  rw [cv_ge b a k h]; simp
theorem mulP_trim (p : Int) (a b : List Int) : trim (mulP p a b) = mulP p a b := trim_trim _
theorem mulP_nil_r (p : Int) (a : List Int) : mulP p a [] = [] := trim_nil_of fun k => by rw [cf_range_map] <;> simp [cv_nil]
def addAtM (p c : Int) : List Int → Nat → List Int → List Int
  | f, _, [] => f
  | f, k, y :: b => addAtM p c (f.set k ((cf f k + c * y) % p)) (k + 1) b
theorem addAtM_length (p c : Int) : ∀ (b f : List Int) (k : Nat), (addAtM p c f k b).length = f.length
  | [], _, _ => rfl
  | y :: b, f, k => by simp [addAtM, addAtM_length p c b]
def Red (p : Int) (a : List Int) : Prop := ∀ k, cf a k % p = cf a k
theorem addAtM_cf (p c : Int) : ∀ (b f : List Int) (k j : Nat), Red p f → k + b.length ≤ f.length → cf (addAtM p c f k b) j = (cf f j + (if k ≤ j then c * cf b (j - k) else 0)) % p
  | [], f, k, j, hr, _ => by simp [addAtM, cf_nil, hr j]
  | y :: b, f, k, j, hr, h => by
    simp only [List.length_cons] at h
    have hr' : Red p (f.set k ((cf f k + c * y) % p)) := fun i => by
      rw [cf_set (by omega)]
      split
      · exact Int.emod_emod_of_dvd _ (Int.dvd_refl _)
      · exact hr i
    rw [addAtM, addAtM_cf p c b _ _ j hr' (by simp; omega), cf_set (by omega)]
    by_cases e : j = k
    · subst e
      rw [if_pos rfl, if_neg (by omega), if_pos (Nat.le_refl _), Nat.sub_self, cf_zero, Int.add_zero]
      exact Int.emod_emod_of_dvd _ (Int.dvd_refl _)
    · rw [if_neg e]
      by_cases e2 : k ≤ j
      · rw [if_pos (by omega), if_pos e2]
        have : j - k = (j - (k + 1)) + 1 := by omega
        rw [this, cf_succ]
      · rw [if_neg (by omega), if_neg e2]
theorem addAtM_red (p c : Int) {b f : List Int} {k : Nat} (hr : Red p f) (h : k + b.length ≤ f.length) : Red p (addAtM p c f k b) := fun j => by
  rw [addAtM_cf p c b f k j hr h]; exact Int.emod_emod_of_dvd _ (Int.dvd_refl _)
structure Po (p : Int) (a : List Int) : Prop where
  t : trim a = a
  r : ∀ x ∈ a, 0 ≤ x ∧ x < p
theorem Po.cf {p : Int} {a : List Int} (h : Po p a) (hp : 0 < p) (k : Nat) : 0 ≤ cf a k ∧ cf a k < p := by
  by_cases e : k < a.length
  · rw [cf_lt e]; exact h.r _ (List.getElem_mem e)
  · rw [cf_ge (by omega)]; exact ⟨Int.le_refl _, hp⟩
theorem Po.of_cf {p : Int} {a : List Int} (t : trim a = a) (h : ∀ k, 0 ≤ Rm.cf a k ∧ Rm.cf a k < p) : Po p a := ⟨t, fun x hx => by
  obtain ⟨k, hk, e⟩ := List.getElem_of_mem hx
  have := h k
  rwa [cf_lt hk, e] at this⟩
theorem Po.bl {p : Int} (hp : 0 < p) (w : Int) (a b : List Int) : Po p (bl p w a b) := .of_cf (bl_trim ..) fun k => by
  rw [bl_cf]; exact ⟨Int.emod_nonneg _ (by omega), Int.emod_lt_of_pos _ hp⟩
theorem Po.mulP {p : Int} (hp : 0 < p) (a b : List Int) : Po p (mulP p a b) := .of_cf (mulP_trim ..) fun k => by
  rw [mulP_cf]; exact ⟨Int.emod_nonneg _ (by omega), Int.emod_lt_of_pos _ hp⟩
theorem Po.trim {p : Int} {a : List Int} (h : ∀ x ∈ a, 0 ≤ x ∧ x < p) : Po p (Rm.trim a) := ⟨trim_trim a, fun x hx => h x (trim_mem hx)⟩
theorem mulP_length {p : Int} (a b : List Int) (n : Nat) (h : a.length + b.length ≤ n + 1) : (Rm.mulP p a b).length ≤ n := by
  by_cases hb : 0 < b.length
  · by_cases e : n < (Rm.mulP p a b).length
    · exfalso
      have hn : Rm.mulP p a b ≠ [] := fun z => by rw [z] at e; simp at e
      have := trim_last (mulP_trim p a b) hn
      rw [mulP_cf, cv_hi b a 0 _ (by omega) hb] at this
      simp at this
    · omega
  · have : b = [] := List.eq_nil_of_length_eq_zero (by omega)
    rw [this, mulP_nil_r]; simp
end Rm
namespace Rg
open PySem Rm
abbrev tI (ns : List Int) : D := .tup (ns.map D.int)
abbrev lI (ns : List Int) : D := .lst (ns.map D.int)
def sq (t : Bool) (ns : List Int) : D := if t then tI ns else lI ns
theorem sq_t (ns : List Int) : sq true ns = .tup (ns.map D.int) := rfl
theorem sq_f (ns : List Int) : sq false ns = .lst (ns.map D.int) := rfl
theorem atI_ints (ns : List Int) (i : Nat) (h : i < ns.length) : L2.atI (ns.map D.int) (i : Int) = some (.int (cf ns i)) := by
  refine L2.atI_nat ?_
  rw [List.getElem?_map, cf_get? h]; rfl
theorem cutD_take (xs : List D) (n : Nat) : cutD xs none (some (n : Int)) = xs.take n := by
  unfold cutD
  rw [HT.sIx_none, HT.sIx_nat, List.drop_zero, Nat.sub_zero]
  by_cases h : n ≤ xs.length
  · rw [Nat.min_eq_left h]
  · rw [Nat.min_eq_right (by omega), List.take_of_length_le (Nat.le_refl _), List.take_of_length_le (by omega)]
theorem shp_int (i : Int) : shp (.int i) = true := by simp [shp, toP, SeqAt.shaped, PyData.canLay0, PyData.depth]
theorem shp_bl (i : Bool) : shp (.bl i) = true := by simp [shp, toP, SeqAt.shaped, PyData.canLay0, PyData.depth]
theorem eqD_int (a b : Int) : eqD (.int a) (.int b) = decide (a = b) := by
  by_cases h : a = b <;> simp [eqD, toP, PyData.eqv, h]
theorem eqD_bl (a b : Bool) : eqD (.bl a) (.bl b) = decide (a = b) := by
  cases a <;> cases b <;> simp [eqD, toP, PyData.eqv]
theorem fEq_int (a b : Int) : fEq [.int a, .int b] = some (.v (.bl (decide (a = b)))) := by simp [fEq, shp_int, eqD_int]
theorem fNe_int (a b : Int) : fNe [.int a, .int b] = some (.v (.bl (!decide (a = b)))) := by simp [fNe, shp_int, eqD_int]
theorem fEq_bl (a b : Bool) : fEq [.bl a, .bl b] = some (.v (.bl (decide (a = b)))) := by simp [fEq, shp_bl, eqD_bl]
theorem fNe_bl (a b : Bool) : fNe [.bl a, .bl b] = some (.v (.bl (!decide (a = b)))) := by simp [fNe, shp_bl, eqD_bl]
end Rg
namespace Rg
open PySem Rm
theorem mLcL_map {α : Type} (g h : α → D) {f : D → Env → Option Env} {e : Env → R (BV × Env)} {vs : List Nat} {Γ0 : Env} : ∀ (xs : List α) (acc : List D), (∀ x ∈ xs, ∃ Γ1 Γ2, f (g x) Γ0 = some Γ1 ∧ mFz1 e Γ1 = .ok (h x, Γ2) ∧ wipeE Γ2 vs = Γ0) → acc.length + xs.length ≤ SZ →
    mLcL f mYes e vs (xs.map g) Γ0 acc = .ok (acc ++ xs.map h, Γ0)
  | [], acc, _, _ => by simp [mLcL]
  | x :: xs, acc, hx, hl => by
    obtain ⟨Γ1, Γ2, h1, h2, h3⟩ := hx x (List.mem_cons_self ..)
    simp only [List.length_cons] at hl
    simp only [List.map_cons, mLcL, h1, mYes, nox, R.bind, if_true, h2, h3]
    rw [if_pos (by omega), mLcL_map g h xs (acc ++ [h x]) (fun y hy => hx y (List.mem_cons_of_mem _ hy)) (by simp; omega)]
    simp
theorem mForL_cons {f : D → Env → Option Env} {b : Env → R Fl} {d : D} {ds : List D} {Γ Γ1 Γ2 : Env} (h1 : f d Γ = some Γ1) (h2 : b Γ1 = .ok (.nx Γ2)) : mForL f b (d :: ds) Γ = mForL f b ds Γ2 := by
  simp only [mForL, h1, h2, R.bind]
theorem fMul_int {i j : Int} (h : (-(2 ^ 64) < i ∧ i < 2 ^ 64) ∨ (-(2 ^ 64) < j ∧ j < 2 ^ 64)) : fMul [.int i, .int j] = some (.v (.int (i * j))) := by simp only [fMul]; rw [if_pos h]
theorem fMul_sm {i j : Int} (h1 : -1000000 ≤ j) (h2 : j ≤ 1000000) : fMul [.int i, .int j] = some (.v (.int (i * j))) := fMul_int (.inr ⟨by omega, by omega⟩)
theorem fAdd_int (i j : Int) : fAdd [.int i, .int j] = some (.v (.int (i + j))) := rfl
theorem fMod_pos {i j : Int} (h : 0 < j) : fMod [.int i, .int j] = some (.v (.int (i % j))) := by simp only [fMod]; rw [if_pos h]
theorem fDiv_pos {i j : Int} (h : 0 < j) (h2 : j < 2 ^ 128) : fDiv [.int i, .int j] = some (.v (.int (i / j))) := by simp only [fDiv]; rw [if_pos ⟨h, h2⟩]
theorem blsOf_mapf {α : Type} (q : α → Bool) (xs : List α) : blsOf (xs.map fun x => D.bl (q x)) = some (xs.map q) := by
  induction xs with
  | nil => rfl
  | cons x xs ih => simp only [List.map_cons, blsOf, ih]; rfl
theorem fAll_map {α : Type} (q : α → Bool) (xs : List α) : fAll [.lst (xs.map fun x => D.bl (q x))] = some (.v (.bl (xs.all q))) := by
  simp only [fAll, blsOf_mapf]
  simp
theorem fAll_true {α : Type} (xs : List α) : fAll [.lst (xs.map fun _ => D.bl true)] = some (.v (.bl true)) := by
  rw [fAll_map (fun _ => true)]; simp
theorem mLc_map {α : Type} (g h : α → D) (xs : List α) {mi : Env → R (List D × Env)} {f : D → Env → Option Env} {e : Env → R (BV × Env)} {vs : List Nat} {Γ Γ1 : Env} (hi : mi Γ = .ok (xs.map g, Γ1)) (hl : xs.length ≤ 1000000)
    (hx : ∀ x ∈ xs, ∃ Γ2 Γ3, f (g x) (wipeE Γ1 vs) = some Γ2 ∧ mFz1 e Γ2 = .ok (h x, Γ3) ∧ wipeE Γ3 vs = wipeE Γ1 vs) : mLc mi f mYes e vs Γ = .ok (.o (xs.map h), wipeE Γ1 vs) := by
  simp only [mLc, hi, R.bind]
  rw [mLcL_map g h xs [] hx (by unfold SZ; simp; omega)]
  simp
theorem at4_0 (a b c d : D) : L2.atI [a, b, c, d] 0 = some a := rfl
theorem at4_1 (a b c d : D) : L2.atI [a, b, c, d] 1 = some b := rfl
theorem at4_2 (a b c d : D) : L2.atI [a, b, c, d] 2 = some c := rfl
theorem at4_3 (a b c d : D) : L2.atI [a, b, c, d] 3 = some d := rfl
theorem ix4_1 : L2.ixN 4 1 = some 1 := rfl
theorem ix4_2 : L2.ixN 4 2 = some 2 := rfl
theorem ix4_3 : L2.ixN 4 3 = some 3 := rfl
theorem at2_0 (a b : D) : L2.atI [a, b] 0 = some a := rfl
theorem at2_1 (a b : D) : L2.atI [a, b] 1 = some b := rfl
theorem is2_int (n : Int) : fIsi2 "list" "tuple" [.int n] = some (.v (.bl false)) := rfl
theorem is2_bl (n : Bool) : fIsi2 "list" "tuple" [.bl n] = some (.v (.bl false)) := rfl
theorem is2_non : fIsi2 "list" "tuple" [.non] = some (.v (.bl false)) := rfl
theorem is2_str (s : Str) : fIsi2 "list" "tuple" [.str s] = some (.v (.bl false)) := rfl
theorem is2_tup (ds : List D) : fIsi2 "list" "tuple" [.tup ds] = some (.v (.bl true)) := rfl
theorem is2_lst (ds : List D) : fIsi2 "list" "tuple" [.lst ds] = some (.v (.bl true)) := rfl
theorem is_lt (ds : List D) : fIsi [.tup ds, .ty "list"] = some (.v (.bl false)) := rfl
theorem is_ll (ds : List D) : fIsi [.lst ds, .ty "list"] = some (.v (.bl true)) := rfl
theorem is_bi (n : Int) : fIsi [.int n, .ty "bool"] = some (.v (.bl false)) := rfl
theorem is_ii (n : Int) : fIsi [.int n, .ty "int"] = some (.v (.bl true)) := rfl
theorem is_si (n : Int) : fIsi [.int n, .ty "str"] = some (.v (.bl false)) := rfl
theorem is_bb (n : Bool) : fIsi [.bl n, .ty "bool"] = some (.v (.bl true)) := rfl
theorem is_ib (n : Bool) : fIsi [.bl n, .ty "int"] = some (.v (.bl true)) := rfl
theorem is_sb (n : Bool) : fIsi [.bl n, .ty "str"] = some (.v (.bl false)) := rfl
theorem is_bs (n : Str) : fIsi [.str n, .ty "bool"] = some (.v (.bl false)) := rfl
theorem is_is (n : Str) : fIsi [.str n, .ty "int"] = some (.v (.bl false)) := rfl
theorem is_ss (n : Str) : fIsi [.str n, .ty "str"] = some (.v (.bl true)) := rfl
theorem zipD_self (ds : List D) : zipD ds ds = ds.map fun d => .tup [d, d] := by
  induction ds with
  | nil => rfl
  | cons d ds ih => simp only [zipD, ih, List.map_cons]
def Dr (xs : List D) : Prop := ∃ (cs : List Int) (i : Nat) (j k : Int), xs = [.lst (cs.map D.int), .int i, .int j, .int k] ∧ cs.length ≤ 63 ∧ 0 ≤ j ∧ 0 ≤ k ∧ k < 2147483647
inductive Pl : Nat → D → Prop
  | int {k : Nat} (n : Int) : Pl (k + 1) (.int n)
  | bl {k : Nat} (n : Bool) : Pl (k + 1) (.bl n)
  | non {k : Nat} : Pl (k + 1) .non
  | str {k : Nat} {s : Str} : PyData.strOk s = true → Pl (k + 1) (.str s)
  | tup {k : Nat} {ds : List D} : ds.length ≤ 1000000 → (∀ d ∈ ds, Pl k d) → Pl (k + 1) (.tup ds)
  | lst {k : Nat} {ds : List D} : ds.length ≤ 1000000 → (∀ d ∈ ds, Pl k d) → Pl (k + 1) (.lst ds)
theorem Pl.mono {k m : Nat} {d : D} (h : Pl k d) : k ≤ m → Pl m d := by
  induction h generalizing m with
  | int n => intro h; cases m with | zero => omega | succ m => exact .int n
  | bl n => intro h; cases m with | zero => omega | succ m => exact .bl n
  | non => intro h; cases m with | zero => omega | succ m => exact .non
  | str q => intro h; cases m with | zero => omega | succ m => exact .str q
  | tup hl h ih => intro h; cases m with | zero => omega | succ m => exact .tup hl fun d hd => ih d hd (by omega)
  | lst hl h ih => intro h; cases m with | zero => omega | succ m => exact .lst hl fun d hd => ih d hd (by omega)
theorem shp_str {s : Str} (h : PyData.strOk s = true) : shp (.str s) = true := by simp [shp, toP, SeqAt.shaped, PyData.canLay0, PyData.depth, h]
theorem fEq_str {s : Str} (h : PyData.strOk s = true) : fEq [.str s, .str s] = some (.v (.bl true)) := by simp [fEq, shp_str h, eqD, toP, PyData.eqv]
theorem z1 : ((0 : Nat) < 1) = True := eq_true (by decide)
theorem z2 : ((0 : Nat) < 2) = True := eq_true (by decide)
theorem z3 : ((0 : Nat) < 3) = True := eq_true (by decide)
theorem z4 : ((0 : Nat) < 4) = True := eq_true (by decide)
theorem z5 : ((0 : Nat) < 5) = True := eq_true (by decide)
theorem z6 : ((0 : Nat) < 6) = True := eq_true (by decide)
theorem z7 : ((0 : Nat) < 7) = True := eq_true (by decide)
theorem z8 : ((0 : Nat) < 8) = True := eq_true (by decide)
theorem z9 : ((0 : Nat) < 9) = True := eq_true (by decide)
theorem z10 : ((0 : Nat) < 10) = True := eq_true (by decide)
theorem z11 : ((0 : Nat) < 11) = True := eq_true (by decide)
theorem z12 : ((0 : Nat) < 12) = True := eq_true (by decide)
theorem z13 : ((0 : Nat) < 13) = True := eq_true (by decide)
theorem z14 : ((0 : Nat) < 14) = True := eq_true (by decide)
theorem z15 : ((0 : Nat) < 15) = True := eq_true (by decide)
theorem z16 : ((0 : Nat) < 16) = True := eq_true (by decide)
theorem z17 : ((0 : Nat) < 17) = True := eq_true (by decide)
theorem z18 : ((0 : Nat) < 18) = True := eq_true (by decide)
theorem z19 : ((0 : Nat) < 19) = True := eq_true (by decide)
theorem z20 : ((0 : Nat) < 20) = True := eq_true (by decide)
theorem z21 : ((0 : Nat) < 21) = True := eq_true (by decide)
theorem z22 : ((0 : Nat) < 22) = True := eq_true (by decide)
theorem z23 : ((0 : Nat) < 23) = True := eq_true (by decide)
theorem z24 : ((0 : Nat) < 24) = True := eq_true (by decide)
theorem lfA_ints : ∀ ns : List Int, lfA (ns.map D.int) = true
  | [] => rfl
  | n :: ns => by simp only [List.map_cons, lfA, lf, lfA_ints ns]; rfl
end Rg
namespace Mn
def vD (v : List Int) : Rg.D := .tup (v.map Rg.D.int)
end Mn
namespace Rg
theorem ntD_vD (v : List Int) : ntD (Mn.vD v) = true := (ntD_tup _).trans (ntA_ints v)
end Rg
namespace Rg
open PySem PySem.Spec PyProof.Rows L2 HT
section
variable {prog : Program} {w : World} {A : Around} {E : Value → Shared → Prop} {s : Shared}
end
section
variable {X : Cx} {W : WX} {e : Expr} {me : Env → R (BV × Env)}
end
end Rg
namespace Mn
open PySem Rg Rm
noncomputable def B__law_begin : Env → R Fl :=
  (mRet (mLst (mA1 (mB fList (mA1 (mB fSlH (mA1 (mN 0) (mA1 (mK (.int 63)) mA0))) mA0)) (mA1 (mK (.int 0)) (mA1 (mK (.int 0)) (mA1 (mK (.int 37)) mA0))))))
noncomputable def M__law_begin : List D → R Nw := fin 1 B__law_begin 0
noncomputable def B__law_take : Env → R Fl :=
  (mSeq (mIf (mAnd (mT (mB (two fLt) (mA1 (mB (two fIx) (mA1 (mN 0) (mA1 (mK (.int 2)) mA0))) (mA1 (mN 1) mA0)))) (mT (mB (two fLt) (mA1 (mB (two fIx) (mA1 (mN 0) (mA1 (mK (.int 1)) mA0))) (mA1 (mB fLen (mA1 (mB (two fIx) (mA1 (mN 0) (mA1 (mK (.int 0)) mA0))) mA0)) mA0))))) (mSeq (mSet 2 (mB (two fIx) (mA1 (mB (two fIx) (mA1 (mN 0) (mA1 (mK (.int 0)) mA0))) (mA1 (mB (two fIx) (mA1 (mN 0) (mA1 (mK (.int 1)) mA0))) mA0))))
  (mSeq (mSetIx 0 (mK (.int 1)) (mB (two fAdd) (mA1 (mB (two fIx) (mA1 (mN 0) (mA1 (mK (.int 1)) mA0))) (mA1 (mK (.int 1)) mA0))))
  (mSeq (mSetIx 0 (mK (.int 2)) (mK (.int 0)))
  (mIf (mT (mB (two fGe) (mA1 (mB fAbs (mA1 (mN 2) mA0)) (mA1 (mB (two fPow) (mA1 (mK (.int 10)) (mA1 (mK (.int 18)) mA0))) mA0)))) (mSetIx 0 (mK (.int 2)) (mB fAbs (mA1 (mN 2) mA0))) (mSetIx 0 (mK (.int 3)) (mB (two fMod) (mA1 (mB (two fAdd) (mA1 (mB (two fAdd) (mA1 (mB (two fMul) (mA1 (mB (two fIx) (mA1 (mN 0) (mA1 (mK (.int 3)) mA0))) (mA1 (mK (.int 48271)) mA0))) (mA1 (mB (two fMul) (mA1 (mB (two fMod) (mA1 (mN 2) (mA1 (mK (.int 2147483629)) mA0))) (mA1 (mK (.int 69621)) mA0))) mA0))) (mA1 (mK (.int 12345)) mA0))) (mA1 (mK (.int 2147483647)) mA0)))))))) mNx)
  (mSeq (mIf (mT (mB (two fGe) (mA1 (mB (two fIx) (mA1 (mN 0) (mA1 (mK (.int 2)) mA0))) (mA1 (mN 1) mA0)))) (mSeq (mSet 3 (mB (two fMod) (mA1 (mB (two fIx) (mA1 (mN 0) (mA1 (mK (.int 2)) mA0))) (mA1 (mN 1) mA0))))
  (mSeq (mSetIx 0 (mK (.int 2)) (mB (two fDiv) (mA1 (mB (two fIx) (mA1 (mN 0) (mA1 (mK (.int 2)) mA0))) (mA1 (mN 1) mA0))))
  (mRet (mN 3)))) mNx)
  (mSeq (mSetIx 0 (mK (.int 3)) (mB (two fMod) (mA1 (mB (two fAdd) (mA1 (mB (two fAdd) (mA1 (mB (two fMul) (mA1 (mB (two fMod) (mA1 (mB (two fMul) (mA1 (mB (two fIx) (mA1 (mN 0) (mA1 (mK (.int 3)) mA0))) (mA1 (mB (two fIx) (mA1 (mN 0) (mA1 (mK (.int 3)) mA0))) mA0))) (mA1 (mK (.int 2147483629)) mA0))) (mA1 (mK (.int 5)) mA0))) (mA1 (mB (two fMul) (mA1 (mB (two fIx) (mA1 (mN 0) (mA1 (mK (.int 3)) mA0))) (mA1 (mK (.int 16811)) mA0))) mA0))) (mA1 (mK (.int 2531011)) mA0))) (mA1 (mK (.int 2147483647)) mA0))))
  (mRet (mB (two fMod) (mA1 (mB (two fAdd) (mA1 (mB (two fDiv) (mA1 (mB (two fIx) (mA1 (mN 0) (mA1 (mK (.int 3)) mA0))) (mA1 (mK (.int 61)) mA0))) (mA1 (mB (two fMul) (mA1 (mB (two fMod) (mA1 (mB (two fIx) (mA1 (mN 0) (mA1 (mK (.int 3)) mA0))) (mA1 (mK (.int 8191)) mA0))) (mA1 (mK (.int 31)) mA0))) mA0))) (mA1 (mN 1) mA0)))))))
noncomputable def M__law_take : List D → List D → R (Nw × List D) := finI 1 B__law_take 2
noncomputable def B__law_of : Env → R Fl :=
  (mRet (mB (two fIx) (mA1 (mN 1) (mA1 (mCallI M__law_take (mA1 (mN 0) (mA1 (mB fLen (mA1 (mN 1) mA0)) mA0))) mA0))))
noncomputable def M__law_of : List D → List D → R (Nw × List D) := finI 1 B__law_of 0
noncomputable def Le__law_same_1 (M__law_same : List D → R Nw) : Env → R (BV × Env) :=
  (mCall M__law_same (mA1 (mN 2) (mA1 (mN 3) mA0)))
noncomputable def B__law_same (M__law_same : List D → R Nw) : Env → R Fl :=
  (mSeq (mIf (mT (mB (fIsi2 "list" "tuple") (mA1 (mN 1) mA0))) (mSeq (mIf (mOr (mT (mB (two fNe) (mA1 (mB fIsi (mA1 (mN 0) (mA1 (mK (.ty "list")) mA0))) (mA1 (mB fIsi (mA1 (mN 1) (mA1 (mK (.ty "list")) mA0))) mA0)))) (mNot (mT (mB (fIsi2 "list" "tuple") (mA1 (mN 0) mA0))))) (mRet (mK (.bl false))) mNx)
  (mRet (mAndV (mB (two fEq) (mA1 (mB fLen (mA1 (mN 0) mA0)) (mA1 (mB fLen (mA1 (mN 1) mA0)) mA0))) (mB fAll (mA1 (mLc (mZa (mA1 (mN 0) (mA1 (mN 1) mA0))) (gT 2 (gs1 (gN 2) (gs1 (gN 3) gs0))) mYes (Le__law_same_1 M__law_same) [2, 3]) mA0))))) mNx)
  (mSeq (mIf (mT (mB (two (fIs false)) (mA1 (mN 1) (mA1 (mK .non) mA0)))) (mRet (mB (two (fIs false)) (mA1 (mN 0) (mA1 (mK .non) mA0)))) mNx)
  (mSeq (mIf (mOr (mT (mB (two fNe) (mA1 (mB fIsi (mA1 (mN 0) (mA1 (mK (.ty "bool")) mA0))) (mA1 (mB fIsi (mA1 (mN 1) (mA1 (mK (.ty "bool")) mA0))) mA0)))) (mT (mB (two fNe) (mA1 (mB fIsi (mA1 (mN 0) (mA1 (mK (.ty "int")) mA0))) (mA1 (mB fIsi (mA1 (mN 1) (mA1 (mK (.ty "int")) mA0))) mA0))))) (mRet (mK (.bl false))) mNx)
  (mRet (mAndV (mB (two fEq) (mA1 (mB fIsi (mA1 (mN 0) (mA1 (mK (.ty "str")) mA0))) (mA1 (mB fIsi (mA1 (mN 1) (mA1 (mK (.ty "str")) mA0))) mA0))) (mB (two fEq) (mA1 (mN 0) (mA1 (mN 1) mA0))))))))
noncomputable def M__law_same_ : Nat → List D → R Nw
  | 0 => fun _ => .bad
  | k + 1 => fin 2 (B__law_same (M__law_same_ k)) 2
noncomputable def M__law_same : List D → R Nw := M__law_same_ 8
theorem M__law_same_len : ∀ ds, ds.length ≠ 2 → M__law_same ds = .bad := fun ds h => fin_len ds h
noncomputable def Fb__law_trim_1 : Env → R Fl :=
  (mIf (mAnd (mT (mB (two fGt) (mA1 (mN 1) (mA1 (mK (.int 0)) mA0)))) (mT (mB (two fEq) (mA1 (mB (two fIx) (mA1 (mN 0) (mA1 (mB (two fSub) (mA1 (mN 1) (mA1 (mK (.int 1)) mA0))) mA0))) (mA1 (mK (.int 0)) mA0))))) (mSet 1 (mB (two fSub) (mA1 (mN 1) (mA1 (mK (.int 1)) mA0)))) mNx)
end Mn
local macro_rules
  | `(tactic| simp only [evE]) => `(tactic| simp only [Rg.Nw.lf, Rg.lf, Rg.lfA_ints, Rg.rsB, Rg.ntD, Rg.ntA, Rg.ntA_ints, Rg.ntA_mp, Rg.ntD_vD, implies_true, Rg.twB_r, Rg.twB_l, Rg.SZ, Nat.reduceLeDiff, Rg.z1, Rg.z2, Rg.z3, Rg.z4, Rg.z5, Rg.z6, Rg.z7, Rg.z8, Rg.z9, Rg.z10, Rg.z11, Rg.z12, Rg.z13, Rg.z14, Rg.z15, Rg.z16, Rg.z17, Rg.z18, Rg.z19, Rg.z20, Rg.z21, Rg.z22, Rg.z23, Rg.z24, Nat.zero_le, Rg.fin, Rg.finI, Rg.mSeq, Rg.mIf, Rg.mRet, Rg.mRetN, Rg.mDrop, Rg.mSet, Rg.mAsg, Rg.mPar, Rg.mAug, Rg.mSetIx, Rg.mMe, Rg.mFor, Rg.mIs, Rg.mEn, Rg.mZa, Rg.mN, Rg.mK, Rg.mA0, Rg.mA1, Rg.mB, Rg.mT, Rg.mAnd, Rg.mOr, Rg.mNot, Rg.mAndV, Rg.mOrV, Rg.mNotV, Rg.mIfE, Rg.mCh, Rg.mTup, Rg.mLst, Rg.mFz1, Rg.mFzA, Rg.fzL, Rg.fz1, Rg.mCall, Rg.mCallI, Rg.mAp, Rg.mAd, Rg.mNeg, Rg.mYes, Rg.mLc, Rg.mNx, Rg.mBad, Rg.mRaise, Rg.mBk, Rg.mCt, Rg.stB, Rg.gN, Rg.gs0, Rg.gs1, Rg.gT, Rg.rsA, Rg.rs, Rg.allV, Rg.BV.fz, Rg.Nw.bv, Rg.R.bind, Rg.nox, Rg.gt, Rg.two, Rg.fAdd_int, Rg.fSub, Rg.fCmp, Rg.fLen, Rg.fList, Rg.fTuple, Rg.fInt, Rg.fAbs, Rg.fMax, Rg.fMin, Rg.fIx, Rg.fSlH, Rg.fSlL, Rg.fSl, Rg.fRev, Rg.fIs, Rg.fNeg, Rg.isNon, Option.bind_some, Option.map_some, List.set_cons_zero, List.set_cons_succ, List.map_cons, List.map_nil, List.cons_append, List.nil_append, List.replicate, List.length_cons, List.length_nil, Nat.zero_add, Nat.reduceAdd, if_true, ite_true, reduceIte, Rg.wipeE, Bool.true_or, Bool.false_or, Bool.true_and, Bool.false_and, Bool.not_true, Bool.not_false, Bool.false_eq_true, if_false])
  | `(tactic| simp only [evE, $ls,*]) => `(tactic| simp only [Rg.Nw.lf, Rg.lf, Rg.lfA_ints, Rg.rsB, Rg.ntD, Rg.ntA, Rg.ntA_ints, Rg.ntA_mp, Rg.ntD_vD, implies_true, Rg.twB_r, Rg.twB_l, Rg.SZ, Nat.reduceLeDiff, Rg.z1, Rg.z2, Rg.z3, Rg.z4, Rg.z5, Rg.z6, Rg.z7, Rg.z8, Rg.z9, Rg.z10, Rg.z11, Rg.z12, Rg.z13, Rg.z14, Rg.z15, Rg.z16, Rg.z17, Rg.z18, Rg.z19, Rg.z20, Rg.z21, Rg.z22, Rg.z23, Rg.z24, Nat.zero_le, Rg.fin, Rg.finI, Rg.mSeq, Rg.mIf, Rg.mRet, Rg.mRetN, Rg.mDrop, Rg.mSet, Rg.mAsg, Rg.mPar, Rg.mAug, Rg.mSetIx, Rg.mMe, Rg.mFor, Rg.mIs, Rg.mEn, Rg.mZa, Rg.mN, Rg.mK, Rg.mA0, Rg.mA1, Rg.mB, Rg.mT, Rg.mAnd, Rg.mOr, Rg.mNot, Rg.mAndV, Rg.mOrV, Rg.mNotV, Rg.mIfE, Rg.mCh, Rg.mTup, Rg.mLst, Rg.mFz1, Rg.mFzA, Rg.fzL, Rg.fz1, Rg.mCall, Rg.mCallI, Rg.mAp, Rg.mAd, Rg.mNeg, Rg.mYes, Rg.mLc, Rg.mNx, Rg.mBad, Rg.mRaise, Rg.mBk, Rg.mCt, Rg.stB, Rg.gN, Rg.gs0, Rg.gs1, Rg.gT, Rg.rsA, Rg.rs, Rg.allV, Rg.BV.fz, Rg.Nw.bv, Rg.R.bind, Rg.nox, Rg.gt, Rg.two, Rg.fAdd_int, Rg.fSub, Rg.fCmp, Rg.fLen, Rg.fList, Rg.fTuple, Rg.fInt, Rg.fAbs, Rg.fMax, Rg.fMin, Rg.fIx, Rg.fSlH, Rg.fSlL, Rg.fSl, Rg.fRev, Rg.fIs, Rg.fNeg, Rg.isNon, Option.bind_some, Option.map_some, List.set_cons_zero, List.set_cons_succ, List.map_cons, List.map_nil, List.cons_append, List.nil_append, List.replicate, List.length_cons, List.length_nil, Nat.zero_add, Nat.reduceAdd, if_true, ite_true, reduceIte, Rg.wipeE, Bool.true_or, Bool.false_or, Bool.true_and, Bool.false_and, Bool.not_true, Bool.not_false, Bool.false_eq_true, if_false, $ls,*])
  | `(tactic| simp only [evE] $l:location) => `(tactic| simp only [Rg.Nw.lf, Rg.lf, Rg.lfA_ints, Rg.rsB, Rg.ntD, Rg.ntA, Rg.ntA_ints, Rg.ntA_mp, Rg.ntD_vD, implies_true, Rg.twB_r, Rg.twB_l, Rg.SZ, Nat.reduceLeDiff, Rg.z1, Rg.z2, Rg.z3, Rg.z4, Rg.z5, Rg.z6, Rg.z7, Rg.z8, Rg.z9, Rg.z10, Rg.z11, Rg.z12, Rg.z13, Rg.z14, Rg.z15, Rg.z16, Rg.z17, Rg.z18, Rg.z19, Rg.z20, Rg.z21, Rg.z22, Rg.z23, Rg.z24, Nat.zero_le, Rg.fin, Rg.finI, Rg.mSeq, Rg.mIf, Rg.mRet, Rg.mRetN, Rg.mDrop, Rg.mSet, Rg.mAsg, Rg.mPar, Rg.mAug, Rg.mSetIx, Rg.mMe, Rg.mFor, Rg.mIs, Rg.mEn, Rg.mZa, Rg.mN, Rg.mK, Rg.mA0, Rg.mA1, Rg.mB, Rg.mT, Rg.mAnd, Rg.mOr, Rg.mNot, Rg.mAndV, Rg.mOrV, Rg.mNotV, Rg.mIfE, Rg.mCh, Rg.mTup, Rg.mLst, Rg.mFz1, Rg.mFzA, Rg.fzL, Rg.fz1, Rg.mCall, Rg.mCallI, Rg.mAp, Rg.mAd, Rg.mNeg, Rg.mYes, Rg.mLc, Rg.mNx, Rg.mBad, Rg.mRaise, Rg.mBk, Rg.mCt, Rg.stB, Rg.gN, Rg.gs0, Rg.gs1, Rg.gT, Rg.rsA, Rg.rs, Rg.allV, Rg.BV.fz, Rg.Nw.bv, Rg.R.bind, Rg.nox, Rg.gt, Rg.two, Rg.fAdd_int, Rg.fSub, Rg.fCmp, Rg.fLen, Rg.fList, Rg.fTuple, Rg.fInt, Rg.fAbs, Rg.fMax, Rg.fMin, Rg.fIx, Rg.fSlH, Rg.fSlL, Rg.fSl, Rg.fRev, Rg.fIs, Rg.fNeg, Rg.isNon, Option.bind_some, Option.map_some, List.set_cons_zero, List.set_cons_succ, List.map_cons, List.map_nil, List.cons_append, List.nil_append, List.replicate, List.length_cons, List.length_nil, Nat.zero_add, Nat.reduceAdd, if_true, ite_true, reduceIte, Rg.wipeE, Bool.true_or, Bool.false_or, Bool.true_and, Bool.false_and, Bool.not_true, Bool.not_false, Bool.false_eq_true, if_false] $l)
  | `(tactic| simp only [evE, $ls,*] $l:location) => `(tactic| simp only [Rg.Nw.lf, Rg.lf, Rg.lfA_ints, Rg.rsB, Rg.ntD, Rg.ntA, Rg.ntA_ints, Rg.ntA_mp, Rg.ntD_vD, implies_true, Rg.twB_r, Rg.twB_l, Rg.SZ, Nat.reduceLeDiff, Rg.z1, Rg.z2, Rg.z3, Rg.z4, Rg.z5, Rg.z6, Rg.z7, Rg.z8, Rg.z9, Rg.z10, Rg.z11, Rg.z12, Rg.z13, Rg.z14, Rg.z15, Rg.z16, Rg.z17, Rg.z18, Rg.z19, Rg.z20, Rg.z21, Rg.z22, Rg.z23, Rg.z24, Nat.zero_le, Rg.fin, Rg.finI, Rg.mSeq, Rg.mIf, Rg.mRet, Rg.mRetN, Rg.mDrop, Rg.mSet, Rg.mAsg, Rg.mPar, Rg.mAug, Rg.mSetIx, Rg.mMe, Rg.mFor, Rg.mIs, Rg.mEn, Rg.mZa, Rg.mN, Rg.mK, Rg.mA0, Rg.mA1, Rg.mB, Rg.mT, Rg.mAnd, Rg.mOr, Rg.mNot, Rg.mAndV, Rg.mOrV, Rg.mNotV, Rg.mIfE, Rg.mCh, Rg.mTup, Rg.mLst, Rg.mFz1, Rg.mFzA, Rg.fzL, Rg.fz1, Rg.mCall, Rg.mCallI, Rg.mAp, Rg.mAd, Rg.mNeg, Rg.mYes, Rg.mLc, Rg.mNx, Rg.mBad, Rg.mRaise, Rg.mBk, Rg.mCt, Rg.stB, Rg.gN, Rg.gs0, Rg.gs1, Rg.gT, Rg.rsA, Rg.rs, Rg.allV, Rg.BV.fz, Rg.Nw.bv, Rg.R.bind, Rg.nox, Rg.gt, Rg.two, Rg.fAdd_int, Rg.fSub, Rg.fCmp, Rg.fLen, Rg.fList, Rg.fTuple, Rg.fInt, Rg.fAbs, Rg.fMax, Rg.fMin, Rg.fIx, Rg.fSlH, Rg.fSlL, Rg.fSl, Rg.fRev, Rg.fIs, Rg.fNeg, Rg.isNon, Option.bind_some, Option.map_some, List.set_cons_zero, List.set_cons_succ, List.map_cons, List.map_nil, List.cons_append, List.nil_append, List.replicate, List.length_cons, List.length_nil, Nat.zero_add, Nat.reduceAdd, if_true, ite_true, reduceIte, Rg.wipeE, Bool.true_or, Bool.false_or, Bool.true_and, Bool.false_and, Bool.not_true, Bool.not_false, Bool.false_eq_true, if_false, $ls,*] $l)
namespace Mn
open PySem Rg Rm
theorem pr_le : ∀ p ∈ k_PRIMES, 2 ≤ p ∧ p ≤ 97 := by decide
theorem e__law_begin (ns : List Int) : ∃ xs, M__law_begin [.scr ns] = .ok (.o xs) ∧ Dr xs := by
  have hc : cutD (ns.map D.int) none (some (63 : Int)) = (ns.take 63).map D.int := by rw [show (63 : Int) = ((63 : Nat) : Int) from rfl, cutD_take, List.map_take]
  refine ⟨[.lst ((ns.take 63).map D.int), .int (0 : Nat), .int 0, .int 37], ?_, ⟨ns.take 63, 0, 0, 37, rfl, by simp; omega, by omega, by omega, by omega⟩⟩
  simp only [evE, M__law_begin, B__law_begin, hc]
  rfl
theorem pow18 : fPow [.int 10, .int 18] = some (.v (.int 1000000000000000000)) := by
  have h : (0 : Int) ≤ 18 ∧ (18 : Int) ≤ 1000000 ∧ (10 : Int).natAbs < 2 ^ 64 := by decide
  simp only [fPow, if_pos h]
  rfl
theorem e__law_take (xs : List D) (h : Dr xs) (n : Int) (hn : 0 < n) (hn2 : n < 2 ^ 128) : ∃ r xs', M__law_take xs [.int n] = .ok (.v (.int r), xs') ∧ 0 ≤ r ∧ r < n ∧ Dr xs' := by
  obtain ⟨cs, i, j, k, rfl, hl, hj, hk, hk2⟩ := h
  have m1 : ∀ i, fMul [.int i, .int 48271] = some (.v (.int (i * 48271))) := fun i => fMul_sm (by omega) (by omega)
  have m2 : ∀ i, fMul [.int i, .int 69621] = some (.v (.int (i * 69621))) := fun i => fMul_sm (by omega) (by omega)
  have m3 : ∀ i, fMul [.int i, .int 5] = some (.v (.int (i * 5))) := fun i => fMul_sm (by omega) (by omega)
  have m4 : ∀ i, fMul [.int i, .int 16811] = some (.v (.int (i * 16811))) := fun i => fMul_sm (by omega) (by omega)
  have m5 : ∀ i, fMul [.int i, .int 31] = some (.v (.int (i * 31))) := fun i => fMul_sm (by omega) (by omega)
  have m6 : ∀ i, 0 ≤ i → i < 2147483647 → fMul [.int i, .int i] = some (.v (.int (i * i))) := fun i h1 h2 => fMul_int (.inl ⟨by omega, by omega⟩)
  have d1 : ∀ i, fMod [.int i, .int 2147483647] = some (.v (.int (i % 2147483647))) := fun i => fMod_pos (by omega)
  have d2 : ∀ i, fMod [.int i, .int 2147483629] = some (.v (.int (i % 2147483629))) := fun i => fMod_pos (by omega)
  have d3 : ∀ i, fMod [.int i, .int 8191] = some (.v (.int (i % 8191))) := fun i => fMod_pos (by omega)
  have d4 : ∀ i, fMod [.int i, .int n] = some (.v (.int (i % n))) := fun i => fMod_pos hn
  have q1 : ∀ i, fDiv [.int i, .int 61] = some (.v (.int (i / 61))) := fun i => fDiv_pos (by omega) (by omega)
  have q2 : ∀ i, fDiv [.int i, .int n] = some (.v (.int (i / n))) := fun i => fDiv_pos hn (by omega)
  have em : ∀ z : Int, 0 ≤ z % n ∧ z % n < n := fun z => ⟨Int.emod_nonneg _ (by omega), Int.emod_lt_of_pos _ hn⟩
  have eM : ∀ z : Int, 0 ≤ z % 2147483647 ∧ z % 2147483647 < 2147483647 := fun z => ⟨Int.emod_nonneg _ (by omega), Int.emod_lt_of_pos _ (by omega)⟩
  have eD : ∀ z : Int, 0 ≤ z → 0 ≤ z / n := fun z hz => Int.ediv_nonneg hz (by omega)
  by_cases hA1 : j < n
  · by_cases hA2 : i < cs.length
    · have hc := atI_ints cs i hA2
      have hA2' : (i : Int) < (cs.length : Int) := by omega
      generalize hcc : cf cs i = c at hc
      by_cases hB : 1000000000000000000 ≤ (if c < 0 then -c else c)
      · generalize hab : (if c < 0 then -c else c) = ab at hB
        by_cases hC : n ≤ ab
        · refine ⟨ab % n, [.lst (cs.map D.int), .int (i + 1 : Nat), .int (ab / n), .int k], ?_, (em _).1, (em _).2, ⟨cs, i + 1, ab / n, k, rfl, hl, eD _ (by omega), hk, hk2⟩⟩
          simp only [evE, M__law_take, B__law_take, at4_0, at4_1, at4_2, at4_3, ix4_1, ix4_2, ix4_3, List.length_map, hA1, hA2', decide_true, decide_false, hc, pow18, hab, hB, hC, d4, q2]
          rfl
        · refine ⟨((((k * k % 2147483629) * 5 + k * 16811 + 2531011) % 2147483647) / 61 + (((k * k % 2147483629) * 5 + k * 16811 + 2531011) % 2147483647) % 8191 * 31) % n, [.lst (cs.map D.int), .int (i + 1 : Nat), .int ab, .int (((k * k % 2147483629) * 5 + k * 16811 + 2531011) % 2147483647)], ?_, (em _).1, (em _).2, ⟨cs, i + 1, ab, _, rfl, hl, by omega, (eM _).1, (eM _).2⟩⟩
          simp only [evE, M__law_take, B__law_take, at4_0, at4_1, at4_2, at4_3, ix4_1, ix4_2, ix4_3, List.length_map, hA1, hA2', decide_true, decide_false, hc, pow18, hab, hB, hC, d1, d2, d3, d4, q1, q2, m1, m2, m3, m4, m5, m6 k hk hk2]
          rfl
      · have hC : ¬ n ≤ 0 := by omega
        have hk' := eM (k * 48271 + c % 2147483629 * 69621 + 12345)
        generalize hkk : (k * 48271 + c % 2147483629 * 69621 + 12345) % 2147483647 = k' at hk'
        refine ⟨((((k' * k' % 2147483629) * 5 + k' * 16811 + 2531011) % 2147483647) / 61 + (((k' * k' % 2147483629) * 5 + k' * 16811 + 2531011) % 2147483647) % 8191 * 31) % n, [.lst (cs.map D.int), .int (i + 1 : Nat), .int 0, .int (((k' * k' % 2147483629) * 5 + k' * 16811 + 2531011) % 2147483647)], ?_, (em _).1, (em _).2, ⟨cs, i + 1, 0, _, rfl, hl, by omega, (eM _).1, (eM _).2⟩⟩
        simp only [evE, M__law_take, B__law_take, at4_0, at4_1, at4_2, at4_3, ix4_1, ix4_2, ix4_3, List.length_map, hA1, hA2', decide_true, decide_false, hc, pow18, hB, hC, d1, d2, d3, d4, q1, q2, m1, m2, m3, m4, m5, hkk, m6 k' hk'.1 hk'.2]
        rfl
    · have hA2' : ¬ (i : Int) < (cs.length : Int) := by omega
      have hC : ¬ n ≤ j := by omega
      refine ⟨((((k * k % 2147483629) * 5 + k * 16811 + 2531011) % 2147483647) / 61 + (((k * k % 2147483629) * 5 + k * 16811 + 2531011) % 2147483647) % 8191 * 31) % n, [.lst (cs.map D.int), .int i, .int j, .int (((k * k % 2147483629) * 5 + k * 16811 + 2531011) % 2147483647)], ?_, (em _).1, (em _).2, ⟨cs, i, j, _, rfl, hl, by omega, (eM _).1, (eM _).2⟩⟩
      simp only [evE, M__law_take, B__law_take, at4_0, at4_1, at4_2, at4_3, ix4_1, ix4_2, ix4_3, List.length_map, hA1, hA2', decide_true, decide_false, hC, d1, d2, d3, d4, q1, q2, m1, m2, m3, m4, m5, m6 k hk hk2]
  · have hC : n ≤ j := by omega
    refine ⟨j % n, [.lst (cs.map D.int), .int i, .int (j / n), .int k], ?_, (em _).1, (em _).2, ⟨cs, i, j / n, k, rfl, hl, eD _ hj, hk, hk2⟩⟩
    simp only [evE, M__law_take, B__law_take, at4_0, at4_1, at4_2, at4_3, ix4_1, ix4_2, ix4_3, List.length_map, hA1, decide_true, decide_false, hC, d4, q2]
theorem e__law_of (xs : List D) (h : Dr xs) (row : D) (ds : List D) (hr : row = .lst ds ∨ row = .tup ds) (h0 : 0 < ds.length) (hl : ds.length ≤ 1000000) : ∃ d xs', M__law_of xs [row] = .ok (.v d, xs') ∧ d ∈ ds ∧ Dr xs' := by
  obtain ⟨r, xs', e, h1, h2, hd⟩ := e__law_take xs h ds.length (by omega) (by omega)
  obtain ⟨m, rfl⟩ := Int.eq_ofNat_of_zero_le h1
  have hm : m < ds.length := by omega
  have ha : L2.atI ds (m : Int) = some ds[m] := L2.atI_nat (List.getElem?_eq_getElem hm)
  refine ⟨ds[m], xs', ?_, List.getElem_mem hm, hd⟩
  rcases hr with rfl | rfl
  · simp only [evE, M__law_of, B__law_of, e, ha]
  · simp only [evE, M__law_of, B__law_of, e, ha]
end Mn
namespace Mn
open PySem Rg Rm
theorem s_trim (t : Bool) (ns : List Int) (m : Nat) (hm : m ≤ ns.length) (h : m = 0 ∨ cf ns (m - 1) ≠ 0) : ∀ (ds : List D) (s : Sl), ∃ s', mForL (gN 2) Fb__law_trim_1 ds [.v (sq t ns), .v (.int m), s] = .ok (.nx [.v (sq t ns), .v (.int m), s'])
  | [], s => ⟨s, rfl⟩
  | d :: ds, s => by
    obtain ⟨s', ih⟩ := s_trim t ns m hm h ds (.v d)
    refine ⟨s', ?_⟩
    have hb : Fb__law_trim_1 [.v (sq t ns), .v (.int m), .v d] = .ok (.nx [.v (sq t ns), .v (.int m), .v d]) := by
      by_cases h0 : m = 0
      · subst h0
        have hd : decide ((0 : Int) < ((0 : Nat) : Int)) = false := by decide
        simp only [evE, Fb__law_trim_1, hd]
      · have hi : ((m : Int) - 1) = ((m - 1 : Nat) : Int) := by omega
        have hc : ¬ cf ns (m - 1) = 0 := h.resolve_left h0
        have hd : decide ((0 : Int) < (m : Int)) = true := by simp; omega
        have ha := atI_ints ns (m - 1) (by omega)
        cases t with
        | true => rw [sq_t]; simp only [evE, Fb__law_trim_1, hd, hi, ha, fEq_int, hc, decide_false]
        | false => rw [sq_f]; simp only [evE, Fb__law_trim_1, hd, hi, ha, fEq_int, hc, decide_false]
    rw [mForL_cons rfl hb]; exact ih
theorem e__law_same_ : ∀ (k : Nat) (d : D), Pl k d → M__law_same_ k [d, d] = .ok (.v (.bl true)) := by
  intro k
  induction k with
  | zero => intro d h; cases h
  | succ k ih =>
    intro d h
    cases h with
    | int n => simp only [evE, M__law_same_, B__law_same, is2_int, is_bi, is_ii, is_si, fNe_bl, fEq_bl, fEq_int, decide_true]
    | bl n => simp only [evE, M__law_same_, B__law_same, is2_bl, is_bb, is_ib, is_sb, fNe_bl, fEq_bl, decide_true]
    | non => simp only [evE, M__law_same_, B__law_same, is2_non]
    | str hs => simp only [evE, M__law_same_, B__law_same, is2_str, is_bs, is_is, is_ss, fNe_bl, fEq_bl, fEq_str hs, decide_true]
    | @tup _ ds hl h =>
      have hq := mLc_map (fun d : D => .tup [d, d]) (fun _ => .bl true) ds (mi := mZa (mA1 (mN 0) (mA1 (mN 1) mA0))) (f := gT 2 (gs1 (gN 2) (gs1 (gN 3) gs0))) (e := Le__law_same_1 (M__law_same_ k)) (vs := [2, 3]) (Γ := [.v (.tup ds), .v (.tup ds), .no, .no]) (Γ1 := [.v (.tup ds), .v (.tup ds), .no, .no])
        (by simp only [evE, zipD_self]) hl (fun x hx => by exact ⟨_, _, rfl, by simp only [evE, Le__law_same_1, ih x (h x hx)]; rfl, by rfl⟩)
      have hf := fAll_true ds
      simp only [evE, mLc] at hq
      simp only [evE, M__law_same_, B__law_same, is2_tup, is_lt, fNe_bl, fEq_int, decide_true, hq, hf]
    | @lst _ ds hl h =>
      have hq := mLc_map (fun d : D => .tup [d, d]) (fun _ => .bl true) ds (mi := mZa (mA1 (mN 0) (mA1 (mN 1) mA0))) (f := gT 2 (gs1 (gN 2) (gs1 (gN 3) gs0))) (e := Le__law_same_1 (M__law_same_ k)) (vs := [2, 3]) (Γ := [.v (.lst ds), .v (.lst ds), .no, .no]) (Γ1 := [.v (.lst ds), .v (.lst ds), .no, .no])
        (by simp only [evE, zipD_self]) hl (fun x hx => by exact ⟨_, _, rfl, by simp only [evE, Le__law_same_1, ih x (h x hx)]; rfl, by rfl⟩)
      have hf := fAll_true ds
      simp only [evE, mLc] at hq
      simp only [evE, M__law_same_, B__law_same, is2_lst, is_ll, fNe_bl, fEq_int, decide_true, hq, hf]
theorem e__law_same (d : D) (h : Pl 8 d) : M__law_same [d, d] = .ok (.v (.bl true)) := e__law_same_ 8 d h
end Mn
namespace Mn
open PySem Rg Rm
theorem mod_bd {p : Int} (hp : 0 < p) (z : Int) : 0 ≤ z % p ∧ z % p < p := ⟨Int.emod_nonneg _ (by omega), Int.emod_lt_of_pos _ hp⟩
def iv (p x : Int) : Int := x ^ (p - 2).toNat % p
theorem iv_tab : ∀ p ∈ k_PRIMES, ∀ x ∈ (List.range p.toNat), x = 0 ∨ (x : Int) * iv p x % p = 1 := by decide +kernel
theorem iv_ok {p x : Int} (hp : p ∈ k_PRIMES) (h0 : 0 < x) (h1 : x < p) : x * iv p x % p = 1 ∧ 0 ≤ iv p x ∧ iv p x < p := by
  have h2 := pr_le p hp
  refine ⟨?_, mod_bd (by omega) _⟩
  obtain ⟨n, rfl⟩ := Int.eq_ofNat_of_zero_le (Int.le_of_lt h0)
  rcases iv_tab p hp n (List.mem_range.mpr (by omega)) with h | h
  · omega
  · exact h
end Mn
namespace Rg
open PySem
end Rg
namespace Mn
open PySem Rg Rm
end Mn
namespace Rq
open Rm
abbrev F := Nat → Int
def tl (f : F) : F := fun k => f (k + 1)
def mu : Nat → F → F → Int
  | 0, f, g => f 0 * g 0
  | n + 1, f, g => f 0 * g (n + 1) + mu n (tl f) g
theorem mu_add_l : ∀ (n : Nat) (f f' g : F), mu n (fun k => f k + f' k) g = mu n f g + mu n f' g
  | 0, f, f', g => by simp only [mu]; grind
  | n + 1, f, f', g => by
    show (f 0 + f' 0) * g (n + 1) + mu n (fun k => tl f k + tl f' k) g = (f 0 * g (n + 1) + mu n (tl f) g) + (f' 0 * g (n + 1) + mu n (tl f') g)
    rw [mu_add_l n]; grind
theorem mu_smul_l (c : Int) : ∀ (n : Nat) (f g : F), mu n (fun k => c * f k) g = c * mu n f g
  | 0, f, g => by simp only [mu]; grind
  | n + 1, f, g => by
    show c * f 0 * g (n + 1) + mu n (fun k => c * tl f k) g = c * (f 0 * g (n + 1) + mu n (tl f) g)
    rw [mu_smul_l c n]; grind
theorem mu_add_r : ∀ (n : Nat) (f g g' : F), mu n f (fun k => g k + g' k) = mu n f g + mu n f g'
  | 0, f, g, g' => by simp only [mu]; grind
  | n + 1, f, g, g' => by simp only [mu, mu_add_r n]; grind
theorem mu_smul_r (c : Int) : ∀ (n : Nat) (f g : F), mu n f (fun k => c * g k) = c * mu n f g
  | 0, f, g => by simp only [mu]; grind
  | n + 1, f, g => by simp only [mu, mu_smul_r c n]; grind
theorem mu_dual : ∀ (n : Nat) (f g : F), mu (n + 1) f g = mu n f (tl g) + f (n + 1) * g 0
  | 0, f, g => by simp only [mu, tl]
  | n + 1, f, g => by
    rw [mu, mu_dual n (tl f) g, mu]
    show f 0 * g (n + 2) + (mu n (tl f) (tl g) + f (n + 2) * g 0) = f 0 * g (n + 2) + mu n (tl f) (tl g) + f (n + 2) * g 0
    omega
theorem mu_comm : ∀ (n : Nat) (f g : F), mu n f g = mu n g f
  | 0, f, g => by simp only [mu]; grind
  | n + 1, f, g => by rw [mu, mu_dual, mu_comm n]; grind
theorem mu_assoc : ∀ (n : Nat) (f g h : F), mu n (fun k => mu k f g) h = mu n f (fun k => mu k g h)
  | 0, f, g, h => by simp only [mu]; grind
  | n + 1, f, g, h => by
    have e : tl (fun k => mu k f g) = fun k => f 0 * tl g k + mu k (tl f) g := by
      funext k; simp only [tl, mu]
    rw [mu, e, mu_add_l, mu_smul_l, mu_assoc n, mu]
    simp only [mu]; grind
def cst (i : Int) : F := fun k => if k = 0 then i else 0
theorem mu_cst (i : Int) : ∀ (n : Nat) (g : F), mu n (cst i) g = i * g n
  | 0, g => by simp [mu, cst]
  | n + 1, g => by
    have e : tl (cst i) = fun k => 0 * cst i k := by funext k; simp [tl, cst]
    rw [mu, e, mu_smul_l]; simp [cst]
def al (p : Int) (f g : F) : Prop := ∃ h : F, ∀ k, f k = g k + p * h k
def st (p : Int) : Setoid F := ⟨al p, ⟨fun f => ⟨fun _ => 0, fun k => by simp⟩, fun ⟨h, e⟩ => ⟨fun k => - h k, fun k => by rw [e k]; grind⟩, fun ⟨h, e⟩ ⟨h', e'⟩ => ⟨fun k => h k + h' k, fun k => by rw [e k, e' k]; grind⟩⟩⟩
def Sr (p : Int) : Type := Quotient (st p)
def mk (p : Int) (f : F) : Sr p := Quotient.mk (st p) f
theorem mk_eq {p : Int} {f g : F} (h : al p f g) : mk p f = mk p g := Quotient.sound h
theorem mk_al {p : Int} {f g : F} (h : mk p f = mk p g) : al p f g := Quotient.exact h
theorem ind {p : Int} {C : Sr p → Prop} (h : ∀ f, C (mk p f)) (a : Sr p) : C a := Quotient.ind (s := st p) h a
variable {p : Int}
def add (a b : Sr p) : Sr p := Quotient.liftOn₂ (s₁ := st p) (s₂ := st p) a b (fun f g => mk p fun k => f k + g k) (fun f g f' g' ⟨h, e⟩ ⟨h', e'⟩ => mk_eq ⟨fun k => h k + h' k, fun k => by show f k + g k = f' k + g' k + p * (h k + h' k); rw [e k, e' k]; grind⟩)
def mul (a b : Sr p) : Sr p := Quotient.liftOn₂ (s₁ := st p) (s₂ := st p) a b (fun f g => mk p fun k => mu k f g) (fun f g f' g' ⟨h, e⟩ ⟨h', e'⟩ => mk_eq ⟨fun k => mu k h g + mu k f' h', fun k => by
  have e1 : f = fun k => f' k + p * h k := funext e
  have e2 : g = fun k => g' k + p * h' k := funext e'
  have : mu k f g = mu k f' g + p * mu k h g := by
    conv => lhs; rw [e1]
    rw [mu_add_l, mu_smul_l]
  show mu k f g = mu k f' g' + p * (mu k h g + mu k f' h')
  rw [this]
  have : mu k f' g = mu k f' g' + p * mu k f' h' := by
    conv => lhs; rw [e2]
    rw [mu_add_r, mu_smul_r]
  rw [this]; grind⟩)
def neg (a : Sr p) : Sr p := Quotient.liftOn (s := st p) a (fun f => mk p fun k => - f k) (fun f g ⟨h, e⟩ => mk_eq ⟨fun k => - h k, fun k => by show - f k = - g k + p * - h k; rw [e k]; grind⟩)
def icst (i : Int) : Sr p := mk p (cst i)
def npow (a : Sr p) : Nat → Sr p
  | 0 => icst 1
  | n + 1 => mul (npow a n) a
theorem mk_add (f g : F) : add (mk p f) (mk p g) = mk p fun k => f k + g k := rfl
theorem mk_mul (f g : F) : mul (mk p f) (mk p g) = mk p fun k => mu k f g := rfl
theorem mk_neg (f : F) : neg (mk p f) = mk p fun k => - f k := rfl
theorem mul_comm (a b : Sr p) : mul a b = mul b a := by
  induction a using ind; induction b using ind
  rename_i f g
  rw [mk_mul, mk_mul]; congr 1; funext k; exact mu_comm k f g
instance : Lean.Grind.CommRing (Sr p) where
  add := add
  mul := mul
  neg := neg
  sub a b := add a (neg b)
  natCast := ⟨fun n => icst n⟩
  ofNat n := ⟨icst n⟩
  intCast := ⟨icst⟩
  nsmul := ⟨fun n a => mul (icst n) a⟩
  zsmul := ⟨fun i a => mul (icst i) a⟩
  npow := ⟨npow⟩
  add_zero a := by
    induction a using ind
    show add (mk p _) (mk p _) = _
    rw [mk_add]; congr 1; funext k; simp [cst]
  add_comm a b := by
    induction a using ind; induction b using ind
    show add (mk p _) (mk p _) = add (mk p _) (mk p _)
    rw [mk_add, mk_add]; congr 1; funext k; omega
  add_assoc a b c := by
    induction a using ind; induction b using ind; induction c using ind
    show add (add (mk p _) (mk p _)) (mk p _) = add (mk p _) (add (mk p _) (mk p _))
    rw [mk_add, mk_add, mk_add, mk_add]; congr 1; funext k; omega
  mul_assoc a b c := by
    induction a using ind; induction b using ind; induction c using ind
    show mul (mul (mk p _) (mk p _)) (mk p _) = mul (mk p _) (mul (mk p _) (mk p _))
    rw [mk_mul, mk_mul, mk_mul, mk_mul]; congr 1; funext k; exact mu_assoc ..
  mul_one a := by
    induction a using ind
    show mul (mk p _) (mk p _) = _
    rw [mul_comm, mk_mul]; congr 1; funext k; simp [mu_cst]
  one_mul a := by
    induction a using ind
    show mul (mk p _) (mk p _) = _
    rw [mk_mul]; congr 1; funext k; simp [mu_cst]
  left_distrib a b c := by
    induction a using ind; induction b using ind; induction c using ind
    show mul (mk p _) (add (mk p _) (mk p _)) = add (mul (mk p _) (mk p _)) (mul (mk p _) (mk p _))
    rw [mk_add, mk_mul, mk_mul, mk_mul, mk_add]; congr 1; funext k; exact mu_add_r ..
  right_distrib a b c := by
    induction a using ind; induction b using ind; induction c using ind
    show mul (add (mk p _) (mk p _)) (mk p _) = add (mul (mk p _) (mk p _)) (mul (mk p _) (mk p _))
    rw [mk_add, mk_mul, mk_mul, mk_mul, mk_add]; congr 1; funext k; exact mu_add_l ..
  zero_mul a := by
    induction a using ind
    show mul (mk p _) (mk p _) = mk p _
    rw [mk_mul]; congr 1; funext k; simp [mu_cst, cst]
  mul_zero a := by
    induction a using ind
    show mul (mk p _) (mk p _) = mk p _
    rw [mul_comm, mk_mul]; congr 1; funext k; simp [mu_cst, cst]
  pow_zero a := rfl
  pow_succ a n := rfl
  ofNat_succ n := by
    show mk p _ = add (mk p _) (mk p _)
    rw [mk_add]; congr 1; funext k; simp only [cst]; split <;> simp
  neg_add_cancel a := by
    induction a using ind
    show add (neg (mk p _)) (mk p _) = mk p _
    rw [mk_neg, mk_add]; congr 1; funext k; simp [cst]; omega
  sub_eq_add_neg a b := rfl
  neg_zsmul i a := by
    induction a using ind
    show mul (mk p _) (mk p _) = neg (mul (mk p _) (mk p _))
    rw [mk_mul, mk_mul, mk_neg]; congr 1; funext k; simp only [mu_cst]; grind
  intCast_neg i := by
    show mk p _ = neg (mk p _)
    rw [mk_neg]; congr 1; funext k; simp only [cst]; split <;> simp
  mul_comm := mul_comm
example (a b : Sr p) : (a + b) * (a - b) = a * a - b * b := by grind
end Rq
namespace Rq
open Rm
variable {p : Int}
def s (p : Int) (a : List Int) : Sr p := mk p (cf a)
theorem ic_add (i j : Int) : (icst (i + j) : Sr p) = icst i + icst j := by
  show mk p _ = add (mk p _) (mk p _)
  rw [mk_add]; congr 1; funext k; simp only [cst]; split <;> simp
theorem ic_mul (i j : Int) : (icst (i * j) : Sr p) = icst i * icst j := by
  show mk p _ = mul (mk p _) (mk p _)
  rw [mk_mul]; congr 1; funext k; rw [mu_cst]; simp only [cst]; split <;> simp
theorem ic_neg (i : Int) : (icst (-i) : Sr p) = - icst i := by
  show mk p _ = neg (mk p _)
  rw [mk_neg]; congr 1; funext k; simp only [cst]; split <;> simp
theorem ic_one : (icst 1 : Sr p) = 1 := rfl
theorem ic_p : (icst p : Sr p) = 0 := mk_eq ⟨cst 1, fun k => by simp only [cst]; split <;> simp⟩
theorem ic_mod (i : Int) : (icst (i % p) : Sr p) = icst i := mk_eq ⟨cst (-(i / p)), fun k => by
  simp only [cst]; split
  · have := Int.emod_add_mul_ediv i p; grind
  · simp⟩
theorem ic_sub (i j : Int) : (icst (i - j) : Sr p) = icst i - icst j := by
  rw [Int.sub_eq_add_neg, ic_add, ic_neg]; grind
theorem mk_mod {f g : F} (h : ∀ k, f k % p = g k % p) : mk p f = mk p g := mk_eq ⟨fun k => f k / p - g k / p, fun k => by
  have h1 := Int.emod_add_mul_ediv (f k) p
  have h2 := Int.emod_add_mul_ediv (g k) p
  have h3 := h k
  grind⟩
theorem s_mod {a : List Int} {f : F} (h : ∀ k, cf a k = f k % p) : s p a = mk p f := mk_mod fun k => by rw [h k]; exact Int.emod_emod_of_dvd _ (Int.dvd_refl _)
theorem s_ext {a b : List Int} (h : ∀ k, cf a k = cf b k) : s p a = s p b := by unfold s; congr 1; funext k; exact h k
theorem s_trim (a : List Int) : s p (trim a) = s p a := s_ext (trim_cf a)
theorem s_nil : s p [] = 0 := by
  show mk p _ = mk p _
  congr 1; funext k; simp [cf_nil, cst]
theorem s_one (x : Int) : s p [x] = icst x := by
  show mk p _ = mk p _
  congr 1; funext k
  cases k with
  | zero => rfl
  | succ k => rw [cf_succ, cf_nil]; simp [cst]
theorem s_bl (w : Int) (a b : List Int) : s p (bl p w a b) = s p a + icst w * s p b := by
  show _ = add (mk p _) (mul (mk p _) (mk p _))
  rw [mk_mul, mk_add]
  exact s_mod fun k => by rw [bl_cf, mu_cst]
theorem tl_cons (x : Int) (a : List Int) : tl (cf (x :: a)) = cf a := by funext k; simp only [tl, cf_succ]
theorem mu_nil : ∀ (n : Nat) (g : F), mu n (cf []) g = 0
  | 0, g => by simp [mu, cf_nil]
  | n + 1, g => by
    have e : tl (cf []) = cf [] := by funext k; simp [tl, cf_nil]
    rw [mu, e, mu_nil n]; simp [cf_nil]
theorem cv_lo (b : List Int) : ∀ (a : List Int) (k j : Nat), j < k → cv b a k j = 0
  | [], _, _, _ => rfl
  | x :: a, k, j, h => by rw [cv, if_neg (by omega), cv_lo b a (k + 1) j (by omega)]; rfl
theorem cv_mu (b : List Int) : ∀ (a : List Int) (k n : Nat), cv b a k (k + n) = mu n (cf a) (cf b)
  | [], k, n => by rw [mu_nil]; rfl
  | x :: a, k, 0 => by
    rw [cv, if_pos (by omega), cv_lo b a (k + 1) (k + 0) (by omega), mu]
    simp [cf_zero]
  | x :: a, k, n + 1 => by
    have e : k + (n + 1) = k + 1 + n := by omega
    rw [cv, if_pos (by omega), mu, tl_cons]
    rw [show cv b a (k + 1) (k + (n + 1)) = mu n (cf a) (cf b) by rw [e]; exact cv_mu b a (k + 1) n]
    simp [cf_zero]
theorem s_mulP (a b : List Int) : s p (mulP p a b) = s p a * s p b := by
  show _ = mul (mk p _) (mk p _)
  rw [mk_mul]
  exact s_mod fun k => by
    rw [mulP_cf]
    have := cv_mu b a 0 k
    rw [Nat.zero_add] at this
    rw [this]
theorem s_inj (hp : 0 < p) {a b : List Int} (ha : Po p a) (hb : Po p b) (h : s p a = s p b) : a = b := by
  obtain ⟨g, e⟩ := mk_al h
  refine trim_eq_of_ext ha.t hb.t fun k => ?_
  have h1 := ha.cf hp k
  have h2 := hb.cf hp k
  have h3 := e k
  have : g k = 0 := by
    rcases Int.lt_trichotomy (g k) 0 with hg | hg | hg
    · have := Int.mul_le_mul_of_nonneg_left (show g k ≤ -1 by omega) (Int.le_of_lt hp)
      omega
    · exact hg
    · have := Int.mul_le_mul_of_nonneg_left (show 1 ≤ g k by omega) (Int.le_of_lt hp)
      omega
  rw [this] at h3
  omega
def X (m : Nat) : Sr p := mk p fun k => if k = m then 1 else 0
theorem mu_X : ∀ (n m : Nat) (g : F), mu n (fun k => if k = m then 1 else 0) g = if m ≤ n then g (n - m) else 0
  | 0, 0, g => by simp [mu]
  | 0, m + 1, g => by simp [mu]
  | n + 1, 0, g => by
    have e : tl (fun k => if k = 0 then (1 : Int) else 0) = cf [] := by funext k; simp [tl, cf_nil]
    rw [mu, e, mu_nil]; simp
  | n + 1, m + 1, g => by
    have e : tl (fun k => if k = m + 1 then (1 : Int) else 0) = fun k => if k = m then 1 else 0 := by funext k; simp [tl]
    rw [mu, e, mu_X n m]; simp
theorem s_addAtM (c : Int) {b f : List Int} {k : Nat} (hr : Red p f) (h : k + b.length ≤ f.length) : s p (addAtM p c f k b) = s p f + icst c * (X k * s p b) := by
  show _ = add (mk p _) (mul (mk p _) (mul (mk p _) (mk p _)))
  rw [mk_mul, mk_mul, mk_add]
  refine s_mod fun j => ?_
  rw [addAtM_cf p c b f k j hr h, mu_cst, mu_X]
  split <;> simp
theorem s_set {q : List Int} {i : Nat} {w : Int} (h : i < q.length) (h0 : cf q i = 0) : s p (q.set i w) = s p q + icst w * X i := by
  show mk p _ = add (mk p _) (mul (mk p _) (mk p _))
  rw [mk_mul, mk_add]
  congr 1; funext k
  rw [cf_set h, mu_cst]
  split
  · rename_i e; subst e; rw [h0]; simp
  · simp
def dvS (p bk : Int) (r : List Int) : Nat → List Int → List Int → List Int × List Int
  | 0, l, q => (l, q)
  | m + 1, l, q => dvS p bk r m (addAtM p (-(cf l (m + (r.length - 1)) * bk % p)) l m r) (q.set m (cf l (m + (r.length - 1)) * bk % p))
theorem dvS_ok {r a : List Int} {bk : Int} (hr : r ≠ []) (hb : cf r (r.length - 1) * bk % p = 1 % p) (hp : 0 < p) : ∀ (m : Nat) (l q : List Int), Red p l → m + (r.length - 1) ≤ l.length → m ≤ q.length → (∀ k, m + (r.length - 1) ≤ k → cf l k = 0) →
    (∀ k, k < m → cf q k = 0) → s p a = s p q * s p r + s p l → Red p (dvS p bk r m l q).1 ∧ (dvS p bk r m l q).1.length = l.length ∧ (dvS p bk r m l q).2.length = q.length ∧ (∀ k, r.length - 1 ≤ k → cf (dvS p bk r m l q).1 k = 0) ∧ s p a = s p (dvS p bk r m l q).2 * s p r + s p (dvS p bk r m l q).1
  | 0, l, q, h1, h2, h3, h4, h5, h6 => ⟨h1, rfl, rfl, fun k hk => h4 k (by omega), h6⟩
  | m + 1, l, q, h1, h2, h3, h4, h5, h6 => by
    have hr0 : 0 < r.length := List.length_pos_iff.mpr hr
    rw [dvS]
    generalize hw : cf l (m + (r.length - 1)) * bk % p = w
    have hl := addAtM_length p (-w) r l m
    have hx := s_addAtM (p := p) (-w) (b := r) (f := l) (k := m) h1 (by omega)
    have hy := s_set (p := p) (q := q) (i := m) (w := w) (by omega) (h5 m (by omega))
    have key := dvS_ok hr hb hp m (addAtM p (-w) l m r) (q.set m w) (addAtM_red p _ h1 (by omega)) (by omega) (by simp; omega) (fun k hk => by
        rw [addAtM_cf p (-w) r l m k h1 (by omega), if_pos (by omega)]
        by_cases e : k = m + (r.length - 1)
        · subst e
          have e2 : m + (r.length - 1) - m = r.length - 1 := by omega
          rw [e2]
          have e3 : w % p = cf l (m + (r.length - 1)) * bk % p := by rw [← hw]; exact Int.emod_emod_of_dvd _ (Int.dvd_refl _)
          have e4 : (w * cf r (r.length - 1)) % p = cf l (m + (r.length - 1)) % p := by
            rw [Int.mul_emod, e3, ← Int.mul_emod, Int.mul_assoc, Int.mul_comm bk, Int.mul_emod, hb, ← Int.mul_emod, Int.mul_one]
          have e5 : (cf l (m + (r.length - 1)) + -w * cf r (r.length - 1)) % p = 0 := by
            have : cf l (m + (r.length - 1)) + -w * cf r (r.length - 1) = cf l (m + (r.length - 1)) - w * cf r (r.length - 1) := by grind
            rw [this, Int.sub_emod, e4]; simp
          exact e5
        · rw [cf_ge (a := r) (by omega), h4 k (by omega)]; simp)
      (fun k hk => by rw [cf_set (by omega), if_neg (by omega)]; exact h5 k (by omega))
      (by rw [h6, hx, hy, ic_neg]; grind)
    rw [hl, List.length_set] at key
    exact key
end Rq
namespace Rq
open Rm
variable {p : Int}
theorem Red.bd (hp : 0 < p) {a : List Int} (h : Red p a) (k : Nat) : 0 ≤ cf a k ∧ cf a k < p := by
  rw [← h k]; exact ⟨Int.emod_nonneg _ (by omega), Int.emod_lt_of_pos _ hp⟩
theorem Po.red (hp : 0 < p) {a : List Int} (h : Po p a) : Red p a := fun k => by
  have := h.cf hp k
  exact Int.emod_eq_of_lt this.1 this.2
def qt (p bk : Int) (a r : List Int) : List Int := trim (dvS p bk r (a.length + 1 - r.length) a (List.replicate (a.length + 1 - r.length) 0)).2
def rm (p bk : Int) (a r : List Int) : List Int := trim (dvS p bk r (a.length + 1 - r.length) a (List.replicate (a.length + 1 - r.length) 0)).1
theorem dvS_len (bk : Int) (r : List Int) : ∀ (m : Nat) (l q : List Int), (dvS p bk r m l q).1.length = l.length ∧ (dvS p bk r m l q).2.length = q.length
  | 0, l, q => ⟨rfl, rfl⟩
  | m + 1, l, q => by
    have := dvS_len bk r m (addAtM p (-(cf l (m + (r.length - 1)) * bk % p)) l m r) (q.set m (cf l (m + (r.length - 1)) * bk % p))
    rw [dvS]; rw [this.1, this.2, addAtM_length]; simp
theorem dvS_q (hp : 0 < p) (bk : Int) (r : List Int) : ∀ (m : Nat) (l q : List Int), (∀ x ∈ q, 0 ≤ x ∧ x < p) → ∀ x ∈ (dvS p bk r m l q).2, 0 ≤ x ∧ x < p
  | 0, l, q, h => h
  | m + 1, l, q, h => by
    rw [dvS]
    refine dvS_q hp bk r m _ _ fun x hx => ?_
    rcases List.mem_or_eq_of_mem_set hx with hx | rfl
    · exact h x hx
    · exact ⟨Int.emod_nonneg _ (by omega), Int.emod_lt_of_pos _ hp⟩
theorem Red.trim {a : List Int} (hp : 0 < p) (h : Red p a) : Po p (Rm.trim a) := .of_cf (trim_trim a) fun k => by rw [trim_cf]; exact Red.bd hp h k
theorem trim_short {a : List Int} {n : Nat} (h : ∀ k, n ≤ k → cf a k = 0) : (trim a).length ≤ n := by
  by_cases e : n < (trim a).length
  · exfalso
    have hn : trim a ≠ [] := fun z => by rw [z] at e; simp at e
    have := trim_last (trim_trim a) hn
    rw [trim_cf, h _ (by omega)] at this
    simp at this
  · omega
theorem qr_ok {bk : Int} {a r : List Int} (hp : 0 < p) (ha : Po p a) (hr : r ≠ []) (hb : cf r (r.length - 1) * bk % p = 1 % p) :
    Po p (qt p bk a r) ∧ Po p (rm p bk a r) ∧ (rm p bk a r).length < r.length ∧ (qt p bk a r).length ≤ a.length + 1 - r.length ∧ s p a = s p (qt p bk a r) * s p r + s p (rm p bk a r) := by
  have hr0 : 0 < r.length := List.length_pos_iff.mpr hr
  have hq : Po p (qt p bk a r) := Po.trim (dvS_q hp bk r _ _ _ fun x hx => by
    rw [List.mem_replicate] at hx; rw [hx.2]; exact ⟨Int.le_refl _, hp⟩)
  have hql : (qt p bk a r).length ≤ a.length + 1 - r.length := by
    have h1 := trim_length_le (dvS p bk r (a.length + 1 - r.length) a (List.replicate (a.length + 1 - r.length) 0)).2
    have h2 := (dvS_len (p := p) bk r (a.length + 1 - r.length) a (List.replicate (a.length + 1 - r.length) 0)).2
    rw [h2, List.length_replicate] at h1
    exact h1
  by_cases hl : a.length + 1 < r.length
  · have e : a.length + 1 - r.length = 0 := by omega
    have e1 : rm p bk a r = a := by unfold rm; rw [e, dvS]; exact ha.t
    have e2 : qt p bk a r = [] := by unfold qt; rw [e, dvS]; rfl
    refine ⟨hq, by rw [e1]; exact ha, by rw [e1]; omega, hql, ?_⟩
    rw [e1, e2, s_nil]; grind
  · have key := dvS_ok (p := p) (r := r) (a := a) (bk := bk) hr hb hp (a.length + 1 - r.length) a (List.replicate (a.length + 1 - r.length) 0) (Po.red hp ha) (by omega) (by simp) (fun k hk => cf_ge (by omega)) (fun k hk => cf_replicate ..)
      (by
        have : s p (List.replicate (a.length + 1 - r.length) 0) = 0 := by rw [← s_nil]; exact s_ext fun k => by rw [cf_replicate, cf_nil]
        rw [this]; grind)
    refine ⟨hq, Red.trim hp key.1, ?_, hql, ?_⟩
    · have := trim_short (a := (dvS p bk r (a.length + 1 - r.length) a (List.replicate (a.length + 1 - r.length) 0)).1) (n := r.length - 1) key.2.2.2.1
      unfold rm; omega
    · unfold qt rm; rw [s_trim, s_trim]; exact key.2.2.2.2
end Rq
namespace Mn
open PySem Rg Rm
def qs (p : Int) (a r : List Int) : List Int := Rq.qt p (iv p (cf r (r.length - 1))) a r
def rs' (p : Int) (a r : List Int) : List Int := Rq.rm p (iv p (cf r (r.length - 1))) a r
theorem last_bd {p : Int} {r : List Int} (hp : p ∈ k_PRIMES) (h : Po p r) (hr : r ≠ []) : 0 < cf r (r.length - 1) ∧ cf r (r.length - 1) < p := by
  have h1 := pr_le p hp
  have h2 := h.cf (by omega) (r.length - 1)
  have h3 := trim_last h.t hr
  omega
theorem last_iv {p : Int} {r : List Int} (hp : p ∈ k_PRIMES) (h : Po p r) (hr : r ≠ []) : cf r (r.length - 1) * iv p (cf r (r.length - 1)) % p = 1 % p := by
  have h1 := pr_le p hp
  have h2 := last_bd hp h hr
  rw [(iv_ok hp h2.1 h2.2).1, Int.emod_eq_of_lt (by omega) (by omega)]
theorem qr_ok {p : Int} {a r : List Int} (hp : p ∈ k_PRIMES) (ha : Po p a) (hrp : Po p r) (hr : r ≠ []) :
    Po p (qs p a r) ∧ Po p (rs' p a r) ∧ (rs' p a r).length < r.length ∧ (qs p a r).length ≤ a.length + 1 - r.length ∧ Rq.s p a = Rq.s p (qs p a r) * Rq.s p r + Rq.s p (rs' p a r) :=
  Rq.qr_ok (by have := pr_le p hp; omega) ha hr (last_iv hp hrp hr)
end Mn
namespace Rq
open Rm
variable {p : Int}
theorem mu_zero : ∀ (n : Nat) (f g : F), (∀ i, f i = 0) → mu n f g = 0
  | 0, f, g, h => by simp [mu, h]
  | n + 1, f, g, h => by rw [mu, h 0, mu_zero n (tl f) g fun i => h (i + 1)]; simp
theorem mu_top : ∀ (m k : Nat) (f g : F), (∀ i, m < i → f i = 0) → (∀ i, k < i → g i = 0) → mu (m + k) f g = f m * g k
  | 0, 0, f, g, hf, hg => by simp [mu]
  | 0, k + 1, f, g, hf, hg => by
    rw [Nat.zero_add, mu, mu_zero k (tl f) g fun i => hf (i + 1) (by omega)]; simp
  | m + 1, k, f, g, hf, hg => by
    have e : m + 1 + k = m + k + 1 := by omega
    rw [e, mu, mu_top m k (tl f) g (fun i hi => hf (i + 1) (by omega)) hg, hg (m + k + 1) (by omega)]
    simp [tl]
def Pri (p : Int) : Prop := 1 < p ∧ ∀ x y : Int, 0 < x → x < p → 0 < y → y < p → x * y % p ≠ 0
theorem mul_len (hp : Pri p) {a b : List Int} (ha : Po p a) (hb : Po p b) (ha0 : a ≠ []) (hb0 : b ≠ []) : (mulP p a b).length = a.length + b.length - 1 := by
  have h1 : 0 < a.length := List.length_pos_iff.mpr ha0
  have h2 : 0 < b.length := List.length_pos_iff.mpr hb0
  have hp0 : 0 < p := by have := hp.1; omega
  have top : cf (mulP p a b) (a.length - 1 + (b.length - 1)) ≠ 0 := by
    rw [mulP_cf]
    have e := cv_mu b a 0 (a.length - 1 + (b.length - 1))
    rw [Nat.zero_add] at e
    rw [e, mu_top _ _ _ _ (fun i hi => cf_ge (by omega)) (fun i hi => cf_ge (by omega))]
    have c1 := ha.cf hp0 (a.length - 1)
    have c2 := hb.cf hp0 (b.length - 1)
    have c3 := trim_last ha.t ha0
    have c4 := trim_last hb.t hb0
    exact hp.2 _ _ (by omega) (by omega) (by omega) (by omega)
  have u := mulP_length (p := p) a b (a.length + b.length - 1) (by omega)
  by_cases l : a.length - 1 + (b.length - 1) < (mulP p a b).length
  · omega
  · exact absurd (cf_ge (by omega)) top
theorem s_less (a b : List Int) : s p (bl p (p - 1) a b) = s p a - s p b := by
  rw [s_bl, ic_sub, ic_p, ic_one]; grind
theorem s_plus (a b : List Int) : s p (bl p 1 a b) = s p a + s p b := by
  rw [s_bl, ic_one]; grind
theorem po_nil : Po p [] := ⟨rfl, by simp⟩
theorem s_eq_nil (hp : 0 < p) {a : List Int} (ha : Po p a) (h : s p a = 0) : a = [] := s_inj hp ha po_nil (by rw [h, s_nil])
def Dvd (p : Int) (g a : List Int) : Prop := ∃ q, Po p q ∧ s p a = s p q * s p g
theorem Dvd.self (hp : 1 < p) (a : List Int) : Dvd p a a := ⟨[1], ⟨by decide, by simp; omega⟩, by rw [s_one, ic_one]; grind⟩
theorem Dvd.zero (g : List Int) : Dvd p g [] := ⟨[], po_nil, by rw [s_nil]; grind⟩
def scl (p w : Int) (a : List Int) : List Int := trim (a.map fun x => x * w % p)
theorem scl_cf (w : Int) (a : List Int) (k : Nat) : cf (scl p w a) k = cf a k * w % p := by
  rw [scl, trim_cf, cf_map _ (by simp)]
theorem s_scl (w : Int) (a : List Int) : s p (scl p w a) = icst w * s p a := by
  show _ = mul (mk p _) (mk p _)
  rw [mk_mul]
  exact s_mod fun k => by rw [scl_cf, mu_cst, Int.mul_comm]
theorem Po.scl (hp : 0 < p) (w : Int) (a : List Int) : Po p (scl p w a) := .of_cf (trim_trim _) fun k => by
  rw [scl_cf]; exact ⟨Int.emod_nonneg _ (by omega), Int.emod_lt_of_pos _ hp⟩
theorem ic_unit {w v : Int} (h : w * v % p = 1 % p) : (icst w : Sr p) * icst v = 1 := by
  rw [← ic_mul, ← ic_mod, h, ic_mod, ic_one]
theorem Dvd.scl (hp : 0 < p) {w v : Int} {g a : List Int} (h : w * v % p = 1 % p) (d : Dvd p g a) : Dvd p (Rq.scl p w g) a := by
  obtain ⟨q, hq, e⟩ := d
  refine ⟨Rq.scl p v q, Po.scl hp .., ?_⟩
  have := ic_unit h
  rw [s_scl, s_scl, e]; grind
end Rq
namespace Mn
open PySem Rg Rm
end Mn
namespace Rq
open Rm
variable {p : Int}
def IsP (x : Sr p) : Prop := ∃ a, Po p a ∧ x = s p a
theorem IsP.s {a : List Int} (h : Po p a) : IsP (s p a) := ⟨a, h, rfl⟩
theorem IsP.add (hp : 0 < p) {x y : Sr p} (h1 : IsP x) (h2 : IsP y) : IsP (x + y) := by
  obtain ⟨a, _, rfl⟩ := h1; obtain ⟨b, _, rfl⟩ := h2
  exact ⟨bl p 1 a b, Po.bl hp .., by rw [s_plus]⟩
theorem IsP.sub (hp : 0 < p) {x y : Sr p} (h1 : IsP x) (h2 : IsP y) : IsP (x - y) := by
  obtain ⟨a, _, rfl⟩ := h1; obtain ⟨b, _, rfl⟩ := h2
  exact ⟨bl p (p - 1) a b, Po.bl hp .., by rw [s_less]⟩
theorem IsP.mul (hp : 0 < p) {x y : Sr p} (h1 : IsP x) (h2 : IsP y) : IsP (x * y) := by
  obtain ⟨a, _, rfl⟩ := h1; obtain ⟨b, _, rfl⟩ := h2
  exact ⟨mulP p a b, Po.mulP hp .., by rw [s_mulP]⟩
theorem IsP.zero : IsP (0 : Sr p) := ⟨[], po_nil, by rw [s_nil]⟩
theorem IsP.cst (hp : 0 < p) (i : Int) : IsP (icst i : Sr p) := ⟨trim [i % p], Po.trim (by simp; exact ⟨Int.emod_nonneg _ (by omega), Int.emod_lt_of_pos _ hp⟩), by rw [s_trim, s_one, ic_mod]⟩
theorem IsP.one (hp : 0 < p) : IsP (1 : Sr p) := IsP.cst hp 1
theorem IsP.pow (hp : 0 < p) {x : Sr p} (h : IsP x) : ∀ n : Nat, IsP (x ^ n)
  | 0 => IsP.one hp
  | n + 1 => (IsP.pow hp h n).mul hp h
def Cg (r x y : Sr p) : Prop := ∃ q, IsP q ∧ x = q * r + y
theorem Cg.rfl' (r x : Sr p) : Cg r x x := ⟨0, IsP.zero, by grind⟩
theorem Cg.symm (hp : 0 < p) {r x y : Sr p} (h : Cg r x y) : Cg r y x := by
  obtain ⟨q, hq, e⟩ := h
  exact ⟨0 - q, IsP.zero.sub hp hq, by rw [e]; grind⟩
theorem Cg.trans (hp : 0 < p) {r x y z : Sr p} (h : Cg r x y) (h' : Cg r y z) : Cg r x z := by
  obtain ⟨q, hq, e⟩ := h
  obtain ⟨q', hq', e'⟩ := h'
  exact ⟨q + q', hq.add hp hq', by rw [e, e']; grind⟩
theorem Cg.add (hp : 0 < p) {r x y x' y' : Sr p} (h : Cg r x y) (h' : Cg r x' y') : Cg r (x + x') (y + y') := by
  obtain ⟨q, hq, e⟩ := h
  obtain ⟨q', hq', e'⟩ := h'
  exact ⟨q + q', hq.add hp hq', by rw [e, e']; grind⟩
theorem Cg.mul (hp : 0 < p) {r x y x' y' : Sr p} (hr : IsP r) (hy : IsP y) (hy' : IsP y') (h : Cg r x y) (h' : Cg r x' y') : Cg r (x * x') (y * y') := by
  obtain ⟨q, hq, e⟩ := h
  obtain ⟨q', hq', e'⟩ := h'
  exact ⟨q * q' * r + q * y' + q' * y, (((hq.mul hp hq').mul hp hr).add hp (hq.mul hp hy')).add hp (hq'.mul hp hy), by rw [e, e']; grind⟩
theorem Cg.pow (hp : 0 < p) {r x y : Sr p} (hr : IsP r) (hy : IsP y) (h : Cg r x y) : ∀ n : Nat, Cg r (x ^ n) (y ^ n)
  | 0 => Cg.rfl' ..
  | n + 1 => Cg.mul hp hr (hy.pow hp n) hy (Cg.pow hp hr hy h n) h
end Rq
namespace Mn
open PySem Rg Rm
structure Lf (p : Int) (r : List Int) (X : Rq.Sr p) (t : List Int) : Prop where
  po : Po p t
  l : t.length < r.length
  c : Rq.Cg (Rq.s p r) X (Rq.s p t)
theorem Lf.rs {p : Int} {a r : List Int} (hp : p ∈ k_PRIMES) (ha : Po p a) (hr : Po p r) (hr0 : r ≠ []) : Lf p r (Rq.s p a) (rs' p a r) := by
  have h := qr_ok hp ha hr hr0
  exact ⟨h.2.1, h.2.2.1, _, ⟨qs p a r, h.1, rfl⟩, h.2.2.2.2⟩
theorem Lf.of {p : Int} {r t : List Int} {X Y : Rq.Sr p} (hp : p ∈ k_PRIMES) (h : Lf p r Y t) (c : Rq.Cg (Rq.s p r) X Y) : Lf p r X t := by
  have h2 := pr_le p hp
  exact ⟨h.po, h.l, c.trans (by omega) h.c⟩
theorem Lf.mul {p : Int} {r t u : List Int} {X Y : Rq.Sr p} (hp : p ∈ k_PRIMES) (hr : Po p r) (hr0 : r ≠ []) (h : Lf p r X t) (h' : Lf p r Y u) : Lf p r (X * Y) (rs' p (mulP p t u) r) := by
  have h2 := pr_le p hp
  have := Lf.rs hp (Po.mulP (by omega) t u) hr hr0
  rw [Rq.s_mulP] at this
  exact this.of hp (Rq.Cg.mul (by omega) ⟨r, hr, rfl⟩ ⟨t, h.po, rfl⟩ ⟨u, h'.po, rfl⟩ h.c h'.c)
theorem Lf.add {p : Int} {r t u : List Int} {X Y : Rq.Sr p} (hp : p ∈ k_PRIMES) (h : Lf p r X t) (h' : Lf p r Y u) : Lf p r (X + Y) (bl p 1 t u) := by
  have h2 := pr_le p hp
  refine ⟨Po.bl (by omega) .., ?_, ?_⟩
  · have := bl_length p 1 t u
    have := h.l
    have := h'.l
    omega
  · rw [Rq.s_plus]; exact h.c.add (by omega) h'.c
end Mn
namespace Mn
open PySem Rg Rm
end Mn
namespace Mn
open PySem Rg Rm
end Mn
namespace Rv
open Rm
structure Vec (p : Int) (w : Nat) (a : List Int) : Prop where
  l : a.length = w
  b : ∀ k, 0 ≤ cf a k ∧ cf a k < p
def ls (p c : Int) (a b : List Int) : List Int := zw (fun x y => (x - c * y) % p) a b
theorem ls_cf {p : Int} {w : Nat} {a b : List Int} (c : Int) (ha : Vec p w a) (hb : Vec p w b) (k : Nat) : cf (ls p c a b) k = (cf a k - c * cf b k) % p :=
  zw_cf _ (by simp) a b k (by rw [ha.l, hb.l])
theorem Vec.ls {p : Int} {w : Nat} {a b : List Int} (hp : 0 < p) (c : Int) (ha : Vec p w a) (hb : Vec p w b) : Vec p w (ls p c a b) :=
  ⟨by unfold Rv.ls; rw [zw_length, ha.l, hb.l, Nat.min_self], fun k => by rw [ls_cf c ha hb]; exact ⟨Int.emod_nonneg _ (by omega), Int.emod_lt_of_pos _ hp⟩⟩
theorem Vec.ext {p : Int} {w : Nat} {a b : List Int} (ha : Vec p w a) (hb : Vec p w b) (h : ∀ k, k < w → cf a k = cf b k) : a = b := by
  refine List.ext_getElem (by rw [ha.l, hb.l]) fun k h1 h2 => ?_
  have := h k (by rw [← ha.l]; exact h1)
  rwa [cf_lt h1, cf_lt h2] at this
theorem Vec.self {p : Int} {w : Nat} {a : List Int} (ha : Vec p w a) (k : Nat) : cf a k % p = cf a k := Int.emod_eq_of_lt (ha.b k).1 (ha.b k).2
abbrev Fm := List (Nat × List Int)
structure Ok (p : Int) (w : Nat) (F : Fm) : Prop where
  v : ∀ x ∈ F, Vec p w x.2
  s : ∀ x ∈ F, x.1 < w ∧ cf x.2 x.1 = 1 ∧ ∀ j, j < x.1 → cf x.2 j = 0
  o : ∀ x ∈ F, ∀ y ∈ F, x.1 ≠ y.1 → cf x.2 y.1 = 0
  n : (F.map (·.1)).Nodup
def sm (v : List Int) (k : Nat) : Fm → Int
  | [] => 0
  | x :: F => cf v x.1 * cf x.2 k + sm v k F
def low (p : Int) : List Int → Fm → List Int
  | v, [] => v
  | v, x :: F => low p (ls p (cf v x.1) v x.2) F
theorem Ok.tail {p : Int} {w : Nat} {x : Nat × List Int} {F : Fm} (h : Ok p w (x :: F)) : Ok p w F :=
  ⟨fun y hy => h.v y (List.mem_cons_of_mem _ hy), fun y hy => h.s y (List.mem_cons_of_mem _ hy), fun y hy z hz => h.o y (List.mem_cons_of_mem _ hy) z (List.mem_cons_of_mem _ hz), (List.nodup_cons.mp h.n).2⟩
theorem sm_ext {v u : List Int} {k : Nat} : ∀ {F : Fm}, (∀ x ∈ F, cf v x.1 = cf u x.1) → sm v k F = sm u k F
  | [], _ => rfl
  | x :: F, h => by rw [sm, sm, h x (List.mem_cons_self ..), sm_ext fun y hy => h y (List.mem_cons_of_mem _ hy)]
theorem low_ok {p : Int} (hp : 0 < p) {w : Nat} : ∀ {F : Fm} {v : List Int}, Ok p w F → Vec p w v → Vec p w (low p v F) ∧ ∀ k, cf (low p v F) k = (cf v k - sm v k F) % p
  | [], v, _, hv => ⟨hv, fun k => by rw [low, sm, Int.sub_zero, hv.self]⟩
  | x :: F, v, h, hv => by
    have hx := h.v x (List.mem_cons_self ..)
    have hl := hv.ls hp (cf v x.1) hx
    have ih := low_ok hp h.tail hl
    refine ⟨ih.1, fun k => ?_⟩
    have e : sm (ls p (cf v x.1) v x.2) k F = sm v k F := sm_ext fun y hy => by
      have hne : x.1 ≠ y.1 := fun z => by
        have := (List.nodup_cons.mp h.n).1
        exact this (List.mem_map.mpr ⟨y, hy, z.symm⟩)
      rw [ls_cf _ hv hx, h.o x (List.mem_cons_self ..) y (List.mem_cons_of_mem _ hy) hne, Int.mul_zero, Int.sub_zero, hv.self]
    rw [low, ih.2 k, e, ls_cf _ hv hx, sm, Int.emod_sub_emod]
    congr 1
    omega
def In (p : Int) (F : Fm) (v : List Int) : Prop := ∀ k, (cf v k - sm v k F) % p = 0
theorem sm_ls {p : Int} {w : Nat} {a b : List Int} {c : Int} (ha : Vec p w a) (hb : Vec p w b) (k : Nat) : ∀ F : Fm, (sm (ls p c a b) k F - (sm a k F - c * sm b k F)) % p = 0
  | [] => by simp [sm]
  | x :: F => by
    have ih := sm_ls (c := c) ha hb k F
    rw [sm, sm, sm, ls_cf c ha hb]
    have h1 := Int.emod_add_mul_ediv (cf a x.1 - c * cf b x.1) p
    have h2 := Int.emod_add_mul_ediv (sm (ls p c a b) k F - (sm a k F - c * sm b k F)) p
    rw [ih] at h2
    generalize (cf a x.1 - c * cf b x.1) % p = r at *
    generalize (cf a x.1 - c * cf b x.1) / p = q at *
    generalize (sm (ls p c a b) k F - (sm a k F - c * sm b k F)) / p = q2 at *
    have : r * cf x.2 k + sm (ls p c a b) k F - (cf a x.1 * cf x.2 k + sm a k F - c * (cf b x.1 * cf x.2 k + sm b k F)) = p * (q2 - q * cf x.2 k) := by grind
    rw [this]; exact Int.mul_emod_right ..
theorem In.ls {p : Int} {w : Nat} {F : Fm} {a b : List Int} {c : Int} (ha : Vec p w a) (hb : Vec p w b) (h1 : In p F a) (h2 : In p F b) : In p F (ls p c a b) := fun k => by
  have e1 := h1 k
  have e2 := h2 k
  have e3 := sm_ls (c := c) ha hb k F
  rw [ls_cf c ha hb]
  have d1 := Int.emod_add_mul_ediv (cf a k - sm a k F) p
  have d2 := Int.emod_add_mul_ediv (cf b k - sm b k F) p
  have d3 := Int.emod_add_mul_ediv (sm (Rv.ls p c a b) k F - (sm a k F - c * sm b k F)) p
  have d4 := Int.emod_add_mul_ediv (cf a k - c * cf b k) p
  rw [e1] at d1
  rw [e2] at d2
  rw [e3] at d3
  generalize (cf a k - sm a k F) / p = q1 at *
  generalize (cf b k - sm b k F) / p = q2 at *
  generalize (sm (Rv.ls p c a b) k F - (sm a k F - c * sm b k F)) / p = q3 at *
  generalize (cf a k - c * cf b k) % p = r at *
  generalize (cf a k - c * cf b k) / p = q4 at *
  have : r - sm (Rv.ls p c a b) k F = p * (q1 - c * q2 - q3 - q4) := by grind
  rw [this]; exact Int.mul_emod_right ..
theorem sm_zero {v : List Int} {k : Nat} : ∀ {F : Fm}, (∀ x ∈ F, cf v x.1 = 0 ∨ cf x.2 k = 0) → sm v k F = 0
  | [], _ => rfl
  | x :: F, h => by
    rw [sm, sm_zero fun y hy => h y (List.mem_cons_of_mem _ hy)]
    rcases h x (List.mem_cons_self ..) with e | e <;> rw [e] <;> simp
theorem In.zero {p : Int} {w : Nat} {F : Fm} {v : List Int} (hv : Vec p w v) (h : In p F v) (hz : ∀ x ∈ F, cf v x.1 = 0) (k : Nat) : cf v k = 0 := by
  have := h k
  rw [sm_zero fun x hx => .inl (hz x hx), Int.sub_zero, hv.self] at this
  exact this
theorem sm_app (v : List Int) (k : Nat) (y : Nat × List Int) : ∀ F : Fm, sm v k (F ++ [y]) = sm v k F + cf v y.1 * cf y.2 k
  | [] => by simp [sm]
  | x :: F => by rw [List.cons_append, sm, sm, sm_app v k y F]; omega
def cut (p : Int) (s : Nat) (l : List Int) (F : Fm) : Fm := F.map fun x => (x.1, ls p (cf x.2 s) x.2 l)
theorem sm_cut {p : Int} {w : Nat} {s : Nat} {l : List Int} (hl : Vec p w l) (v : List Int) (k : Nat) : ∀ {F : Fm}, (∀ x ∈ F, Vec p w x.2) → (sm v k (cut p s l F) - (sm v k F - sm v s F * cf l k)) % p = 0
  | [], _ => by simp [sm, cut]
  | x :: F, h => by
    have ih := sm_cut (s := s) hl v k (F := F) fun y hy => h y (List.mem_cons_of_mem _ hy)
    have hx := h x (List.mem_cons_self ..)
    have e : cut p s l (x :: F) = (x.1, ls p (cf x.2 s) x.2 l) :: cut p s l F := rfl
    rw [e, sm, sm, sm]
    dsimp only
    rw [ls_cf _ hx hl]
    have h1 := Int.emod_add_mul_ediv (cf x.2 k - cf x.2 s * cf l k) p
    have h2 := Int.emod_add_mul_ediv (sm v k (cut p s l F) - (sm v k F - sm v s F * cf l k)) p
    rw [ih] at h2
    generalize (cf x.2 k - cf x.2 s * cf l k) % p = r at *
    generalize (cf x.2 k - cf x.2 s * cf l k) / p = q at *
    generalize (sm v k (cut p s l F) - (sm v k F - sm v s F * cf l k)) / p = q2 at *
    have : cf v x.1 * r + sm v k (cut p s l F) - (cf v x.1 * cf x.2 k + sm v k F - (cf v x.1 * cf x.2 s + sm v s F) * cf l k) = p * (q2 - cf v x.1 * q) := by grind
    rw [this]; exact Int.mul_emod_right ..
def ins (p : Int) (s : Nat) (l : List Int) (F : Fm) : Fm := cut p s l F ++ [(s, l)]
theorem sm_ins {p : Int} {w : Nat} {s : Nat} {l : List Int} (hl : Vec p w l) (v : List Int) (k : Nat) {F : Fm} (h : ∀ x ∈ F, Vec p w x.2) : (sm v k (ins p s l F) - (sm v k F + (cf v s - sm v s F) * cf l k)) % p = 0 := by
  have e := sm_cut (s := s) hl v k h
  rw [ins, sm_app]
  dsimp only
  have : sm v k (cut p s l F) + cf v s * cf l k - (sm v k F + (cf v s - sm v s F) * cf l k) = sm v k (cut p s l F) - (sm v k F - sm v s F * cf l k) := by grind
  rw [this]; exact e
theorem mod_tr {p a b c : Int} (h1 : (a - b) % p = 0) (h2 : (b - c) % p = 0) : (a - c) % p = 0 := by
  have d1 := Int.emod_add_mul_ediv (a - b) p
  have d2 := Int.emod_add_mul_ediv (b - c) p
  rw [h1] at d1
  rw [h2] at d2
  generalize (a - b) / p = q1 at *
  generalize (b - c) / p = q2 at *
  have : a - c = p * (q1 + q2) := by grind
  rw [this]; exact Int.mul_emod_right ..
theorem mod_sy {p a b : Int} (h : (a - b) % p = 0) : (b - a) % p = 0 := by
  have d1 := Int.emod_add_mul_ediv (a - b) p
  rw [h] at d1
  generalize (a - b) / p = q1 at *
  have : b - a = p * (-q1) := by grind
  rw [this]; exact Int.mul_emod_right ..
theorem In.ins {p : Int} {w : Nat} {s : Nat} {l u : List Int} (hl : Vec p w l) {F : Fm} (h : ∀ x ∈ F, Vec p w x.2) (hu : In p F u) : In p (Rv.ins p s l F) u := fun k => by
  refine mod_tr ?_ (mod_sy (sm_ins (s := s) hl u k h))
  have e1 := hu k
  have e2 := hu s
  have d1 := Int.emod_add_mul_ediv (cf u k - sm u k F) p
  have d2 := Int.emod_add_mul_ediv (cf u s - sm u s F) p
  rw [e1] at d1
  rw [e2] at d2
  generalize (cf u k - sm u k F) / p = q1 at *
  generalize hq : (cf u s - sm u s F) / p = q2 at *
  have : cf u k - (sm u k F + (cf u s - sm u s F) * cf l k) = p * (q1 - q2 * cf l k) := by grind
  rw [this]; exact Int.mul_emod_right ..
theorem cut_mem {p : Int} {s : Nat} {l : List Int} {F : Fm} {y : Nat × List Int} (h : y ∈ cut p s l F) : ∃ x ∈ F, y = (x.1, ls p (cf x.2 s) x.2 l) := by
  obtain ⟨x, hx, e⟩ := List.mem_map.mp h
  exact ⟨x, hx, e.symm⟩
theorem cut_steps (p : Int) (s : Nat) (l : List Int) (F : Fm) : (cut p s l F).map (·.1) = F.map (·.1) := by
  unfold cut; rw [List.map_map]; rfl
theorem Ok.ins {p : Int} (hp : 1 < p) {w : Nat} {F : Fm} {s : Nat} {l : List Int} (h : Ok p w F) (hl : Vec p w l) (hs : s < w) (h1 : cf l s = 1) (h0 : ∀ j, j < s → cf l j = 0) (hz : ∀ x ∈ F, cf l x.1 = 0) : Ok p w (Rv.ins p s l F) := by
  have mem : ∀ {y}, y ∈ Rv.ins p s l F → (∃ x ∈ F, y = (x.1, ls p (cf x.2 s) x.2 l)) ∨ y = (s, l) := fun {y} hy => by
    rcases List.mem_append.mp hy with q | q
    · exact .inl (cut_mem q)
    · exact .inr (by simpa using q)
  refine ⟨fun y hy => ?_, fun y hy => ?_, fun y hy z hz' hne => ?_, ?_⟩
  · rcases mem hy with ⟨x, hx, rfl⟩ | rfl
    · exact (h.v x hx).ls (by omega) _ hl
    · exact hl
  · rcases mem hy with ⟨x, hx, rfl⟩ | rfl
    · have hxs := h.s x hx
      refine ⟨hxs.1, ?_, fun j hj => ?_⟩
      · show cf (ls p (cf x.2 s) x.2 l) x.1 = 1
        rw [ls_cf _ (h.v x hx) hl, hxs.2.1, hz x hx, Int.mul_zero, Int.sub_zero]
        exact Int.emod_eq_of_lt (by omega) hp
      · show cf (ls p (cf x.2 s) x.2 l) j = 0
        have hj : j < x.1 := hj
        rw [ls_cf _ (h.v x hx) hl, hxs.2.2 j hj]
        by_cases c : j < s
        · rw [h0 j c]; simp
        · rw [hxs.2.2 s (by omega)]; simp
    · exact ⟨hs, h1, h0⟩
  · rcases mem hy with ⟨x, hx, rfl⟩ | rfl
    · rcases mem hz' with ⟨u, hu, rfl⟩ | rfl
      · show cf (ls p (cf x.2 s) x.2 l) u.1 = 0
        rw [ls_cf _ (h.v x hx) hl, h.o x hx u hu hne, hz u hu]; simp
      · show cf (ls p (cf x.2 s) x.2 l) s = 0
        rw [ls_cf _ (h.v x hx) hl, h1]; simp
    · rcases mem hz' with ⟨u, hu, rfl⟩ | rfl
      · exact hz u hu
      · exact absurd rfl hne
  · unfold Rv.ins
    rw [List.map_append, cut_steps]
    refine List.nodup_append.mpr ⟨h.n, by simp, fun a ha b hb => ?_⟩
    obtain ⟨x, hx, rfl⟩ := List.mem_map.mp ha
    have hb : b = s := by simpa using hb
    rw [hb]
    intro e
    have := hz x hx
    rw [e, h1] at this
    omega
def sc (p c : Int) (a : List Int) : List Int := a.map fun x => x * c % p
theorem sc_cf (p c : Int) (a : List Int) (k : Nat) : cf (sc p c a) k = cf a k * c % p := cf_map _ (by simp) a k
theorem Vec.sc {p : Int} {w : Nat} {a : List Int} (hp : 0 < p) (c : Int) (ha : Vec p w a) : Vec p w (sc p c a) :=
  ⟨by unfold Rv.sc; rw [List.length_map, ha.l], fun k => by rw [sc_cf]; exact ⟨Int.emod_nonneg _ (by omega), Int.emod_lt_of_pos _ hp⟩⟩
end Rv
namespace Rv
open Rm
def spots (l : List Int) : List Nat := (List.range l.length).filter fun k => !decide (cf l k = 0)
theorem cf_ge {l : List Int} {k : Nat} (h : l.length ≤ k) : cf l k = 0 := by
  simp [cf, List.getElem?_eq_none h]
def step (iv : Int → Int) (p : Int) (F : Fm) (v : List Int) : Fm :=
  match spots (low p v F) with
  | [] => F
  | s :: _ => ins p s (sc p (iv (cf (low p v F) s)) (low p v F)) F
def steps (iv : Int → Int) (p : Int) (F : Fm) (rows : List (List Int)) : Fm := rows.foldl (step iv p) F
def Cl (p : Int) (w : Nat) (C : List Int → Prop) : Prop := ∀ a b c, Vec p w a → Vec p w b → C a → C b → C (ls p c a b)
theorem Cl.sc {p : Int} (hp : 0 < p) {w : Nat} {C : List Int → Prop} (h : Cl p w C) {a : List Int} (ha : Vec p w a) (hc : C a) (c : Int) : C (sc p c a) := by
  have : Rv.sc p c a = ls p (1 - c) a a := (ha.sc hp c).ext (ha.ls hp _ ha) fun k _ => by
    rw [sc_cf, ls_cf _ ha ha]; congr 1; grind
  rw [this]; exact h _ _ _ ha ha hc hc
theorem Cl.low {p : Int} (hp : 0 < p) {w : Nat} {C : List Int → Prop} (h : Cl p w C) : ∀ {F : Fm} {v : List Int}, (∀ x ∈ F, Vec p w x.2) → Vec p w v → (∀ x ∈ F, C x.2) → C v → C (low p v F)
  | [], v, _, _, _, hc => hc
  | x :: F, v, hF, hv, hC, hc => by
    rw [Rv.low]
    exact h.low hp (fun y hy => hF y (List.mem_cons_of_mem _ hy)) (hv.ls hp _ (hF x (List.mem_cons_self ..))) (fun y hy => hC y (List.mem_cons_of_mem _ hy)) (h _ _ _ hv (hF x (List.mem_cons_self ..)) hc (hC x (List.mem_cons_self ..)))
section
variable {p : Int} {iv : Int → Int} {w : Nat}
end
theorem Ok.nil {p : Int} {w : Nat} : Ok p w [] := ⟨by simp, by simp, by simp, by simp⟩
structure Form (p : Int) (w : Nat) (rows : List (List Int)) (G : Fm) : Prop where
  ok : Ok p w G
  st : G.Pairwise fun x y => x.1 < y.1
  inn : ∀ v ∈ rows, In p G v
  sp : ∀ C, Cl p w C → (∀ v ∈ rows, C v) → ∀ x ∈ G, C x.2
theorem Cl.In {p : Int} {w : Nat} (F : Fm) : Cl p w (In p F) := fun _ _ _ ha hb h1 h2 => Rv.In.ls ha hb h1 h2
theorem Ok.self {p : Int} {w : Nat} {y : Nat × List Int} (k : Nat) : ∀ {G : Fm}, y ∈ G → Ok p w G → sm y.2 k G = cf y.2 k
  | g :: G, hm, hG => by
    rw [sm]
    rcases List.mem_cons.mp hm with rfl | hm'
    · rw [(hG.s y (List.mem_cons_self ..)).2.1, sm_zero fun z hz => .inl (hG.o y (List.mem_cons_self ..) z (List.mem_cons_of_mem _ hz) (fun e => (List.nodup_cons.mp hG.n).1 (List.mem_map.mpr ⟨z, hz, e.symm⟩)))]
      simp
    · have hne : y.1 ≠ g.1 := fun e => (List.nodup_cons.mp hG.n).1 (List.mem_map.mpr ⟨y, hm', e⟩)
      rw [hG.o y (List.mem_cons_of_mem _ hm') g (List.mem_cons_self ..) hne, Ok.self k hm' hG.tail]
      simp
theorem Ok.own {p : Int} {w : Nat} {G : Fm} (h : Ok p w G) {x : Nat × List Int} (hx : x ∈ G) : In p G x.2 := fun k => by rw [h.self k hx]; simp
theorem Form.vs {p : Int} {w : Nat} {r : List (List Int)} {G : Fm} (h : Form p w r G) : ∀ v ∈ G.map (·.2), Vec p w v := fun v hv => by
  obtain ⟨x, hx, rfl⟩ := List.mem_map.mp hv
  exact h.ok.v x hx
theorem Form.len {p : Int} {w : Nat} {r : List (List Int)} {G : Fm} (h : Form p w r G) : G.length ≤ w := by
  have key : ∀ (l : List Nat) (n : Nat), l.Pairwise (· < ·) → (∀ x ∈ l, n ≤ x ∧ x < w) → l.length + n ≤ max w n := by
    intro l
    induction l with
    | nil => intro n _ _; simp; omega
    | cons a l ih =>
      intro n hp hb
      have h1 := List.pairwise_cons.mp hp
      have h2 := hb a (List.mem_cons_self ..)
      have := ih (a + 1) h1.2 fun x hx => ⟨h1.1 x hx, (hb x (List.mem_cons_of_mem _ hx)).2⟩
      simp only [List.length_cons]
      omega
  have := key (G.map (·.1)) 0 (List.pairwise_map.mpr h.st) fun x hx => by
    obtain ⟨y, hy, rfl⟩ := List.mem_map.mp hx
    exact ⟨by omega, (h.ok.s y hy).1⟩
  simp at this; omega
end Rv
namespace Rg
open PySem
abbrev Key := L2.Key
end Rg
namespace Mn
open PySem Rg Rm Rv
def kF (F : Fm) : List Key := F.map fun x => .inl (x.1 : Int)
def dF (F : Fm) : List D := F.map fun x => vD x.2
section
variable {p : Int} {w : Nat}
def Sd (F : Fm) (s : Sl) : Prop := s = .m (.k (kF F)) (dF F) ∨ s = .v (.dct (kF F) (dF F))
end
end Mn
namespace Mn
open PySem Rg Rm Rv
section
variable {p : Int} {w : Nat}
def ord (F : Fm) : Fm := F.mergeSort fun x y => decide (x.1 ≤ y.1)
def told (p : Int) (rows : List (List Int)) : Fm := ord (steps (iv p) p [] rows)
end
end Mn
namespace Mn
open PySem Rg Rm Rv
section
variable {p : Int} {w : Nat}
end
end Mn
namespace Mn
open PySem Rg Rm Rv
section
variable {p : Int} {w : Nat}
end
end Mn
namespace Mn
open PySem Rg Rm Rv
section
variable {p : Int} {w : Nat}
end
end Mn
namespace Rv
open Rm
def su (n : Nat) (f : Nat → Int) : Int := match n with
  | 0 => 0
  | n + 1 => su n f + f n
theorem su_ext {f g : Nat → Int} : ∀ {n : Nat}, (∀ k, k < n → f k = g k) → su n f = su n g
  | 0, _ => rfl
  | n + 1, h => by rw [su, su, su_ext fun k hk => h k (by omega), h n (by omega)]
theorem su_mod {p : Int} {f g : Nat → Int} : ∀ {n : Nat}, (∀ k, k < n → (f k - g k) % p = 0) → (su n f - su n g) % p = 0
  | 0, _ => by simp [su]
  | n + 1, h => by
    have h1 := su_mod (n := n) fun k hk => h k (by omega)
    have h2 := h n (by omega)
    rw [su, su]
    have d1 := Int.emod_add_mul_ediv (su n f - su n g) p
    have d2 := Int.emod_add_mul_ediv (f n - g n) p
    rw [h1] at d1
    rw [h2] at d2
    generalize (su n f - su n g) / p = q1 at *
    generalize (f n - g n) / p = q2 at *
    have : su n f + f n - (su n g + g n) = p * (q1 + q2) := by grind
    rw [this]; exact Int.mul_emod_right ..
theorem su_zero {f : Nat → Int} : ∀ {n : Nat}, (∀ k, k < n → f k = 0) → su n f = 0
  | 0, _ => rfl
  | n + 1, h => by rw [su, su_zero fun k hk => h k (by omega), h n (by omega)]; rfl
theorem su_lin (a b : Int) (f g : Nat → Int) : ∀ n : Nat, su n (fun k => a * f k + b * g k) = a * su n f + b * su n g
  | 0 => by simp [su]
  | n + 1 => by rw [su, su, su, su_lin a b f g n]; grind
theorem su_one {f : Nat → Int} {i : Nat} : ∀ {n : Nat}, i < n → (∀ k, k < n → k ≠ i → f k = 0) → su n f = f i
  | n + 1, hi, h => by
    rw [su]
    by_cases c : i = n
    · subst c
      rw [su_zero fun k hk => h k (by omega) (by omega)]; omega
    · rw [su_one (i := i) (n := n) (by omega) fun k hk hne => h k (by omega) hne, h n (by omega) (by omega)]; omega
def dt (w : Nat) (a b : List Int) : Int := su w fun k => cf a k * cf b k
theorem dt_ls {p : Int} {w : Nat} {a b : List Int} (v : List Int) (c : Int) (ha : Vec p w a) (hb : Vec p w b) : (dt w v (ls p c a b) - (dt w v a - c * dt w v b)) % p = 0 := by
  have e : dt w v a - c * dt w v b = su w fun k => 1 * (cf v k * cf a k) + (-c) * (cf v k * cf b k) := by rw [su_lin]; simp only [dt]; grind
  rw [e]
  refine su_mod fun k _ => ?_
  rw [ls_cf c ha hb]
  have d := Int.emod_add_mul_ediv (cf a k - c * cf b k) p
  generalize (cf a k - c * cf b k) % p = r at *
  generalize (cf a k - c * cf b k) / p = q at *
  have : cf v k * r - (1 * (cf v k * cf a k) + -c * (cf v k * cf b k)) = p * (-(cf v k * q)) := by grind
  rw [this]; exact Int.mul_emod_right ..
def Or (p : Int) (w : Nat) (v u : List Int) : Prop := dt w v u % p = 0
theorem mod0 {p a b : Int} (h : (a - b) % p = 0) (hb : b % p = 0) : a % p = 0 := by
  have := mod_tr (c := 0) h (by simpa using hb)
  simpa using this
theorem Cl.Or {p : Int} {w : Nat} (v : List Int) : Cl p w (Or p w v) := fun a b c ha hb h1 h2 => by
  refine mod0 (dt_ls v c ha hb) ?_
  have d1 := Int.emod_add_mul_ediv (dt w v a) p
  have d2 := Int.emod_add_mul_ediv (dt w v b) p
  have h1 : dt w v a % p = 0 := h1
  have h2 : dt w v b % p = 0 := h2
  rw [h1] at d1
  rw [h2] at d2
  generalize dt w v a / p = q1 at *
  generalize dt w v b / p = q2 at *
  have : dt w v a - c * dt w v b = p * (q1 - c * q2) := by grind
  rw [this]; exact Int.mul_emod_right ..
theorem Or.In {p : Int} {w : Nat} {F : Fm} {v u : List Int} (hu : Rv.In p F u) (h : ∀ x ∈ F, Or p w v x.2) : Or p w v u := by
  have e : (dt w v u - su w fun k => cf v k * sm u k F) % p = 0 := su_mod fun k _ => by
    have := hu k
    have d := Int.emod_add_mul_ediv (cf u k - sm u k F) p
    rw [this] at d
    generalize (cf u k - sm u k F) / p = q at *
    have : cf v k * cf u k - cf v k * sm u k F = p * (cf v k * q) := by grind
    rw [this]; exact Int.mul_emod_right ..
  refine mod0 e ?_
  have key : ∀ F : Fm, (∀ x ∈ F, Or p w v x.2) → (su w fun k => cf v k * sm u k F) % p = 0 := by
    intro F
    induction F with
    | nil => intro _; rw [su_zero fun k _ => by simp [sm]]; simp
    | cons x F ih =>
      intro h
      have i := ih fun y hy => h y (List.mem_cons_of_mem _ hy)
      have hx : dt w v x.2 % p = 0 := h x (List.mem_cons_self ..)
      have e : (su w fun k => cf v k * sm u k (x :: F)) = cf u x.1 * dt w v x.2 + 1 * su w fun k => cf v k * sm u k F := by
        rw [dt, ← su_lin]
        refine su_ext fun k _ => ?_
        rw [sm]; grind
      rw [e]
      have d1 := Int.emod_add_mul_ediv (dt w v x.2) p
      have d2 := Int.emod_add_mul_ediv (su w fun k => cf v k * sm u k F) p
      rw [hx] at d1
      rw [i] at d2
      generalize dt w v x.2 / p = q1 at *
      generalize (su w fun k => cf v k * sm u k F) / p = q2 at *
      have : cf u x.1 * dt w v x.2 + 1 * (su w fun k => cf v k * sm u k F) = p * (cf u x.1 * q1 + q2) := by grind
      rw [this]; exact Int.mul_emod_right ..
  exact key F h
theorem cf_set {v : List Int} {i : Nat} (y : Int) (h : i < v.length) (k : Nat) : cf (v.set i y) k = if k = i then y else cf v k := by
  unfold cf
  rw [List.getD_eq_getElem?_getD, List.getD_eq_getElem?_getD, List.getElem?_set]
  by_cases e : i = k
  · subst e; simp [h]
  · rw [if_neg e, if_neg (by omega)]
def put (p : Int) (f : Nat) : Fm → List Int → List Int
  | [], v => v
  | x :: F, v => put p f F (v.set x.1 ((0 - cf x.2 f) % p))
theorem put_other {p : Int} {f k : Nat} : ∀ {F : Fm} {v : List Int}, (∀ x ∈ F, x.1 < v.length ∧ x.1 ≠ k) → cf (put p f F v) k = cf v k
  | [], v, _ => rfl
  | x :: F, v, h => by
    rw [put, put_other fun y hy => by simpa using h y (List.mem_cons_of_mem _ hy)]
    have := h x (List.mem_cons_self ..)
    rw [cf_set _ this.1, if_neg (by omega)]
theorem put_dt {p : Int} {w f : Nat} (v : List Int) : ∀ {F : Fm} {u : List Int}, u.length = w → (∀ x ∈ F, x.1 < w ∧ cf u x.1 = 0) → (F.map (·.1)).Nodup → (dt w v (put p f F u) - (dt w v u - sm v f F)) % p = 0
  | [], u, _, _, _ => by simp [put, sm]
  | x :: F, u, hl, h, hn => by
    have hx := h x (List.mem_cons_self ..)
    have hn' := List.nodup_cons.mp hn
    have ih := put_dt (p := p) (f := f) v (F := F) (u := u.set x.1 ((0 - cf x.2 f) % p)) (by simpa using hl) (fun y hy => by
      have hy' := h y (List.mem_cons_of_mem _ hy)
      refine ⟨hy'.1, ?_⟩
      have hne : y.1 ≠ x.1 := fun e => hn'.1 (List.mem_map.mpr ⟨y, hy, e⟩)
      rw [cf_set _ (by omega), if_neg hne]
      exact hy'.2) hn'.2
    rw [put, sm]
    refine mod_tr ih ?_
    have e : dt w v (u.set x.1 ((0 - cf x.2 f) % p)) = dt w v u + cf v x.1 * ((0 - cf x.2 f) % p) := by
      have e1 : dt w v (u.set x.1 ((0 - cf x.2 f) % p)) = su w fun k => 1 * (cf v k * cf u k) + 1 * (if k = x.1 then cf v x.1 * ((0 - cf x.2 f) % p) else 0) := su_ext fun k hk => by
        rw [cf_set _ (by omega)]
        by_cases c : k = x.1
        · rw [if_pos c, if_pos c, c, hx.2]; grind
        · rw [if_neg c, if_neg c]; grind
      have e2 : (su w fun k => if k = x.1 then cf v x.1 * ((0 - cf x.2 f) % p) else 0) = cf v x.1 * ((0 - cf x.2 f) % p) := by
        rw [su_one (f := fun k => if k = x.1 then cf v x.1 * ((0 - cf x.2 f) % p) else 0) hx.1 fun k hk hne => if_neg hne]
        exact if_pos rfl
      rw [e1, su_lin, e2]
      simp only [dt, Int.one_mul]
    rw [e]
    have d := Int.emod_add_mul_ediv (0 - cf x.2 f) p
    generalize (0 - cf x.2 f) % p = r at *
    generalize (0 - cf x.2 f) / p = q at *
    have : dt w v u + cf v x.1 * r - sm v f F - (dt w v u - (cf v x.1 * cf x.2 f + sm v f F)) = p * (-(cf v x.1 * q)) := by grind
    rw [this]; exact Int.mul_emod_right ..
def nv (p : Int) (w : Nat) (F : Fm) (f : Nat) : List Int := put p f F ((List.replicate w 0).set f 1)
theorem cf_rep (w k : Nat) : cf (List.replicate w 0) k = 0 := by
  unfold cf
  simp only [List.getD_eq_getElem?_getD, List.getElem?_replicate]
  split <;> rfl
def fre (w : Nat) (F : Fm) : List Nat := (List.range w).filter fun k => !decide (k ∈ F.map (·.1))
theorem mem_fre {w k : Nat} {F : Fm} : k ∈ fre w F ↔ k < w ∧ k ∉ F.map (·.1) := by
  unfold fre; rw [List.mem_filter, List.mem_range]; simp
section
variable {p : Int} {w : Nat} {F : Fm}
theorem cf_unit {f : Nat} (hf : f < w) (k : Nat) : cf ((List.replicate w 0).set f 1) k = if k = f then 1 else 0 := by
  rw [cf_set _ (by simpa using hf), cf_rep]
theorem put_vec (hp : 0 < p) {f : Nat} : ∀ {F : Fm} {v : List Int}, Vec p w v → (∀ x ∈ F, x.1 < w) → Vec p w (put p f F v)
  | [], v, hv, _ => hv
  | x :: F, v, hv, h => by
    rw [put]
    refine put_vec hp ⟨by simpa using hv.l, fun k => ?_⟩ fun y hy => h y (List.mem_cons_of_mem _ hy)
    rw [cf_set _ (by rw [hv.l]; exact h x (List.mem_cons_self ..))]
    by_cases c : k = x.1
    · rw [if_pos c]; exact ⟨Int.emod_nonneg _ (by omega), Int.emod_lt_of_pos _ hp⟩
    · rw [if_neg c]; exact hv.b k
theorem Vec.nv (hp : 1 < p) (h : Ok p w F) {f : Nat} (hf : f < w) : Vec p w (nv p w F f) :=
  put_vec (by omega) ⟨by simp, fun k => by rw [cf_unit hf]; split <;> omega⟩ fun x hx => (h.s x hx).1
theorem nv_dt (h : Ok p w F) (v : List Int) {f : Nat} (hf : f ∈ fre w F) : (dt w v (nv p w F f) - (cf v f - sm v f F)) % p = 0 := by
  have hf := mem_fre.mp hf
  have e := put_dt (p := p) (w := w) (f := f) v (F := F) (u := (List.replicate w 0).set f 1) (by simp) (fun x hx => ⟨(h.s x hx).1, by
    rw [cf_unit hf.1, if_neg]
    intro c
    exact hf.2 (List.mem_map.mpr ⟨x, hx, c⟩)⟩) h.n
  have e2 : dt w v ((List.replicate w 0).set f 1) = cf v f := by
    unfold dt
    rw [su_one hf.1 fun k hk hne => by rw [cf_unit hf.1, if_neg hne]; simp]
    rw [cf_unit hf.1, if_pos rfl]; simp
  rw [e2] at e
  exact e
theorem nv_free (h : Ok p w F) {f g : Nat} (hf : f ∈ fre w F) (hg : g ∈ fre w F) : cf (nv p w F f) g = if g = f then 1 else 0 := by
  have hf := mem_fre.mp hf
  have hg := mem_fre.mp hg
  unfold nv
  rw [put_other fun x hx => ⟨by simpa using (h.s x hx).1, fun c => hg.2 (List.mem_map.mpr ⟨x, hx, c⟩)⟩, cf_unit hf.1]
theorem In.nv_or (h : Ok p w F) {v : List Int} (hi : In p F v) {f : Nat} (hf : f ∈ fre w F) : Or p w v (Rv.nv p w F f) :=
  mod0 (nv_dt h v hf) (hi f)
end
end Rv
namespace Rv
open Rm
theorem len_le {α : Type} [DecidableEq α] : ∀ {l1 l2 : List α}, l1.Nodup → (∀ x ∈ l1, x ∈ l2) → l1.length ≤ l2.length
  | [], _, _, _ => by simp
  | a :: l1, l2, hn, h => by
    have hn' := List.nodup_cons.mp hn
    have ha := h a (List.mem_cons_self ..)
    have := len_le (l1 := l1) (l2 := l2.erase a) hn'.2 fun x hx => (List.mem_erase_of_ne (fun e : x = a => hn'.1 (e ▸ hx))).mpr (h x (List.mem_cons_of_mem _ hx))
    rw [List.length_erase_of_mem ha] at this
    have := List.length_pos_of_mem ha
    simp only [List.length_cons]; omega
theorem nodup_filt {α : Type} (q : α → Bool) {l : List α} (h : l.Nodup) : (l.filter q).Nodup := List.Pairwise.filter q h
section
variable {p : Int} {w : Nat} {F : Fm}
theorem fre_nodup (w : Nat) (F : Fm) : (fre w F).Nodup := nodup_filt _ List.nodup_range
theorem Cl.at {p : Int} {w : Nat} (g : Nat) : Cl p w (fun u => cf u g = 0) := fun a b c ha hb h1 h2 => by
  show cf (ls p c a b) g = 0
  rw [ls_cf c ha hb, h1, h2]; simp
theorem zero_vec {r : List Int} (hr : Vec p w r) (hp : 0 < p) (h : Ok p w F) (ho : ∀ x ∈ F, Or p w x.2 r) (hz : ∀ g ∈ fre w F, cf r g = 0) (k : Nat) : cf r k = 0 := by
  by_cases hk : k < w
  · by_cases hs : k ∈ F.map (·.1)
    · obtain ⟨x, hx, rfl⟩ := List.mem_map.mp hs
      have o : dt w x.2 r % p = 0 := ho x hx
      have e : dt w x.2 r = cf r x.1 := by
        unfold dt
        rw [su_one (f := fun k => cf x.2 k * cf r k) (h.s x hx).1 fun j hj hne => ?_]
        · show cf x.2 x.1 * cf r x.1 = cf r x.1
          rw [(h.s x hx).2.1]; simp
        · show cf x.2 j * cf r j = 0
          by_cases hjs : j ∈ F.map (·.1)
          · obtain ⟨y, hy, rfl⟩ := List.mem_map.mp hjs
            rw [h.o x hx y hy (Ne.symm hne)]; simp
          · rw [hz j (mem_fre.mpr ⟨hj, hjs⟩)]; simp
      rw [e, hr.self] at o
      exact o
    · exact hz k (mem_fre.mpr ⟨hk, hs⟩)
  · exact Rv.cf_ge (by rw [hr.l]; omega)
theorem In.undo {K : Fm} {a b : List Int} {c : Int} (hp : 0 < p) (ha : Vec p w a) (hb : Vec p w b) (h1 : In p K (Rv.ls p c a b)) (h2 : In p K b) : In p K a := by
  have e : a = Rv.ls p (-c) (Rv.ls p c a b) b := ha.ext ((ha.ls hp c hb).ls hp _ hb) fun k _ => by
    rw [ls_cf _ (ha.ls hp c hb) hb, ls_cf _ ha hb, Int.emod_sub_emod]
    have : cf a k - c * cf b k - -c * cf b k = cf a k := by grind
    rw [this, ha.self]
  rw [e]
  exact In.ls (ha.ls hp c hb) hb h1 h2
theorem nv_or (h : Ok p w F) {f : Nat} (hf : f ∈ fre w F) {x : Nat × List Int} (hx : x ∈ F) : Or p w x.2 (nv p w F f) := In.nv_or h (h.own hx) hf
theorem ker_ex (hp : 1 < p) (h : Ok p w F) : ∀ (zs : List (Nat × Int)), (∀ z ∈ zs, z.1 ∈ fre w F ∧ 0 ≤ z.2 ∧ z.2 < p) → (zs.map (·.1)).Nodup → ∃ u, Vec p w u ∧ (∀ x ∈ F, Or p w x.2 u) ∧ (∀ z ∈ zs, cf u z.1 = z.2) ∧ ∀ g ∈ fre w F, g ∉ zs.map (·.1) → cf u g = 0
  | [], _, _ => ⟨List.replicate w 0, ⟨by simp, fun k => by rw [cf_rep]; omega⟩, fun x hx => by
      unfold Or dt
      rw [su_zero fun k _ => by rw [cf_rep]; simp]; simp, by simp, fun g _ _ => cf_rep w g⟩
  | z :: zs, hz, hn => by
    have hn' := List.nodup_cons.mp hn
    obtain ⟨u, h1, h2, h3, h4⟩ := ker_ex hp h zs (fun y hy => hz y (List.mem_cons_of_mem _ hy)) hn'.2
    have hz0 := hz z (List.mem_cons_self ..)
    have hv := Vec.nv hp h (mem_fre.mp hz0.1).1
    refine ⟨ls p (-z.2) u (nv p w F z.1), h1.ls (by omega) _ hv, fun x hx => Cl.Or x.2 _ _ _ h1 hv (h2 x hx) (nv_or h hz0.1 hx), fun y hy => ?_, fun g hg hgn => ?_⟩
    · rw [ls_cf _ h1 hv]
      rcases List.mem_cons.mp hy with rfl | hy'
      · rw [nv_free h hz0.1 hz0.1, if_pos rfl, h4 y.1 hz0.1 hn'.1]
        have : (0 : Int) - -y.2 * 1 = y.2 := by omega
        rw [this]; exact Int.emod_eq_of_lt hz0.2.1 hz0.2.2
      · have hy0 := hz y hy
        have hne : y.1 ≠ z.1 := fun e => hn'.1 (List.mem_map.mpr ⟨y, hy', e⟩)
        rw [nv_free h hz0.1 hy0.1, if_neg hne, h3 y hy']
        simp
        exact Int.emod_eq_of_lt hy0.2.1 hy0.2.2
    · simp only [List.map_cons, List.mem_cons, not_or] at hgn
      rw [ls_cf _ h1 hv, nv_free h hz0.1 hg, if_neg hgn.1, h4 g hg hgn.2]; simp
end
def tup (p : Nat) : Nat → List (List Int)
  | 0 => [[]]
  | n + 1 => (tup p n).flatMap fun r => (List.range p).map fun k : Nat => r ++ [(k : Int)]
theorem tup_len (p : Nat) : ∀ n, (tup p n).length = p ^ n
  | 0 => rfl
  | n + 1 => by
    rw [tup, List.length_flatMap]
    have : (tup p n).map (fun r => ((List.range p).map fun k : Nat => r ++ [(k : Int)]).length) = (tup p n).map fun _ => p := by
      congr 1; funext r; simp
    rw [this, List.map_const', List.sum_replicate_nat, tup_len p n, Nat.pow_succ]
theorem tup_mem {p : Nat} : ∀ {n : Nat} {u : List Int}, u ∈ tup p n ↔ u.length = n ∧ ∀ x ∈ u, 0 ≤ x ∧ x < (p : Int)
  | 0, u => by
    rw [tup, List.mem_singleton]
    constructor
    · intro h; subst h; simp
    · intro h; exact List.eq_nil_of_length_eq_zero h.1
  | n + 1, u => by
    rw [tup, List.mem_flatMap]
    constructor
    · rintro ⟨r, hr, hu⟩
      obtain ⟨k, hk, rfl⟩ := List.mem_map.mp hu
      have h := tup_mem.mp hr
      have hk := List.mem_range.mp hk
      refine ⟨by simp [h.1], fun x hx => ?_⟩
      rcases List.mem_append.mp hx with q | q
      · exact h.2 x q
      · have : x = (k : Int) := by simpa using q
        omega
    · rintro ⟨h1, h2⟩
      have hne : u ≠ [] := fun e => by subst e; simp at h1
      have hl := h2 _ (List.getLast_mem hne)
      refine ⟨u.dropLast, tup_mem.mpr ⟨by simp [h1], fun x hx => h2 x (List.dropLast_subset u hx)⟩, ?_⟩
      refine List.mem_map.mpr ⟨(u.getLast hne).toNat, List.mem_range.mpr (by omega), ?_⟩
      rw [Int.toNat_of_nonneg hl.1]
      exact List.dropLast_concat_getLast hne
theorem tup_nodup (p : Nat) : ∀ n, (tup p n).Nodup
  | 0 => by simp [tup]
  | n + 1 => by
    rw [tup]
    unfold List.Nodup
    rw [List.pairwise_flatMap]
    refine ⟨fun r _ => ?_, (tup_nodup p n).imp fun hne a ha b hb e => ?_⟩
    · rw [List.pairwise_map]
      have key : ∀ (a b : Nat), a ≠ b → r ++ [(a : Int)] ≠ r ++ [(b : Int)] := fun a b hne e => hne (by
        have := List.append_cancel_left e
        simp at this; omega)
      exact List.Pairwise.imp (fun {a b} => key a b) (List.nodup_range (n := p))
    · obtain ⟨k, _, rfl⟩ := List.mem_map.mp ha
      obtain ⟨j, _, rfl⟩ := List.mem_map.mp hb
      exact hne (List.append_inj_left' e rfl)
theorem tup_vec {p : Int} {w : Nat} (hp : 0 < p) {u : List Int} : u ∈ tup p.toNat w ↔ Vec p w u := by
  rw [tup_mem, Int.toNat_of_nonneg (by omega)]
  constructor
  · intro h
    refine ⟨h.1, fun k => ?_⟩
    by_cases hk : k < u.length
    · rw [cf_lt hk]; exact h.2 _ (List.getElem_mem ..)
    · rw [Rv.cf_ge (by omega)]; omega
  · intro h
    refine ⟨h.l, fun x hx => ?_⟩
    obtain ⟨k, hk, rfl⟩ := List.mem_iff_getElem.mp hx
    have := h.b k
    rwa [cf_lt hk] at this
theorem count {p : Int} {w : Nat} {F : Fm} (hp : 1 < p) (h : Ok p w F) (q : List Int → Bool) (hq : ∀ u, Vec p w u → (q u = true ↔ ∀ x ∈ F, Or p w x.2 u)) : ((tup p.toNat w).filter q).length = p.toNat ^ (fre w F).length := by
  rw [← tup_len]
  have inj : ∀ a ∈ (tup p.toNat w).filter q, ∀ b ∈ (tup p.toNat w).filter q, (fre w F).map (cf a) = (fre w F).map (cf b) → a = b := fun a ha b hb e => by
    obtain ⟨ha1, ha2⟩ := List.mem_filter.mp ha
    obtain ⟨hb1, hb2⟩ := List.mem_filter.mp hb
    have va := (tup_vec (by omega)).mp ha1
    have vb := (tup_vec (by omega)).mp hb1
    have oa := (hq a va).mp ha2
    have ob := (hq b vb).mp hb2
    have hz := zero_vec (va.ls (by omega) 1 vb) (by omega) h (fun x hx => Cl.Or x.2 _ _ _ va vb (oa x hx) (ob x hx)) fun g hg => by
      have : cf a g = cf b g := by
        obtain ⟨i, hi, rfl⟩ := List.mem_iff_getElem.mp hg
        have := congrArg (fun l => l[i]?) e
        simpa [hi] using this
      rw [ls_cf 1 va vb, this]; simp
    refine va.ext vb fun k hk => ?_
    have := hz k
    rw [ls_cf 1 va vb] at this
    have b1 := va.b k
    have b2 := vb.b k
    have d := Int.emod_add_mul_ediv (cf a k - 1 * cf b k) p
    rw [this] at d
    generalize (cf a k - 1 * cf b k) / p = c at d
    have : c = 0 := by
      rcases Int.lt_trichotomy c 0 with hq | hq | hq
      · have := Int.mul_le_mul_of_nonneg_left (show c ≤ -1 by omega) (show 0 ≤ p by omega)
        omega
      · exact hq
      · have := Int.mul_le_mul_of_nonneg_left (show 1 ≤ c by omega) (show 0 ≤ p by omega)
        omega
    rw [this] at d
    omega
  have nd : (((tup p.toNat w).filter q).map fun u => (fre w F).map (cf u)).Nodup := by
    unfold List.Nodup
    rw [List.pairwise_map]
    have h1 : ((tup p.toNat w).filter q).Nodup := nodup_filt _ (tup_nodup _ _)
    refine List.Pairwise.imp_of_mem ?_ h1
    intro a b ha hb hne e
    exact hne (inj a ha b hb e)
  have le1 : ((tup p.toNat w).filter q).length ≤ (tup p.toNat (fre w F).length).length := by
    have := len_le (l2 := tup p.toNat (fre w F).length) nd fun t ht => by
      obtain ⟨u, hu, rfl⟩ := List.mem_map.mp ht
      have vu := (tup_vec (by omega)).mp (List.mem_filter.mp hu).1
      refine tup_mem.mpr ⟨by simp, fun x hx => ?_⟩
      obtain ⟨k, _, rfl⟩ := List.mem_map.mp hx
      rw [Int.toNat_of_nonneg (by omega)]
      exact vu.b k
    simpa using this
  have le2 : (tup p.toNat (fre w F).length).length ≤ ((tup p.toNat w).filter q).length := by
    have := len_le (l2 := ((tup p.toNat w).filter q).map fun u => (fre w F).map (cf u)) (tup_nodup p.toNat (fre w F).length) fun t ht => by
      obtain ⟨tl, tb⟩ := tup_mem.mp ht
      rw [Int.toNat_of_nonneg (by omega)] at tb
      have hzl : ((fre w F).zip t).map (·.1) = fre w F := List.map_fst_zip (by omega)
      obtain ⟨u, u1, u2, u3, u4⟩ := ker_ex hp h ((fre w F).zip t) (fun z hz => ⟨(List.of_mem_zip hz).1, tb _ (List.of_mem_zip hz).2⟩) (by rw [hzl]; exact fre_nodup w F)
      refine List.mem_map.mpr ⟨u, List.mem_filter.mpr ⟨(tup_vec (by omega)).mpr u1, (hq u u1).mpr u2⟩, ?_⟩
      refine List.ext_getElem (by simp [tl]) fun i h1 h2 => ?_
      rw [List.getElem_map]
      have hi : i < (fre w F).length := by simpa using h1
      have := u3 ((fre w F)[i], t[i]) (by
        have hlt : i < ((fre w F).zip t).length := by rw [List.length_zip]; omega
        have := List.getElem_mem hlt
        simpa using this)
      exact this
    simpa using this
  omega
end Rv
namespace Mn
open PySem Rg Rm Rv
section
variable {p : Int} {w : Nat}
end
end Mn
namespace Rg
open PySem
end Rg
namespace Mn
open PySem Rg Rm Rv
section
variable {p : Int} {w : Nat}
end
end Mn
namespace Rv
open Rm
theorem cf_take (w : Nat) (a : List Int) (k : Nat) : cf (a.take w) k = if k < w then cf a k else 0 := by
  unfold cf
  simp only [List.getD_eq_getElem?_getD, List.getElem?_take]
  split <;> rfl
theorem cf_app (a b : List Int) (k : Nat) : cf (a ++ b) k = if k < a.length then cf a k else cf b (k - a.length) := by
  unfold cf
  simp only [List.getD_eq_getElem?_getD]
  by_cases h : k < a.length
  · rw [if_pos h, List.getElem?_append_left h]
  · rw [if_neg h, List.getElem?_append_right (by omega)]
section
variable {p : Int} {w m : Nat}
theorem Vec.take {a : List Int} (h : Vec p (w + m) a) (hp : 0 < p) : Vec p w (a.take w) := ⟨by rw [List.length_take, h.l]; omega, fun k => by
  rw [cf_take]
  split
  · exact h.b k
  · omega⟩
theorem Vec.app {a b : List Int} (ha : Vec p w a) (hb : Vec p m b) : Vec p (w + m) (a ++ b) := ⟨by rw [List.length_append, ha.l, hb.l], fun k => by
  rw [cf_app]
  split
  · exact ha.b k
  · exact hb.b _⟩
theorem take_ls {a b : List Int} (hp : 0 < p) (c : Int) (ha : Vec p (w + m) a) (hb : Vec p (w + m) b) : (ls p c a b).take w = ls p c (a.take w) (b.take w) :=
  (((ha.ls hp c hb).take hp)).ext ((ha.take hp).ls hp c (hb.take hp)) fun k hk => by
    rw [cf_take, if_pos hk, ls_cf c ha hb, ls_cf c (ha.take hp) (hb.take hp), cf_take, cf_take, if_pos hk, if_pos hk]
theorem Cl.take (hp : 0 < p) {C : List Int → Prop} (h : Cl p w C) : Cl p (w + m) (fun z => C (z.take w)) := fun a b c ha hb h1 h2 => by
  show C ((ls p c a b).take w)
  rw [take_ls hp c ha hb]
  exact h _ _ _ (ha.take hp) (hb.take hp) h1 h2
theorem In.back (hp : 0 < p) {B : Fm} : ∀ {A : Fm} {u : List Int}, Vec p w u → (∀ x ∈ A, Vec p w x.2 ∧ In p B x.2) → In p B (low p u A) → In p B u
  | [], u, _, _, h => h
  | x :: A, u, hu, hA, h => by
    have hx := hA x (List.mem_cons_self ..)
    exact In.undo hp hu hx.1 (In.back hp (hu.ls hp _ hx.1) (fun y hy => hA y (List.mem_cons_of_mem _ hy)) h) hx.2
theorem In.zeros {B : Fm} {u : List Int} (h : ∀ k, cf u k = 0) : In p B u := fun k => by
  rw [h k, sm_zero fun x _ => .inl (h x.1)]; simp
theorem In.trans (hp : 0 < p) {A B : Fm} (hA : Ok p w A) {u : List Int} (hu : Vec p w u) (h : In p A u) (hB : ∀ x ∈ A, In p B x.2) : In p B u :=
  In.back hp hu (fun x hx => ⟨hA.v x hx, hB x hx⟩) (In.zeros fun k => by rw [(low_ok hp hA hu).2]; exact h k)
end
end Rv
namespace Mn
open PySem Rg Rm Rv
section
variable {p : Int} {w : Nat}
end
end Mn
namespace Rq
open Rm
variable {p : Int}
def dr (f : F) : F := fun k => ((k : Int) + 1) * f (k + 1)
theorem len_pos {a : List Int} (h : a ≠ []) : 0 < a.length := List.length_pos_iff.mpr h
theorem s_ne (hp : 0 < p) {a : List Int} (ha : Po p a) (h : a ≠ []) : s p a ≠ 0 := fun e => h (s_eq_nil hp ha e)
theorem len_mul (hp : Pri p) {a b c : List Int} (ha : Po p a) (hb : Po p b) (hc : Po p c) (ha0 : a ≠ []) (hb0 : b ≠ []) (e : s p c = s p a * s p b) : c.length = a.length + b.length - 1 ∧ c ≠ [] := by
  have hp1 := hp.1
  have : c = mulP p a b := s_inj (by omega) hc (Po.mulP (by omega) ..) (by rw [e, s_mulP])
  have hl := mul_len hp ha hb ha0 hb0
  rw [this]
  refine ⟨hl, fun z => ?_⟩
  rw [z] at hl
  have := len_pos ha0
  have := len_pos hb0
  simp at hl
  omega
def Irr (p : Int) (f : List Int) : Prop := Po p f ∧ 2 ≤ f.length ∧ ∀ a b, Po p a → Po p b → s p f = s p a * s p b → a.length = 1 ∨ b.length = 1
theorem Irr.ne {f : List Int} (h : Irr p f) : f ≠ [] := fun e => by have := h.2.1; rw [e] at this; simp at this
theorem unit1 (hp : Pri p) (hu : ∀ x, 0 < x → x < p → ∃ y, x * y % p = 1) {a : List Int} (ha : Po p a) (h : a.length = 1) : ∃ x y : Int, a = [x] ∧ 0 < x ∧ x < p ∧ (icst x : Sr p) * icst y = 1 ∧ s p a = icst x := by
  obtain ⟨x, rfl⟩ := List.length_eq_one_iff.mp h
  have hp1 := hp.1
  have hx := ha.r x (by simp)
  have hx0 : x ≠ 0 := fun e => by
    have := trim_last ha.t (by simp)
    simp [cf] at this
    exact this e
  obtain ⟨y, hy⟩ := hu x (by omega) hx.2
  exact ⟨x, y, rfl, by omega, hx.2, ic_unit (by rw [hy]; exact (Int.emod_eq_of_lt (by omega) hp1).symm), s_one x⟩
def Un (p : Int) : Prop := ∀ x, 0 < x → x < p → ∃ y, x * y % p = 1
theorem Dvd.isP {g a : List Int} (h : Dvd p g a) : ∃ q : Sr p, IsP q ∧ s p a = q * s p g := by
  obtain ⟨q, hq, e⟩ := h
  exact ⟨s p q, ⟨q, hq, rfl⟩, e⟩
theorem dvd_len (hp : Pri p) {g a : List Int} (hg : Po p g) (ha : Po p a) (ha0 : a ≠ []) (h : Dvd p g a) : g ≠ [] ∧ g.length ≤ a.length ∧ ∃ q, Po p q ∧ q ≠ [] ∧ s p a = s p q * s p g ∧ a.length = q.length + g.length - 1 := by
  have hp1 := hp.1
  obtain ⟨q, hq, e⟩ := h
  have hg0 : g ≠ [] := fun z => s_ne (by omega) ha ha0 (by rw [e, z, s_nil]; grind)
  have hq0 : q ≠ [] := fun z => s_ne (by omega) ha ha0 (by rw [e, z, s_nil]; grind)
  have hl := len_mul hp hq hg ha hq0 hg0 e
  have := len_pos hq0
  have := len_pos hg0
  exact ⟨hg0, by omega, q, hq, hq0, e, hl.1⟩
structure Bz (p : Int) (a b g x y : List Int) : Prop where
  pg : Po p g
  px : Po p x
  py : Po p y
  e : s p g = s p x * s p a + s p y * s p b
  da : Dvd p g a
  db : Dvd p g b
  l : g = [] ∨ cf g (g.length - 1) = 1
theorem lv1 {g : List Int} (h : g.length = 1) (l : g = [] ∨ cf g (g.length - 1) = 1) : g = [1] := by
  obtain ⟨x, rfl⟩ := List.length_eq_one_iff.mp h
  rcases l with l | l
  · cases l
  · simp [cf] at l; rw [l]
theorem Irr.dvd (hp : Pri p) (hu : Un p) {f g : List Int} (hf : Irr p f) (hg : Po p g) (h : Dvd p g f) : g.length = 1 ∨ ∃ q : Sr p, IsP q ∧ s p g = q * s p f := by
  have hp1 := hp.1
  obtain ⟨_, _, q, hq, hq0, e, _⟩ := dvd_len hp hg hf.1 hf.ne h
  rcases hf.2.2 q g hq hg e with z | z
  · obtain ⟨x, y, rfl, _, _, hxy, hs⟩ := unit1 hp hu hq z
    refine .inr ⟨icst y, IsP.cst (by omega) y, ?_⟩
    rw [e, hs]
    have : icst y * (icst x * s p g) = (icst x * icst y) * s p g := by grind
    rw [this, hxy]; grind
  · exact .inl z
theorem Irr.prime (hp : Pri p) (hu : Un p) {f : List Int} (hf : Irr p f) {a g x y : List Int} {b : Sr p} (hB : Bz p f a g x y) (hb : IsP b) (ha : Po p a) (h : ∃ q, IsP q ∧ s p a * b = q * s p f) : (∃ q, IsP q ∧ s p a = q * s p f) ∨ ∃ q, IsP q ∧ b = q * s p f := by
  have hp1 := hp.1
  rcases hf.dvd hp hu hB.pg hB.da with z | ⟨q, hq, e⟩
  · right
    have hg1 := lv1 z hB.l
    obtain ⟨q, hq, e⟩ := h
    have he := hB.e
    rw [hg1, s_one, ic_one] at he
    refine ⟨s p x * b + s p y * q, IsP.add (by omega) (IsP.mul (by omega) ⟨x, hB.px, rfl⟩ hb) (IsP.mul (by omega) ⟨y, hB.py, rfl⟩ hq), ?_⟩
    have : b = 1 * b := by grind
    rw [this, he]
    have e2 : (s p x * s p f + s p y * s p a) * b = s p x * s p f * b + s p y * (s p a * b) := by grind
    rw [e2, e]; grind
  · left
    obtain ⟨q2, h2, e2⟩ := hB.db.isP
    exact ⟨q2 * q, IsP.mul (by omega) h2 hq, by rw [e2, e]; grind⟩
def pv (V : Sr p) : Nat → Sr p
  | 0 => 1
  | n + 1 => (V - icst n) * pv V n
theorem IsP.pv (hp : 0 < p) {V : Sr p} (h : IsP V) : ∀ n, IsP (pv V n)
  | 0 => IsP.one hp
  | n + 1 => IsP.mul hp (IsP.sub hp h (IsP.cst hp _)) (IsP.pv hp h n)
def HasB (p : Int) (f : List Int) : Prop := ∀ a, Po p a → a.length ≤ 40 → ∃ g x y, Bz p f a g x y
theorem Irr.some (hp : Pri p) (hu : Un p) {f v : List Int} (hf : Irr p f) (hB : HasB p f) (hv : Po p v) (hl : v.length ≤ 39) : ∀ n : Nat, (∃ q, IsP q ∧ pv (s p v) n = q * s p f) → ∃ c : Nat, ∃ q, IsP q ∧ s p v - icst c = q * s p f
  | 0, ⟨q, ⟨q', hq, e1⟩, e⟩ => by
    exfalso
    have hp1 := hp.1
    have e2 : s p [1] = s p q' * s p f := by rw [s_one, ic_one, ← e1]; exact e
    have h1 : Po p [1] := ⟨by decide, by simp; omega⟩
    have := (dvd_len hp hf.1 h1 (by simp) ⟨q', hq, e2⟩).2.1
    have := hf.2.1
    simp at *
    omega
  | n + 1, h => by
    have hp1 := hp.1
    have hw : s p (bl p (-(n : Int)) v [1]) = s p v - icst n := by
      rw [s_bl, s_one, ic_one, ic_neg]; grind
    have pw : Po p (bl p (-(n : Int)) v [1]) := Po.bl (by omega) ..
    have lw := bl_length p (-(n : Int)) v [1]
    simp only [List.length_cons, List.length_nil] at lw
    obtain ⟨g, x, y, hb⟩ := hB _ pw (by omega)
    rcases hf.prime hp hu hb (IsP.pv (by omega) ⟨v, hv, rfl⟩ n) pw (by rw [hw]; exact h) with ⟨q, hq, e⟩ | z
    · exact ⟨n, q, hq, by rw [← hw]; exact e⟩
    · exact hf.some hp hu hB hv hl n z
end Rq
namespace Rq
open Rm
variable {p : Int}
end Rq
namespace Rq
open Rm
variable {p : Int}
end Rq
namespace Mn
open PySem Rg Rm
end Mn
namespace Rq
open Rm
variable {p : Int}
end Rq
namespace Rq
open Rm
variable {p : Int}
end Rq
namespace Rq
open Rm
variable {p : Int}
def Dg (p : Int) (a : List Int) : Prop := ∀ x ∈ a, 0 ≤ x ∧ x < p
def inc (p : Int) : List Int → List Int
  | [] => []
  | x :: r => if x = p - 1 then 0 :: inc p r else (x + 1) :: r
theorem Dg.cons {x : Int} {r : List Int} (h : Dg p (x :: r)) : (0 ≤ x ∧ x < p) ∧ Dg p r := ⟨h x (by simp), fun y hy => h y (by simp [hy])⟩
end Rq
namespace Mn
open PySem Rg Rm Rv
section
variable {p : Int}
theorem pn (hp : p ∈ k_PRIMES) : ((p.toNat : Nat) : Int) = p := by have := pr_le p hp; omega
end
end Mn
namespace Mn
open PySem Rg Rm Rv
section
variable {p : Int}
theorem un (hp : p ∈ k_PRIMES) : Rq.Un p := fun x h0 h1 => ⟨iv p x, (iv_ok hp h0 h1).1⟩
end
end Mn
namespace Mn
open PySem Rg Rm
end Mn
namespace Rq
open Rm
variable {p : Int}
def Dv (f x : Sr p) : Prop := ∃ q, IsP q ∧ x = q * f
section
variable {f : List Int} {d : Nat}
end
end Rq
namespace Mn
open PySem Rg Rm Rv
section
variable {p : Int}
def lev (p : Int) (a : List Int) : List Int := Rq.scl p (iv p (cf a (a.length - 1))) a
end
end Mn
namespace Mn
open PySem Rg Rm
end Mn
namespace Mn
open PySem Rg Rm Rv
section
variable {p : Int}
def nx (p : Int) (low : List Int) : List Int := (Rq.inc p low.reverse).reverse
end
end Mn
namespace Mn
open PySem Rg Rm Rv
section
variable {p : Int}
end
end Mn
namespace Mn
open PySem Rg Rm
end Mn
namespace Mn
open PySem Rg Rm Rv
section
variable {p : Int}
def nsF : List Str := ["ruling", "base", "wide", "folds", "swings"]
end
end Mn
namespace Mn
open PySem Rg Rm Rv
section
variable {p : Int}
end
end Mn
namespace Rq
open Rm
variable {p : Int}
end Rq
namespace Mn
open PySem Rg Rm Rv
section
variable {p : Int} {r : List Int} {n : Nat} {fo sw : List (List Int)}
end
end Mn
namespace Mn
open PySem Rg Rm Rv
section
variable {p : Int} {r : List Int} {n : Nat} {fo sw : List (List Int)}
end
end Mn
namespace Mn
open PySem Rg Rm Rv
section
variable {p : Int} {r : List Int} {n : Nat} {fo sw : List (List Int)}
end
end Mn
namespace Mn
open PySem Rg Rm
end Mn
namespace Mn
open PySem Rg Rm
end Mn
namespace Mn
open PySem Rg Rm
end Mn
namespace Mn
open PySem Rg Rm
end Mn
namespace Mn
open PySem Rg Rm Rv
section
variable {p : Int} {r : List Int} {n : Nat} {fo sw : List (List Int)}
end
end Mn
namespace Mn
open PySem Rg Rm
end Mn
namespace Mn
open PySem Rg Rm
end Mn
namespace Mn
open PySem Rg Rm
end Mn
namespace Mn
open PySem Rg Rm
end Mn
namespace Mn
open PySem Rg Rm
end Mn
namespace Mn
open PySem Rg Rm
end Mn
namespace Mn
open PySem Rg Rm
end Mn
namespace Mn
open PySem Rg Rm
end Mn
namespace Mn
open PySem Rg
end Mn
namespace Mn
open PySem Rg
end Mn
namespace Mn
open PySem Rg
end Mn
namespace Mn
open PySem Rg
end Mn
namespace K53
open PySem PySem.Spec PyProof.Rows L2 Rg Mn
abbrev Env := Rg.Env
noncomputable def Le_number_in_1 : Env → R (BV × Env) :=
  (mB (two (fInS false)) (mA1 (mN 2) (mA1 (mK (.str "0123456789")) mA0)))
noncomputable def B_number_in : Env → R Fl :=
  (mSeq (mIf (mOr (mNot (mT (mCh (fun i j => decide (i ≤ j)) (fun i j => decide (i ≤ j)) (mK (.int 1)) (mB fLenS (mA1 (mN 0) mA0)) (mN 1)))) (mNot (mT (mB fAll (mA1 (mLc (mIc (mN 0)) (gN 2) mYes Le_number_in_1 [2]) mA0))))) (mRet (mK .non)) mNx)
  (mRet (mIfE (mOr (mT (mB (two fEq) (mA1 (mN 0) (mA1 (mK (.str "0")) mA0)))) (mT (mB (two fNe) (mA1 (mB (two fIx) (mA1 (mN 0) (mA1 (mK (.int 0)) mA0))) (mA1 (mK (.str "0")) mA0))))) (mB fIntS (mA1 (mN 0) mA0)) (mK .non))))
noncomputable def M_number_in : List D → R Nw := fin 2 B_number_in 1
noncomputable def Le_is_name_1 : Env → R (BV × Env) :=
  (mB (two (fInS false)) (mA1 (mN 1) (mA1 (mK (.str "abcdefghijklmnopqrstuvwxyz")) mA0)))
noncomputable def B_is_name : Env → R Fl :=
  (mRet (mAndV (mCh (fun i j => decide (i ≤ j)) (fun i j => decide (i ≤ j)) (mK (.int 1)) (mB fLenS (mA1 (mN 0) mA0)) (mK (.int 8))) (mB fAll (mA1 (mLc (mIc (mN 0)) (gN 1) mYes Le_is_name_1 [1]) mA0))))
noncomputable def M_is_name : List D → R Nw := fin 1 B_is_name 1
noncomputable def Wc_bits_of_2 : Env → R (Bool × Env) :=
  (mAnd (mT (mBm "str" fAlnum (mB (two fIx) (mA1 (mN 0) (mA1 (mN 2) mA0))) mA0)) (mAnd (mT (mB (two fLt) (mA1 (mN 3) (mA1 (mB fLenS (mA1 (mN 0) mA0)) mA0)))) (mT (mBm "str" fAlnum (mB (two fIx) (mA1 (mN 0) (mA1 (mN 3) mA0))) mA0))))
noncomputable def Wb_bits_of_2 : Env → R Fl :=
  (mAug 3 fAdd (mK (.int 1)))
noncomputable def Wc_bits_of_1 : Env → R (Bool × Env) :=
  (mT (mB (two fLt) (mA1 (mN 2) (mA1 (mB fLenS (mA1 (mN 0) mA0)) mA0))))
noncomputable def Wb_bits_of_1 : Env → R Fl :=
  (mSeq (mSet 3 (mB (two fAdd) (mA1 (mN 2) (mA1 (mK (.int 1)) mA0))))
  (mSeq (mWh Wc_bits_of_2 Wb_bits_of_2 FUEL)
  (mSeq (mIf (mT (mB (two fNe) (mA1 (mB (two fIx) (mA1 (mN 0) (mA1 (mN 2) mA0))) (mA1 (mK (.str " ")) mA0)))) (mDrop (mMe 1 fApp (mA1 (mTup (mA1 (mSlB (mN 0) (mN 2) (mN 3)) (mA1 (mN 2) mA0))) mA0))) mNx)
  (mSet 2 (mN 3)))))
noncomputable def B_bits_of : Env → R Fl :=
  (mSeq (mSet 1 (mLst mA0))
  (mSeq (mSet 2 (mK (.int 0)))
  (mSeq (mWh Wc_bits_of_1 Wb_bits_of_1 FUEL)
  (mRet (mN 1)))))
noncomputable def M_bits_of : List D → R Nw := fin 1 B_bits_of 3
noncomputable def B_Reader___init__ : Env → R Fl :=
  (mSeq (mRp "Reader" 0 "bits" (mCall M_bits_of (mA1 (mN 1) mA0)))
  (mSeq (mRp "Reader" 0 "spot" (mK (.int 0)))
  (mRp "Reader" 0 "end" (mB fLenS (mA1 (mN 1) mA0)))))
noncomputable def M_Reader___init__ : Sl → List D → R (Nw × Sl) := finS 1 B_Reader___init__ 0
noncomputable def B_Reader_ahead : Env → R Fl :=
  (mRet (mIfE (mT (mB (two fLt) (mA1 (mRg "Reader" 0 "spot") (mA1 (mB fLen (mA1 (mRg "Reader" 0 "bits") mA0)) mA0)))) (mB (two fIx) (mA1 (mB (two fIx) (mA1 (mRg "Reader" 0 "bits") (mA1 (mRg "Reader" 0 "spot") mA0))) (mA1 (mK (.int 0)) mA0))) (mK (.str ""))))
noncomputable def M_Reader_ahead : Sl → List D → R (Nw × Sl) := finS 0 B_Reader_ahead 0
noncomputable def B_Reader_wrong : Env → R Fl :=
  (mRet (mIfE (mT (mB (two fLt) (mA1 (mRg "Reader" 0 "spot") (mA1 (mB fLen (mA1 (mRg "Reader" 0 "bits") mA0)) mA0)))) (mB (two fIx) (mA1 (mB (two fIx) (mA1 (mRg "Reader" 0 "bits") (mA1 (mRg "Reader" 0 "spot") mA0))) (mA1 (mK (.int 1)) mA0))) (mRg "Reader" 0 "end")))
noncomputable def M_Reader_wrong : Sl → List D → R (Nw × Sl) := finS 0 B_Reader_wrong 0
noncomputable def B_Reader_taken : Env → R Fl :=
  (mSeq (mSet 1 (mMthS "Reader" 0 "ahead" M_Reader_ahead))
  (mSeq (mRa "Reader" 0 "spot" (mK (.int 1)))
  (mRet (mN 1))))
noncomputable def M_Reader_taken : Sl → List D → R (Nw × Sl) := finS 0 B_Reader_taken 1
noncomputable def B_Reader_number : Env → R Fl :=
  (mSeq (mSet 1 (mCall M_number_in (mA1 (mMthS "Reader" 0 "ahead" M_Reader_ahead) (mA1 (mK (.int 6)) mA0))))
  (mSeq (mIf (mT (mB (two (fIs false)) (mA1 (mN 1) (mA1 (mK .non) mA0)))) (mRaise "BadText" ["at"] (mA1 (mMthS "Reader" 0 "wrong" M_Reader_wrong) mA0)) mNx)
  (mSeq (mRa "Reader" 0 "spot" (mK (.int 1)))
  (mRet (mN 1)))))
noncomputable def M_Reader_number : Sl → List D → R (Nw × Sl) := finS 0 B_Reader_number 1
-- Reader_power: see Reader_atom
-- Reader_products: see Reader_atom
-- Reader_sums: see Reader_atom
noncomputable def Wc_Reader_power_1 : Env → R (Bool × Env) :=
  (mT (mB (two (fInW false)) (mA1 (mMthS "Reader" 0 "ahead" M_Reader_ahead) (mA1 (mTup (mA1 (mK (.str "^")) (mA1 (mK (.str "'")) mA0))) mA0))))
noncomputable def Wb_Reader_power_1 : Env → R Fl :=
  (mIf (mT (mB (two fEq) (mA1 (mMthS "Reader" 0 "taken" M_Reader_taken) (mA1 (mK (.str "'")) mA0)))) (mSet 1 (mTup (mA1 (mK (.str "turned")) (mA1 (mN 1) mA0)))) (mSeq (mSet 2 (mB (two fEq) (mA1 (mMthS "Reader" 0 "ahead" M_Reader_ahead) (mA1 (mK (.str "-")) mA0))))
  (mSeq (mRa "Reader" 0 "spot" (mB fInt (mA1 (mN 2) mA0)))
  (mSeq (mSet 3 (mMthS "Reader" 0 "number" M_Reader_number))
  (mSet 1 (mTup (mA1 (mK (.str "power")) (mA1 (mN 1) (mA1 (mIfE (mT (mN 2)) (mB (two fSub) (mA1 (mK (.int 0)) (mA1 (mN 3) mA0))) (mN 3)) mA0)))))))))
noncomputable def B_Reader_power (M_Reader_atom : Sl → List D → R (Nw × Sl)) : Env → R Fl :=
  (mSeq (mSet 1 (mMthS "Reader" 0 "atom" M_Reader_atom))
  (mSeq (mWh Wc_Reader_power_1 Wb_Reader_power_1 FUEL)
  (mRet (mN 1))))
noncomputable def Mq_Reader_power (M_Reader_atom : Sl → List D → R (Nw × Sl)) : Sl → List D → R (Nw × Sl) := finS 0 (B_Reader_power M_Reader_atom) 3
noncomputable def Wc_Reader_products_1 : Env → R (Bool × Env) :=
  (mT (mB (fDcI [("*", "times"), ("/", "over")]) (mA1 (mMthS "Reader" 0 "ahead" M_Reader_ahead) mA0)))
noncomputable def Wb_Reader_products_1 (M_Reader_atom : Sl → List D → R (Nw × Sl)) : Env → R Fl :=
  (mSeq (mSet 2 (mB (fDc [("*", "times"), ("/", "over")]) (mA1 (mMthS "Reader" 0 "taken" M_Reader_taken) mA0)))
  (mSet 1 (mTup (mA1 (mN 2) (mA1 (mN 1) (mA1 (mMthS "Reader" 0 "power" (Mq_Reader_power M_Reader_atom)) mA0))))))
noncomputable def B_Reader_products (M_Reader_atom : Sl → List D → R (Nw × Sl)) : Env → R Fl :=
  (mSeq (mSet 1 (mMthS "Reader" 0 "power" (Mq_Reader_power M_Reader_atom)))
  (mSeq (mWh Wc_Reader_products_1 (Wb_Reader_products_1 M_Reader_atom) FUEL)
  (mRet (mN 1))))
noncomputable def Mq_Reader_products (M_Reader_atom : Sl → List D → R (Nw × Sl)) : Sl → List D → R (Nw × Sl) := finS 0 (B_Reader_products M_Reader_atom) 2
noncomputable def Wc_Reader_sums_1 : Env → R (Bool × Env) :=
  (mT (mB (fDcI [("+", "plus"), ("-", "minus")]) (mA1 (mMthS "Reader" 0 "ahead" M_Reader_ahead) mA0)))
noncomputable def Wb_Reader_sums_1 (M_Reader_atom : Sl → List D → R (Nw × Sl)) : Env → R Fl :=
  (mSeq (mSet 2 (mB (fDc [("+", "plus"), ("-", "minus")]) (mA1 (mMthS "Reader" 0 "taken" M_Reader_taken) mA0)))
  (mSet 1 (mTup (mA1 (mN 2) (mA1 (mN 1) (mA1 (mMthS "Reader" 0 "products" (Mq_Reader_products M_Reader_atom)) mA0))))))
noncomputable def B_Reader_sums (M_Reader_atom : Sl → List D → R (Nw × Sl)) : Env → R Fl :=
  (mSeq (mSet 1 (mMthS "Reader" 0 "products" (Mq_Reader_products M_Reader_atom)))
  (mSeq (mWh Wc_Reader_sums_1 (Wb_Reader_sums_1 M_Reader_atom) FUEL)
  (mRet (mN 1))))
noncomputable def Mq_Reader_sums (M_Reader_atom : Sl → List D → R (Nw × Sl)) : Sl → List D → R (Nw × Sl) := finS 0 (B_Reader_sums M_Reader_atom) 2
noncomputable def B_Reader_atom (M_Reader_atom : Sl → List D → R (Nw × Sl)) : Env → R Fl :=
  (mSeq (mSet 1 (mMthS "Reader" 0 "ahead" M_Reader_ahead))
  (mSeq (mIf (mT (mCall M_is_name (mA1 (mN 1) mA0))) (mRet (mTup (mA1 (mK (.str "name")) (mA1 (mMthS "Reader" 0 "taken" M_Reader_taken) mA0)))) mNx)
  (mSeq (mIf (mT (mB (two fNe) (mA1 (mN 1) (mA1 (mK (.str "(")) mA0)))) (mRet (mTup (mA1 (mK (.str "number")) (mA1 (mMthS "Reader" 0 "number" M_Reader_number) mA0)))) mNx)
  (mSeq (mRa "Reader" 0 "spot" (mK (.int 1)))
  (mSeq (mSet 2 (mMthS "Reader" 0 "sums" (Mq_Reader_sums M_Reader_atom)))
  (mSeq (mIf (mT (mB (two fNe) (mA1 (mMthS "Reader" 0 "ahead" M_Reader_ahead) (mA1 (mK (.str ")")) mA0)))) (mRaise "BadText" ["at"] (mA1 (mMthS "Reader" 0 "wrong" M_Reader_wrong) mA0)) mNx)
  (mSeq (mRa "Reader" 0 "spot" (mK (.int 1)))
  (mRet (mN 2)))))))))
noncomputable def M_Reader_atom_ : Nat → Sl → List D → R (Nw × Sl)
  | 0 => fun _ _ => .bad
  | k + 1 => finS 0 (B_Reader_atom (M_Reader_atom_ k)) 2
noncomputable def M_Reader_atom : Sl → List D → R (Nw × Sl) := M_Reader_atom_ 40
noncomputable def M_Reader_sums : Sl → List D → R (Nw × Sl) := Mq_Reader_sums M_Reader_atom
noncomputable def B_read : Env → R Fl :=
  (mSeq (mSetD 1 (mRm "Reader" M_Reader___init__ (mA1 (mN 0) mA0)))
  (mSeq (mSet 2 (mMthS "Reader" 1 "sums" M_Reader_sums))
  (mSeq (mIf (mT (mB (two fNe) (mA1 (mMthS "Reader" 1 "ahead" M_Reader_ahead) (mA1 (mK (.str "")) mA0)))) (mRaise "BadText" ["at"] (mA1 (mMthS "Reader" 1 "wrong" M_Reader_wrong) mA0)) mNx)
  (mRet (mN 2)))))
noncomputable def M_read : List D → R Nw := fin 1 B_read 2
-- shut: see write
noncomputable def B_shut (M_write : List D → R Nw) : Env → R Fl :=
  (mRet (mIfE (mT (mB (two (fInW false)) (mA1 (mB (two fIx) (mA1 (mN 0) (mA1 (mK (.int 0)) mA0))) (mA1 (mN 1) mA0)))) (mJs [(mK (.str "(")), (mB fFmt (mA1 (mCall M_write (mA1 (mN 0) mA0)) mA0)), (mK (.str ")"))]) (mCall M_write (mA1 (mN 0) mA0))))
noncomputable def Mq_shut (M_write : List D → R Nw) : List D → R Nw := fin 2 (B_shut M_write) 0
noncomputable def B_write (M_write : List D → R Nw) : Env → R Fl :=
  (mSeq (mStar 1 2 3 (mN 0))
  (mSeq (mIf (mT (mB (two (fInW false)) (mA1 (mN 1) (mA1 (mTup (mA1 (mK (.str "name")) (mA1 (mK (.str "number")) mA0))) mA0)))) (mRet (mB fStr (mA1 (mN 2) mA0))) mNx)
  (mSeq (mIf (mT (mB (two fEq) (mA1 (mN 1) (mA1 (mK (.str "turned")) mA0)))) (mRet (mB (two fAdd) (mA1 (mCall (Mq_shut M_write) (mA1 (mN 2) (mA1 (mK (.tup (k_BINARY.map D.str))) mA0))) (mA1 (mK (.str "'")) mA0)))) mNx)
  (mSeq (mIf (mT (mB (two fEq) (mA1 (mN 1) (mA1 (mK (.str "power")) mA0)))) (mRet (mJs [(mB fFmt (mA1 (mCall (Mq_shut M_write) (mA1 (mN 2) (mA1 (mK (.tup (k_BINARY.map D.str))) mA0))) mA0)), (mK (.str "^")), (mB fFmt (mA1 (mB (two fIx) (mA1 (mN 3) (mA1 (mK (.int 0)) mA0))) mA0))])) mNx)
  (mSeq (mSet 4 (mIfE (mT (mB (two (fInW false)) (mA1 (mN 1) (mA1 (mTup (mA1 (mK (.str "times")) (mA1 (mK (.str "over")) mA0))) mA0)))) (mTup (mA1 (mK (.str "plus")) (mA1 (mK (.str "minus")) mA0))) (mTup mA0)))
  (mSeq (mSet 5 (mIfE (mT (mB (two (fInW false)) (mA1 (mN 1) (mA1 (mTup (mA1 (mK (.str "times")) (mA1 (mK (.str "over")) mA0))) mA0)))) (mK (.tup (k_BINARY.map D.str))) (mTup (mA1 (mK (.str "plus")) (mA1 (mK (.str "minus")) mA0)))))
  (mRet (mJs [(mB fFmt (mA1 (mCall (Mq_shut M_write) (mA1 (mN 2) (mA1 (mN 4) mA0))) mA0)), (mK (.str " ")), (mB fFmt (mA1 (mB (fDc [("plus", "+"), ("minus", "-"), ("times", "*"), ("over", "/")]) (mA1 (mN 1) mA0)) mA0)), (mK (.str " ")), (mB fFmt (mA1 (mCall (Mq_shut M_write) (mA1 (mB (two fIx) (mA1 (mN 3) (mA1 (mK (.int 0)) mA0))) (mA1 (mN 5) mA0))) mA0))]))))))))
noncomputable def M_write_ : Nat → List D → R Nw
  | 0 => fun _ => .bad
  | k + 1 => fin 1 (B_write (M_write_ k)) 5
noncomputable def M_write : List D → R Nw := M_write_ 8
noncomputable def B__law_letters : Env → R Fl :=
  (mRet (mK (.str "abcdefghijklmnopqrstuvwxyz")))
noncomputable def M__law_letters : List D → R Nw := fin 0 B__law_letters 0
noncomputable def Le__law_fresh_1 : Env → R (BV × Env) :=
  (mCallI M__law_of (mA1 (mN 0) (mA1 (mCall M__law_letters mA0) mA0)))
noncomputable def Le__law_fresh_2 : Env → R (BV × Env) :=
  (mB (two fMulS) (mA1 (mN 5) (mA1 (mK (.int 2)) mA0)))
noncomputable def Le__law_fresh_3 : Env → R (BV × Env) :=
  (mN 5)
noncomputable def Lt__law_fresh_3 : Env → R (Bool × Env) :=
  (mT (mB (two (fInW true)) (mA1 (mN 5) (mA1 (mN 1) mA0))))
noncomputable def B__law_fresh : Env → R Fl :=
  (mSeq (mSet 2 (mBm "str" fJoin (mK (.str "")) (mA1 (mLc (mR1 (mA1 (mCallI M__law_of (mA1 (mN 0) (mA1 (mLst (mA1 (mK (.int 1)) (mA1 (mK (.int 1)) (mA1 (mK (.int 2)) (mA1 (mK (.int 5)) (mA1 (mK (.int 8)) mA0)))))) mA0))) mA0)) (gN 4) mYes Le__law_fresh_1 [4]) mA0)))
  (mSeq (mSet 3 (mB (two fAdd) (mA1 (mLst (mA1 (mN 2) mA0)) (mA1 (mLc (mIc (mCall M__law_letters mA0)) (gN 5) mYes Le__law_fresh_2 [5]) mA0))))
  (mRet (mB (two fIx) (mA1 (mLc (mIs (mN 3)) (gN 5) Lt__law_fresh_3 Le__law_fresh_3 [5]) (mA1 (mK (.int 0)) mA0))))))
noncomputable def M__law_fresh : List D → List D → R (Nw × List D) := finI 1 B__law_fresh 4
noncomputable def B__law_tree (M__law_tree : List D → List D → R (Nw × List D)) : Env → R Fl :=
  (mSeq (mSet 3 (mCallI M__law_take (mA1 (mN 0) (mA1 (mK (.int 9)) mA0))))
  (mSeq (mIf (mOr (mT (mB (two fEq) (mA1 (mN 2) (mA1 (mK (.int 0)) mA0)))) (mT (mB (two fLt) (mA1 (mN 3) (mA1 (mK (.int 2)) mA0))))) (mSeq (mIf (mAnd (mT (mB (two fNe) (mA1 (mN 1) (mA1 (mLst mA0) mA0)))) (mT (mB (two fGt) (mA1 (mCallI M__law_take (mA1 (mN 0) (mA1 (mK (.int 4)) mA0))) (mA1 (mK (.int 0)) mA0))))) (mRet (mTup (mA1 (mK (.str "name")) (mA1 (mCallI M__law_of (mA1 (mN 0) (mA1 (mN 1) mA0))) mA0)))) mNx)
  (mRet (mTup (mA1 (mK (.str "number")) (mA1 (mCallI M__law_of (mA1 (mN 0) (mA1 (mLst (mA1 (mK (.int 0)) (mA1 (mK (.int 1)) (mA1 (mK (.int 2)) (mA1 (mK (.int 97)) (mA1 (mCallI M__law_take (mA1 (mN 0) (mA1 (mK (.int 1000000)) mA0))) mA0)))))) mA0))) mA0))))) mNx)
  (mSeq (mSet 4 (mCallI M__law_tree (mA1 (mN 0) (mA1 (mN 1) (mA1 (mB (two fSub) (mA1 (mN 2) (mA1 (mK (.int 1)) mA0))) mA0)))))
  (mSeq (mIf (mT (mB (two fEq) (mA1 (mN 3) (mA1 (mK (.int 2)) mA0)))) (mRet (mTup (mA1 (mK (.str "turned")) (mA1 (mN 4) mA0)))) mNx)
  (mSeq (mIf (mT (mB (two fEq) (mA1 (mN 3) (mA1 (mK (.int 3)) mA0)))) (mRet (mTup (mA1 (mK (.str "power")) (mA1 (mN 4) (mA1 (mCallI M__law_of (mA1 (mN 0) (mA1 (mLst (mA1 (mK (.int 0)) (mA1 (mK (.int 1)) (mA1 (mK (.int 2)) (mA1 (mK (.int 3)) (mA1 (mNeg (mK (.int 1))) (mA1 (mNeg (mK (.int 2))) (mA1 (mB (two fSub) (mA1 (mK (.int 7)) (mA1 (mCallI M__law_take (mA1 (mN 0) (mA1 (mK (.int 15)) mA0))) mA0))) (mA1 (mK (.int 999999)) (mA1 (mNeg (mK (.int 999999))) mA0)))))))))) mA0))) mA0))))) mNx)
  (mSeq (mSet 5 (mCallI M__law_of (mA1 (mN 0) (mA1 (mLst (mA1 (mK (.str "plus")) (mA1 (mK (.str "minus")) (mA1 (mK (.str "times")) (mA1 (mK (.str "plus")) (mA1 (mK (.str "times")) (mA1 (mK (.str "over")) mA0))))))) mA0))))
  (mRet (mTup (mA1 (mN 5) (mA1 (mN 4) (mA1 (mCallI M__law_tree (mA1 (mN 0) (mA1 (mN 1) (mA1 (mB fMax (mA1 (mK (.int 0)) (mA1 (mB (two fSub) (mA1 (mB (two fSub) (mA1 (mN 2) (mA1 (mK (.int 1)) mA0))) (mA1 (mCallI M__law_take (mA1 (mN 0) (mA1 (mK (.int 2)) mA0))) mA0))) mA0))) mA0)))) mA0)))))))))))
noncomputable def M__law_tree_ : Nat → List D → List D → R (Nw × List D)
  | 0 => fun _ _ => .bad
  | k + 1 => finI 2 (B__law_tree (M__law_tree_ k)) 3
noncomputable def M__law_tree : List D → List D → R (Nw × List D) := M__law_tree_ 8
noncomputable def B__law_signs : Env → R Fl :=
  (mRet (mPin (mDs [("plus", " + "), ("minus", " - "), ("times", " * "), ("over", " / ")])))
noncomputable def M__law_signs : List D → R Nw := fin 0 B__law_signs 0
-- _law_shut: see _law_text
noncomputable def B__law_shut (M__law_text : List D → R Nw) : Env → R Fl :=
  (mRet (mIfE (mT (mB (two (fInW false)) (mA1 (mB (two fIx) (mA1 (mN 0) (mA1 (mK (.int 0)) mA0))) (mA1 (mN 1) mA0)))) (mB (two fAdd) (mA1 (mB (two fAdd) (mA1 (mK (.str "(")) (mA1 (mCall M__law_text (mA1 (mN 0) mA0)) mA0))) (mA1 (mK (.str ")")) mA0))) (mCall M__law_text (mA1 (mN 0) mA0))))
noncomputable def Mq__law_shut (M__law_text : List D → R Nw) : List D → R Nw := fin 2 (B__law_shut M__law_text) 0
noncomputable def B__law_text (M__law_text : List D → R Nw) : Env → R Fl :=
  (mSeq (mSet 1 (mLst (mA1 (mK (.str "plus")) (mA1 (mK (.str "minus")) (mA1 (mK (.str "times")) (mA1 (mK (.str "over")) mA0))))))
  (mSeq (mIf (mT (mB (two (fInW false)) (mA1 (mB (two fIx) (mA1 (mN 0) (mA1 (mK (.int 0)) mA0))) (mA1 (mTup (mA1 (mK (.str "name")) (mA1 (mK (.str "number")) mA0))) mA0)))) (mRet (mB fStr (mA1 (mB (two fIx) (mA1 (mN 0) (mA1 (mK (.int 1)) mA0))) mA0))) mNx)
  (mSeq (mIf (mT (mB (two fEq) (mA1 (mB (two fIx) (mA1 (mN 0) (mA1 (mK (.int 0)) mA0))) (mA1 (mK (.str "turned")) mA0)))) (mRet (mB (two fAdd) (mA1 (mCall (Mq__law_shut M__law_text) (mA1 (mB (two fIx) (mA1 (mN 0) (mA1 (mK (.int 1)) mA0))) (mA1 (mN 1) mA0))) (mA1 (mK (.str "'")) mA0)))) mNx)
  (mSeq (mIf (mT (mB (two fEq) (mA1 (mB (two fIx) (mA1 (mN 0) (mA1 (mK (.int 0)) mA0))) (mA1 (mK (.str "power")) mA0)))) (mRet (mB (two fAdd) (mA1 (mB (two fAdd) (mA1 (mCall (Mq__law_shut M__law_text) (mA1 (mB (two fIx) (mA1 (mN 0) (mA1 (mK (.int 1)) mA0))) (mA1 (mN 1) mA0))) (mA1 (mK (.str "^")) mA0))) (mA1 (mB fStr (mA1 (mB (two fIx) (mA1 (mN 0) (mA1 (mK (.int 2)) mA0))) mA0)) mA0)))) mNx)
  (mSeq (mIf (mT (mB (two (fInW false)) (mA1 (mB (two fIx) (mA1 (mN 0) (mA1 (mK (.int 0)) mA0))) (mA1 (mTup (mA1 (mK (.str "plus")) (mA1 (mK (.str "minus")) mA0))) mA0)))) (mRet (mB (two fAdd) (mA1 (mB (two fAdd) (mA1 (mCall M__law_text (mA1 (mB (two fIx) (mA1 (mN 0) (mA1 (mK (.int 1)) mA0))) mA0)) (mA1 (mB (two fDg) (mA1 (mCall M__law_signs mA0) (mA1 (mB (two fIx) (mA1 (mN 0) (mA1 (mK (.int 0)) mA0))) mA0))) mA0))) (mA1 (mCall (Mq__law_shut M__law_text) (mA1 (mB (two fIx) (mA1 (mN 0) (mA1 (mK (.int 2)) mA0))) (mA1 (mB fSlH (mA1 (mN 1) (mA1 (mK (.int 2)) mA0))) mA0))) mA0)))) mNx)
  (mRet (mB (two fAdd) (mA1 (mB (two fAdd) (mA1 (mCall (Mq__law_shut M__law_text) (mA1 (mB (two fIx) (mA1 (mN 0) (mA1 (mK (.int 1)) mA0))) (mA1 (mB fSlH (mA1 (mN 1) (mA1 (mK (.int 2)) mA0))) mA0))) (mA1 (mB (two fDg) (mA1 (mCall M__law_signs mA0) (mA1 (mB (two fIx) (mA1 (mN 0) (mA1 (mK (.int 0)) mA0))) mA0))) mA0))) (mA1 (mCall (Mq__law_shut M__law_text) (mA1 (mB (two fIx) (mA1 (mN 0) (mA1 (mK (.int 2)) mA0))) (mA1 (mN 1) mA0))) mA0)))))))))
noncomputable def M__law_text_ : Nat → List D → R Nw
  | 0 => fun _ => .bad
  | k + 1 => fin 1 (B__law_text (M__law_text_ k)) 1
noncomputable def M__law_text : List D → R Nw := M__law_text_ 8
noncomputable def Fb__law_without_2 : Env → R Fl :=
  (mSeq (mSet 6 (mB (two fIx) (mA1 (mN 0) (mA1 (mN 5) mA0))))
  (mSeq (mSet 3 (mB (two fSub) (mA1 (mB (two fAdd) (mA1 (mN 3) (mA1 (mB fInt (mA1 (mB (two fEq) (mA1 (mN 6) (mA1 (mK (.str "(")) mA0))) mA0)) mA0))) (mA1 (mB fInt (mA1 (mB (two fEq) (mA1 (mN 6) (mA1 (mK (.str ")")) mA0))) mA0)) mA0))))
  (mIf (mAnd (mT (mB (two fEq) (mA1 (mN 3) (mA1 (mK (.int 0)) mA0)))) (mT (mB (two fEq) (mA1 (mN 4) (mA1 (mK (.int 0)) mA0))))) (mSet 4 (mN 5)) mNx)))
noncomputable def Fb__law_without_1 : Env → R Fl :=
  (mIf (mT (mB (two fEq) (mA1 (mB (two fIx) (mA1 (mN 0) (mA1 (mN 2) mA0))) (mA1 (mK (.str "(")) mA0)))) (mSeq (mAsg (gT 2 (gs1 (gN 3) (gs1 (gN 4) gs0))) (mTup (mA1 (mK (.int 0)) (mA1 (mK (.int 0)) mA0))))
  (mSeq (mFor (mR2 (mA1 (mN 2) (mA1 (mB fLenS (mA1 (mN 0) mA0)) mA0))) (gN 5) Fb__law_without_2)
  (mSeq (mSet 7 (mSlB (mN 0) (mB (two fAdd) (mA1 (mN 2) (mA1 (mK (.int 1)) mA0))) (mN 4)))
  (mDrop (mMe 1 fApp (mA1 (mB (two fAdd) (mA1 (mB (two fAdd) (mA1 (mB fSlHS (mA1 (mN 0) (mA1 (mN 2) mA0))) (mA1 (mN 7) mA0))) (mA1 (mB fSlLS (mA1 (mN 0) (mA1 (mB (two fAdd) (mA1 (mN 4) (mA1 (mK (.int 1)) mA0))) mA0))) mA0))) mA0)))))) mNx)
noncomputable def B__law_without : Env → R Fl :=
  (mSeq (mSet 1 (mLst mA0))
  (mSeq (mFor (mR1 (mA1 (mB fLenS (mA1 (mN 0) mA0)) mA0)) (gN 2) Fb__law_without_1)
  (mRet (mN 1))))
noncomputable def M__law_without : List D → R Nw := fin 1 B__law_without 7
noncomputable def Le_law_2 : Env → R (BV × Env) :=
  (mCallI M__law_fresh (mA1 (mN 1) (mA1 (mLst mA0) mA0)))
noncomputable def La_law_4 : Env → R (BV × Env) :=
  (mCall M_read (mA1 (mN 11) mA0))
noncomputable def Le_law_3 : Env → R (BV × Env) :=
  (mB (two fEq) (mA1 (mWhy kn La_law_4) (mA1 (mTup (mA1 (mK (.str "told")) (mA1 (mN 4) mA0))) mA0)))
noncomputable def Fb_law_1 : Env → R Fl :=
  (mSeq (mSet 3 (mLc (mR1 (mA1 (mK (.int 3)) mA0)) (gN 10) mYes Le_law_2 [10]))
  (mSeq (mSet 4 (mCallI M__law_tree (mA1 (mN 1) (mA1 (mN 3) (mA1 (mCallI M__law_take (mA1 (mN 1) (mA1 (mK (.int 5)) mA0))) mA0)))))
  (mSeq (mSet 5 (mCall M_write (mA1 (mN 4) mA0)))
  (mSeq (mIf (mNot (mT (mCall M__law_same (mA1 (mN 5) (mA1 (mCall M__law_text (mA1 (mN 4) mA0)) mA0))))) (mRet (mK (.bl false))) mNx)
  (mIf (mT (mB (two fLt) (mA1 (mB fLenS (mA1 (mN 5) mA0)) (mA1 (mK (.int 380)) mA0)))) (mSeq (mIf (mNot (mT (mCall M__law_same (mA1 (mCall M_read (mA1 (mN 5) mA0)) (mA1 (mN 4) mA0))))) (mRet (mK (.bl false))) mNx)
  (mSeq (mIf (mT (mB (two fNe) (mA1 (mCall M_write (mA1 (mCall M_read (mA1 (mB (two fAdd) (mA1 (mB (two fAdd) (mA1 (mK (.str "(")) (mA1 (mN 5) mA0))) (mA1 (mK (.str ")")) mA0))) mA0)) mA0)) (mA1 (mN 5) mA0)))) (mRet (mK (.bl false))) mNx)
  (mIf (mT (mB fAnyT (mA1 (mLc (mIs (mCall M__law_without (mA1 (mN 5) mA0))) (gN 11) mYes Le_law_3 [11]) mA0))) (mRet (mK (.bl false))) mNx))) mNx)))))
noncomputable def Le_law_5 : Env → R (BV × Env) :=
  (mCall M_write (mA1 (mN 4) mA0))
noncomputable def B_law : Env → R Fl :=
  (mSeq (mSet 1 (mCall M__law_begin (mA1 (mN 0) mA0)))
  (mSeq (mFor (mR1 (mA1 (mK (.int 6)) mA0)) (gN 2) Fb_law_1)
  (mSeq (mAsg (gT 2 (gs1 (gN 6) (gs1 (gN 7) gs0))) (mTup (mA1 (mTup (mA1 (mK (.str "name")) (mA1 (mK (.str "a")) mA0))) (mA1 (mTup (mA1 (mK (.str "name")) (mA1 (mK (.str "b")) mA0))) mA0))))
  (mSeq (mSet 8 (mLst (mA1 (mTup (mA1 (mK (.str "power")) (mA1 (mTup (mA1 (mK (.str "plus")) (mA1 (mN 6) (mA1 (mN 7) mA0)))) (mA1 (mNeg (mK (.int 2))) mA0)))) (mA1 (mTup (mA1 (mK (.str "turned")) (mA1 (mTup (mA1 (mK (.str "power")) (mA1 (mN 6) (mA1 (mK (.int 0)) mA0)))) mA0))) mA0))))
  (mSeq (mSet 8 (mB (two fAdd) (mA1 (mN 8) (mA1 (mLst (mA1 (mTup (mA1 (mK (.str "minus")) (mA1 (mN 6) (mA1 (mTup (mA1 (mK (.str "minus")) (mA1 (mN 7) (mA1 (mN 6) mA0)))) mA0)))) (mA1 (mTup (mA1 (mK (.str "times")) (mA1 (mTup (mA1 (mK (.str "over")) (mA1 (mN 6) (mA1 (mN 7) mA0)))) (mA1 (mN 6) mA0)))) mA0))) mA0))))
  (mSeq (mSet 9 (mLst (mA1 (mK (.str "(a + b)^-2")) (mA1 (mK (.str "a^0'")) (mA1 (mK (.str "a - (b - a)")) (mA1 (mK (.str "a / b * a")) mA0))))))
  (mRet (mB (two fEq) (mA1 (mLc (mIs (mN 8)) (gN 4) mYes Le_law_5 [4]) (mA1 (mN 9) mA0))))))))))
noncomputable def M_law : List D → R Nw := fin 1 B_law 11
theorem bt_abs : bootBuiltins "abs" = some (.builtin "abs") := by decide +kernel
theorem bt_all : bootBuiltins "all" = some (.builtin "all") := by decide +kernel
theorem bt_any : bootBuiltins "any" = some (.builtin "any") := by decide +kernel
theorem bt_bool : bootBuiltins "bool" = some (.type "bool") := by decide +kernel
theorem bt_int : bootBuiltins "int" = some (.type "int") := by decide +kernel
theorem bt_isinstance : bootBuiltins "isinstance" = some (.builtin "isinstance") := by decide +kernel
theorem bt_len : bootBuiltins "len" = some (.builtin "len") := by decide +kernel
theorem bt_list : bootBuiltins "list" = some (.type "list") := by decide +kernel
theorem bt_max : bootBuiltins "max" = some (.builtin "max") := by decide +kernel
theorem bt_str : bootBuiltins "str" = some (.type "str") := by decide +kernel
theorem bt_tuple : bootBuiltins "tuple" = some (.type "tuple") := by decide +kernel
theorem sc_number_in : FnScope N_number_in ["word", "most"] (defScope s_number_in) := fsc
theorem sc_is_name : FnScope N_is_name ["word"] (defScope s_is_name) := fsc
theorem sc_bits_of : FnScope N_bits_of ["text"] (defScope s_bits_of) := fsc
theorem sc_read : FnScope N_read ["text"] (defScope s_read) := fsc
theorem sc_shut : FnScope N_shut ["tree", "kinds"] (defScope s_shut) := fsc
theorem sc_write : FnScope N_write ["tree"] (defScope s_write) := fsc
theorem sc__law_begin : FnScope N__law_begin ["_law_script"] (defScope s__law_begin) := fsc
theorem sc__law_take : FnScope N__law_take ["_law_draw", "_law_sides"] (defScope s__law_take) := fsc
theorem sc__law_of : FnScope N__law_of ["_law_draw", "_law_row"] (defScope s__law_of) := fsc
theorem sc__law_same : FnScope N__law_same ["_law_found", "_law_due"] (defScope s__law_same) := fsc
theorem sc__law_why : FnScope ["_law_ask", "e"] ["_law_ask"] (defScope s__law_why) := fsc
theorem sc__law_letters : FnScope N__law_letters [] (defScope s__law_letters) := fsc
theorem sc__law_fresh : FnScope N__law_fresh ["_law_draw", "_law_taken"] (defScope s__law_fresh) := fsc
theorem sc__law_tree : FnScope N__law_tree ["_law_draw", "_law_names", "_law_deep"] (defScope s__law_tree) := fsc
theorem sc__law_signs : FnScope N__law_signs [] (defScope s__law_signs) := fsc
theorem sc__law_shut : FnScope N__law_shut ["_law_tree_here", "_law_kinds"] (defScope s__law_shut) := fsc
theorem sc__law_text : FnScope N__law_text ["_law_tree_here"] (defScope s__law_text) := fsc
theorem sc__law_without : FnScope N__law_without ["_law_text_here"] (defScope s__law_without) := fsc
theorem sc_law : FnScope N_law ["_law_script"] (defScope s_law) := fsc
theorem sc_Reader___init__ : FnScope N_Reader___init__ ["self", "text"] (defScope s_Reader___init__) := fsc
theorem sc_Reader_ahead : FnScope N_Reader_ahead ["self"] (defScope s_Reader_ahead) := fsc
theorem sc_Reader_wrong : FnScope N_Reader_wrong ["self"] (defScope s_Reader_wrong) := fsc
theorem sc_Reader_taken : FnScope N_Reader_taken ["self"] (defScope s_Reader_taken) := fsc
theorem sc_Reader_number : FnScope N_Reader_number ["self"] (defScope s_Reader_number) := fsc
theorem sc_Reader_atom : FnScope N_Reader_atom ["self"] (defScope s_Reader_atom) := fsc
theorem sc_Reader_power : FnScope N_Reader_power ["self"] (defScope s_Reader_power) := fsc
theorem sc_Reader_products : FnScope N_Reader_products ["self"] (defScope s_Reader_products) := fsc
theorem sc_Reader_sums : FnScope N_Reader_sums ["self"] (defScope s_Reader_sums) := fsc
theorem sc_i_RungError : FnScope ["self", "word"] ["self", "word"] (defScope i_RungError) := fsc
theorem sc_i_BadText : FnScope ["self", "at"] ["self", "at"] (defScope i_BadText) := fsc
structure Tx (w : World) (K : PySem.W.Frag) (mg : Str → Option Value) (base : Heap) (fd : Nat → FuncData) : Prop where
  F0 : FunD K "number_in" "number_in" (defArgs s_number_in) (defBody s_number_in) (defScope s_number_in) [] [] (He.fAd K ("number_in", none)) (fd 0)
  b0 : Binds K (fd 0) ["word", "most"] []
  g0 : Gf K mg "number_in"
  F1 : FunD K "is_name" "is_name" (defArgs s_is_name) (defBody s_is_name) (defScope s_is_name) [] [] (He.fAd K ("is_name", none)) (fd 1)
  b1 : Binds K (fd 1) ["word"] []
  g1 : Gf K mg "is_name"
  F2 : FunD K "bits_of" "bits_of" (defArgs s_bits_of) (defBody s_bits_of) (defScope s_bits_of) [] [] (He.fAd K ("bits_of", none)) (fd 2)
  b2 : Binds K (fd 2) ["text"] []
  g2 : Gf K mg "bits_of"
  F3 : FunD K "read" "read" (defArgs s_read) (defBody s_read) (defScope s_read) [] [] (He.fAd K ("read", none)) (fd 3)
  b3 : Binds K (fd 3) ["text"] []
  g3 : Gf K mg "read"
  F4 : FunD K "shut" "shut" (defArgs s_shut) (defBody s_shut) (defScope s_shut) [] [] (He.fAd K ("shut", none)) (fd 4)
  b4 : Binds K (fd 4) ["tree", "kinds"] []
  g4 : Gf K mg "shut"
  F5 : FunD K "write" "write" (defArgs s_write) (defBody s_write) (defScope s_write) [] [] (He.fAd K ("write", none)) (fd 5)
  b5 : Binds K (fd 5) ["tree"] []
  g5 : Gf K mg "write"
  F6 : FunD K "_law_begin" "_law_begin" (defArgs s__law_begin) (defBody s__law_begin) (defScope s__law_begin) [] [] (He.fAd K ("_law_begin", none)) (fd 6)
  b6 : Binds K (fd 6) ["_law_script"] []
  g6 : Gf K mg "_law_begin"
  F7 : FunD K "_law_take" "_law_take" (defArgs s__law_take) (defBody s__law_take) (defScope s__law_take) [] [] (He.fAd K ("_law_take", none)) (fd 7)
  b7 : Binds K (fd 7) ["_law_draw", "_law_sides"] []
  g7 : Gf K mg "_law_take"
  F8 : FunD K "_law_of" "_law_of" (defArgs s__law_of) (defBody s__law_of) (defScope s__law_of) [] [] (He.fAd K ("_law_of", none)) (fd 8)
  b8 : Binds K (fd 8) ["_law_draw", "_law_row"] []
  g8 : Gf K mg "_law_of"
  F9 : FunD K "_law_same" "_law_same" (defArgs s__law_same) (defBody s__law_same) (defScope s__law_same) [] [] (He.fAd K ("_law_same", none)) (fd 9)
  b9 : Binds K (fd 9) ["_law_found", "_law_due"] []
  g9 : Gf K mg "_law_same"
  F10 : FunD K "_law_why" "_law_why" (defArgs s__law_why) (defBody s__law_why) (defScope s__law_why) [] [] (He.fAd K ("_law_why", none)) (fd 10)
  b10 : Binds K (fd 10) ["_law_ask"] []
  g10 : Gf K mg "_law_why"
  F11 : FunD K "_law_letters" "_law_letters" (defArgs s__law_letters) (defBody s__law_letters) (defScope s__law_letters) [] [] (He.fAd K ("_law_letters", none)) (fd 11)
  b11 : Binds K (fd 11) [] []
  g11 : Gf K mg "_law_letters"
  F12 : FunD K "_law_fresh" "_law_fresh" (defArgs s__law_fresh) (defBody s__law_fresh) (defScope s__law_fresh) [] [] (He.fAd K ("_law_fresh", none)) (fd 12)
  b12 : Binds K (fd 12) ["_law_draw", "_law_taken"] []
  g12 : Gf K mg "_law_fresh"
  F13 : FunD K "_law_tree" "_law_tree" (defArgs s__law_tree) (defBody s__law_tree) (defScope s__law_tree) [] [] (He.fAd K ("_law_tree", none)) (fd 13)
  b13 : Binds K (fd 13) ["_law_draw", "_law_names", "_law_deep"] []
  g13 : Gf K mg "_law_tree"
  F14 : FunD K "_law_signs" "_law_signs" (defArgs s__law_signs) (defBody s__law_signs) (defScope s__law_signs) [] [] (He.fAd K ("_law_signs", none)) (fd 14)
  b14 : Binds K (fd 14) [] []
  g14 : Gf K mg "_law_signs"
  F15 : FunD K "_law_shut" "_law_shut" (defArgs s__law_shut) (defBody s__law_shut) (defScope s__law_shut) [] [] (He.fAd K ("_law_shut", none)) (fd 15)
  b15 : Binds K (fd 15) ["_law_tree_here", "_law_kinds"] []
  g15 : Gf K mg "_law_shut"
  F16 : FunD K "_law_text" "_law_text" (defArgs s__law_text) (defBody s__law_text) (defScope s__law_text) [] [] (He.fAd K ("_law_text", none)) (fd 16)
  b16 : Binds K (fd 16) ["_law_tree_here"] []
  g16 : Gf K mg "_law_text"
  F17 : FunD K "_law_without" "_law_without" (defArgs s__law_without) (defBody s__law_without) (defScope s__law_without) [] [] (He.fAd K ("_law_without", none)) (fd 17)
  b17 : Binds K (fd 17) ["_law_text_here"] []
  g17 : Gf K mg "_law_without"
  F18 : FunD K "law" "law" (defArgs s_law) (defBody s_law) (defScope s_law) [] [] (He.fAd K ("law", none)) (fd 18)
  b18 : Binds K (fd 18) ["_law_script"] []
  g18 : Gf K mg "law"
  F19 : FunD K "__init__" "Reader.__init__" (defArgs s_Reader___init__) (defBody s_Reader___init__) (defScope s_Reader___init__) [] [] (He.fAd K ("Reader", some "__init__")) (fd 19)
  b19 : Binds K (fd 19) ["self", "text"] []
  k19 : KBn K (fd 19) ["self", "text"] 2 [] (fun us ws => us ++ ws) (fun us ws => us ++ ws)
  F20 : FunD K "ahead" "Reader.ahead" (defArgs s_Reader_ahead) (defBody s_Reader_ahead) (defScope s_Reader_ahead) [] [] (He.fAd K ("Reader", some "ahead")) (fd 20)
  b20 : Binds K (fd 20) ["self"] []
  F21 : FunD K "wrong" "Reader.wrong" (defArgs s_Reader_wrong) (defBody s_Reader_wrong) (defScope s_Reader_wrong) [] [] (He.fAd K ("Reader", some "wrong")) (fd 21)
  b21 : Binds K (fd 21) ["self"] []
  F22 : FunD K "taken" "Reader.taken" (defArgs s_Reader_taken) (defBody s_Reader_taken) (defScope s_Reader_taken) [] [] (He.fAd K ("Reader", some "taken")) (fd 22)
  b22 : Binds K (fd 22) ["self"] []
  F23 : FunD K "number" "Reader.number" (defArgs s_Reader_number) (defBody s_Reader_number) (defScope s_Reader_number) [] [] (He.fAd K ("Reader", some "number")) (fd 23)
  b23 : Binds K (fd 23) ["self"] []
  F24 : FunD K "atom" "Reader.atom" (defArgs s_Reader_atom) (defBody s_Reader_atom) (defScope s_Reader_atom) [] [] (He.fAd K ("Reader", some "atom")) (fd 24)
  b24 : Binds K (fd 24) ["self"] []
  F25 : FunD K "power" "Reader.power" (defArgs s_Reader_power) (defBody s_Reader_power) (defScope s_Reader_power) [] [] (He.fAd K ("Reader", some "power")) (fd 25)
  b25 : Binds K (fd 25) ["self"] []
  F26 : FunD K "products" "Reader.products" (defArgs s_Reader_products) (defBody s_Reader_products) (defScope s_Reader_products) [] [] (He.fAd K ("Reader", some "products")) (fd 26)
  b26 : Binds K (fd 26) ["self"] []
  F27 : FunD K "sums" "Reader.sums" (defArgs s_Reader_sums) (defBody s_Reader_sums) (defScope s_Reader_sums) [] [] (He.fAd K ("Reader", some "sums")) (fd 27)
  b27 : Binds K (fd 27) ["self"] []
  y_Reader : clsB K "Reader" ["bits", "spot", "end"] ["__init__", "ahead", "wrong", "taken", "number", "atom", "power", "products", "sums"] = true
  mk_Reader : makB K "Reader" = true
  g_Reader : mg "Reader" = some (.ref (He.ga K "Reader"))
  n_abs : mg "abs" = none
  n_all : mg "all" = none
  n_any : mg "any" = none
  n_bool : mg "bool" = none
  n_int : mg "int" = none
  n_isinstance : mg "isinstance" = none
  n_len : mg "len" = none
  n_list : mg "list" = none
  n_max : mg "max" = none
  n_range : mg "range" = none
  n_str : mg "str" = none
  n_tuple : mg "tuple" = none
  n_zip : mg "zip" = none
  t_BINARY : ∃ u, mg "BINARY" = some (.ref u) ∧ ∀ F, SqT K F u (k_BINARY.map V.str)
  t_FIGURES : ∃ t, mg "FIGURES" = some (.str "0123456789" t)
  t_LETTERS : ∃ t, mg "LETTERS" = some (.str "abcdefghijklmnopqrstuvwxyz" t)
  t_LONGEST : ∃ t, mg "LONGEST" = some (.int 8 t)
  t_MOST_FIGURES : ∃ t, mg "MOST_FIGURES" = some (.int 6 t)
  q_PRODUCTS : DcW w K mg "PRODUCTS" [("*", "times"), ("/", "over")]
  q_SIGNS : DcW w K mg "SIGNS" [("plus", "+"), ("minus", "-"), ("times", "*"), ("over", "/")]
  q_SUMS : DcW w K mg "SUMS" [("+", "plus"), ("-", "minus")]
  F28 : FunD K "__init__" "RungError.__init__" (defArgs i_RungError) (defBody i_RungError) (defScope i_RungError) [.str "RungError"] [] (He.fAd K ("RungError", some "__init__")) (fd 28)
  b28 : Binds K (fd 28) ["self", "word"] []
  g28 : mg "RungError" = some (.ref (He.ga K "RungError"))
  y28 : bseB K "RungError" = true
  F29 : FunD K "__init__" "BadText.__init__" (defArgs i_BadText) (defBody i_BadText) (defScope i_BadText) [] [] (He.fAd K ("BadText", some "__init__")) (fd 29)
  b29 : Binds K (fd 29) ["self", "at"] []
  g29 : mg "BadText" = some (.ref (He.ga K "BadText"))
  y29 : subB K "BadText" ["at"] = true
  z29 : iniB K "BadText" = true
  w_NotWhole : mg "NotWhole" = some (.ref (He.ga K "NotWhole"))
  w_TooTall : mg "TooTall" = some (.ref (He.ga K "TooTall"))
  w_BadTable : mg "BadTable" = some (.ref (He.ga K "BadTable"))
  w_BadText : mg "BadText" = some (.ref (He.ga K "BadText"))
  w_BadPage : mg "BadPage" = some (.ref (He.ga K "BadPage"))
  w_Stopped : mg "Stopped" = some (.ref (He.ga K "Stopped"))
  w_Used : mg "Used" = some (.ref (He.ga K "Used"))
  w_Held : mg "Held" = some (.ref (He.ga K "Held"))
  w_NoGuest : mg "NoGuest" = some (.ref (He.ga K "NoGuest"))
  w_NoName : mg "NoName" = some (.ref (He.ga K "NoName"))
  w_RungError : mg "RungError" = some (.ref (He.ga K "RungError"))
  w_RungMissing : mg "RungMissing" = some (.ref (He.ga K "RungMissing"))
  wk : (kn.all fun c => whyB K c) = true
  un : tabsUn K = true
  tb_law : LamX.TabB base mg (He.cT K ("law", none)).1 (He.cT K ("law", none)).2
section
variable {P : Program} {w : World} {K : PySem.W.Frag} {mg : Str → Option Value} {base : Heap} {fd : Nat → FuncData}
theorem ini_RungError (T : Tx w K mg base fd) : FnOk P w K mg base (L2.CX P w) 1 (He.fAd K ("RungError", some "__init__")) (fd 28) ["self", "word"] (spIni0 K) :=
  ini0_ok T.F28 sc_i_RungError fun cdv A outer s H E => pss_one (ps_ost (pe_var (i := 0) rfl (Or.inl rfl) (by decide) (by decide)) (pe_var (i := 1) rfl (Or.inl rfl) (by decide) (by decide)))
theorem xc_BadText (T : Tx w K mg base fd) : XcOk P w K mg base 2 "BadText" ["at"] :=
  xc_of T.g29 (subB_ok T.y29) T.z29 (ini_ok1 T.F29 sc_i_BadText (subB_ok T.y29) fun cdv A outer s H E hr => (pss_cons (ps_expr (pe_bini (bseB_ok T.y28).1 (bseB_ok T.y28).2 (ini_RungError T) hr T.b28 T.F28.kp (passesF takes0) (by rfl) T.g28 (pa_cons (pe_var (i := 0) rfl (Or.inl rfl) (by decide) (by decide)) (pa_cons pe_str pa_nil)))) (pss_one (ps_ost (pe_var (i := 0) rfl (Or.inl rfl) (by decide) (by decide)) (pe_var (i := 1) rfl (Or.inl rfl) (by decide) (by decide)))))) T.b29
theorem kn_ok (T : Tx w K mg base fd) : WhyK K mg kn := whyB_ok (fun c hc => by
  simp only [kn, List.mem_cons, List.not_mem_nil, or_false] at hc
  subst hc
  · exact T.g29
  ) T.wk
theorem why_names (T : Tx w K mg base fd) : ∀ ns ∈ whyNs, ∀ x ∈ ns, (defScope s__law_why).names.lookup x = some .globalImplicit ∧ (x == ("__debug__" : Str)) = false ∧ mg x = some (.ref (He.ga K x)) := by
  intro ns h1 x h2
  simp only [whyNs, List.mem_cons, List.not_mem_nil, or_false] at h1
  rcases h1 with rfl | rfl | rfl | rfl | rfl | rfl | rfl | rfl <;> simp only [List.mem_cons, List.not_mem_nil, or_false] at h2
  · subst h2; exact ⟨by decide +kernel, by decide, T.w_NotWhole⟩
  · subst h2; exact ⟨by decide +kernel, by decide, T.w_TooTall⟩
  · rcases h2 with rfl | rfl
    · exact ⟨by decide +kernel, by decide, T.w_BadTable⟩
    · exact ⟨by decide +kernel, by decide, T.w_BadText⟩
  · subst h2; exact ⟨by decide +kernel, by decide, T.w_BadPage⟩
  · subst h2; exact ⟨by decide +kernel, by decide, T.w_Stopped⟩
  · rcases h2 with rfl | rfl
    · exact ⟨by decide +kernel, by decide, T.w_Used⟩
    · exact ⟨by decide +kernel, by decide, T.w_Held⟩
  · rcases h2 with rfl | rfl
    · exact ⟨by decide +kernel, by decide, T.w_NoGuest⟩
    · exact ⟨by decide +kernel, by decide, T.w_NoName⟩
  · rcases h2 with rfl | rfl
    · exact ⟨by decide +kernel, by decide, T.w_RungError⟩
    · exact ⟨by decide +kernel, by decide, T.w_RungMissing⟩
theorem why_ok (T : Tx w K mg base fd) {k : Nat} : Gives P w K mg base k 2 (He.fAd K ("_law_why", none)) (TWhy K) :=
  why_gives T.F10 sc__law_why T.b10 (fun Z hN hst hfr hva hne hnm tl hask => why_try hN hst hfr hne tl (fun W pn xe E tk hW => pss_one (ps_ret (pe_tup (pa_cons pe_str (pa_cons (hask W pn xe E _ _ tk hW) pa_nil)))))
      (.cons (tst_name (hn_of hnm "NotWhole" ["NotWhole"] (by simp [whyNs]) (by simp))) (fun a oe cls d pn hz hf => pss_one (ps_ret (pe_tup (pa_cons (pe_fld hz hf (pe_var (i := 1) (by show Z.N[1]? = _; rw [hN]; rfl) (Or.inl hne) (by decide) (by decide))) (pa_cons (pe_fld hz hf (pe_var (i := 1) (by show Z.N[1]? = _; rw [hN]; rfl) (Or.inl hne) (by decide) (by decide))) pa_nil)))))
      (.cons (tst_name (hn_of hnm "TooTall" ["TooTall"] (by simp [whyNs]) (by simp))) (fun a oe cls d pn hz hf => pss_one (ps_ret (pe_tup (pa_cons (pe_fld hz hf (pe_var (i := 1) (by show Z.N[1]? = _; rw [hN]; rfl) (Or.inl hne) (by decide) (by decide))) (pa_cons (pe_fld hz hf (pe_var (i := 1) (by show Z.N[1]? = _; rw [hN]; rfl) (Or.inl hne) (by decide) (by decide))) pa_nil)))))
      (.cons (tst_two (hn_of hnm "BadTable" ["BadTable", "BadText"] (by simp [whyNs]) (by simp)) (hn_of hnm "BadText" ["BadTable", "BadText"] (by simp [whyNs]) (by simp))) (fun a oe cls d pn hz hf => pss_one (ps_ret (pe_tup (pa_cons (pe_fld hz hf (pe_var (i := 1) (by show Z.N[1]? = _; rw [hN]; rfl) (Or.inl hne) (by decide) (by decide))) (pa_cons (pe_fld hz hf (pe_var (i := 1) (by show Z.N[1]? = _; rw [hN]; rfl) (Or.inl hne) (by decide) (by decide))) pa_nil)))))
      (.cons (tst_name (hn_of hnm "BadPage" ["BadPage"] (by simp [whyNs]) (by simp))) (fun a oe cls d pn hz hf => pss_one (ps_ret (pe_tup (pa_cons (pe_fld hz hf (pe_var (i := 1) (by show Z.N[1]? = _; rw [hN]; rfl) (Or.inl hne) (by decide) (by decide))) (pa_cons (pe_fld hz hf (pe_var (i := 1) (by show Z.N[1]? = _; rw [hN]; rfl) (Or.inl hne) (by decide) (by decide))) pa_nil)))))
      (.cons (tst_name (hn_of hnm "Stopped" ["Stopped"] (by simp [whyNs]) (by simp))) (fun a oe cls d pn hz hf => pss_one (ps_ret (pe_tup (pa_cons (pe_fld hz hf (pe_var (i := 1) (by show Z.N[1]? = _; rw [hN]; rfl) (Or.inl hne) (by decide) (by decide))) (pa_cons (pe_tup (pa_cons (pe_fld hz hf (pe_var (i := 1) (by show Z.N[1]? = _; rw [hN]; rfl) (Or.inl hne) (by decide) (by decide))) (pa_cons (pe_fld hz hf (pe_var (i := 1) (by show Z.N[1]? = _; rw [hN]; rfl) (Or.inl hne) (by decide) (by decide))) pa_nil))) pa_nil)))))
      (.cons (tst_two (hn_of hnm "Used" ["Used", "Held"] (by simp [whyNs]) (by simp)) (hn_of hnm "Held" ["Used", "Held"] (by simp [whyNs]) (by simp))) (fun a oe cls d pn hz hf => pss_one (ps_ret (pe_tup (pa_cons (pe_fld hz hf (pe_var (i := 1) (by show Z.N[1]? = _; rw [hN]; rfl) (Or.inl hne) (by decide) (by decide))) (pa_cons (pe_fld hz hf (pe_var (i := 1) (by show Z.N[1]? = _; rw [hN]; rfl) (Or.inl hne) (by decide) (by decide))) pa_nil)))))
      (.cons (tst_two (hn_of hnm "NoGuest" ["NoGuest", "NoName"] (by simp [whyNs]) (by simp)) (hn_of hnm "NoName" ["NoGuest", "NoName"] (by simp [whyNs]) (by simp))) (fun a oe cls d pn hz hf => pss_one (ps_ret (pe_tup (pa_cons (pe_fld hz hf (pe_var (i := 1) (by show Z.N[1]? = _; rw [hN]; rfl) (Or.inl hne) (by decide) (by decide))) (pa_cons (pe_fld hz hf (pe_var (i := 1) (by show Z.N[1]? = _; rw [hN]; rfl) (Or.inl hne) (by decide) (by decide))) pa_nil)))))
      (.cons (tst_two (hn_of hnm "RungError" ["RungError", "RungMissing"] (by simp [whyNs]) (by simp)) (hn_of hnm "RungMissing" ["RungError", "RungMissing"] (by simp [whyNs]) (by simp))) (fun a oe cls d pn hz hf => pss_one (ps_ret (pe_tup (pa_cons (pe_fld hz hf (pe_var (i := 1) (by show Z.N[1]? = _; rw [hN]; rfl) (Or.inl hne) (by decide) (by decide))) (pa_cons pe_non pa_nil)))))
      Hds.nil))))))))) (Or.inl rfl) rfl (why_names T)
theorem ok_number_in (T : Tx w K mg base fd) : FnOk P w K mg base (L2.CX P w) 1 (He.fAd K ("number_in", none)) (fd 0) ["word", "most"] (spP K mg 2 M_number_in) := by
  obtain ⟨t_FIGURES, c_FIGURES⟩ := T.t_FIGURES
  refine fn_PD T.F0 sc_number_in rfl rfl fun cdv A outer s H E hr tk => ?_
  have nd := sc_number_in.nd
  exact (ss_cons (ss_if (SW.t (sw_or (st_not (st_chain op_le op_le sx_int (sx_callB cs_lenS (by rfl) T.n_len bt_len (sa_cons (sx_name 0) sa_nil)) (sx_name 1))) (sw_or1 (st_not (st_val (sx_callB (cs_all rfl) (by rfl) T.n_all bt_all (sa_cons (sx_lc0 [("sign", 2)] rfl nd (si_str (sx_name 0)) (blkOk_by (own := [("sign", 2)]) (N := N_number_in) (sc := defScope s_number_in) (by decide +kernel)) (by decide) (fun _ _ _ _ _ => (sg_name 2 nd)) (fun _ _ _ _ _ => (sx_cmp os_inS (sx_name 2) (sx_globS (by rfl) c_FIGURES) rfl))) sa_nil))))))) (ss_one (ss_ret sx_non)) ss_nil)
      (ss_one (ss_ret (sx_if (SW.t (sw_or (st_cmp (os_eq hr.units) (sx_name 0) sx_str (nomark _)) (sw_or1 (st_cmp (os_ne hr.units) (sx_ix (sx_name 0) sx_int) sx_str (nomark _))))) (sx_callTy cs_intS (by rfl) T.n_int bt_int (sa_cons (sx_name 0) sa_nil)) sx_non))))
theorem ok_is_name (T : Tx w K mg base fd) : FnOk P w K mg base (L2.CX P w) 1 (He.fAd K ("is_name", none)) (fd 1) ["word"] (spP K mg 1 M_is_name) := by
  obtain ⟨t_LETTERS, c_LETTERS⟩ := T.t_LETTERS
  obtain ⟨t_LONGEST, c_LONGEST⟩ := T.t_LONGEST
  refine fn_PD T.F1 sc_is_name rfl rfl fun cdv A outer s H E hr tk => ?_
  have nd := sc_is_name.nd
  exact (ss_one (ss_ret (sx_and (sx_chain op_le op_le sx_int (sx_callB cs_lenS (by rfl) T.n_len bt_len (sa_cons (sx_name 0) sa_nil)) (sx_globI (by rfl) c_LONGEST)) (sx_one (sx_callB (cs_all rfl) (by rfl) T.n_all bt_all (sa_cons (sx_lc0 [("sign", 1)] rfl nd (si_str (sx_name 0)) (blkOk_by (own := [("sign", 1)]) (N := N_is_name) (sc := defScope s_is_name) (by decide +kernel)) (by decide) (fun _ _ _ _ _ => (sg_name 1 nd)) (fun _ _ _ _ _ => (sx_cmp os_inS (sx_name 1) (sx_globS (by rfl) c_LETTERS) rfl))) sa_nil))))))
theorem ok_bits_of (T : Tx w K mg base fd) : FnOk P w K mg base (L2.CX P w) 1 (He.fAd K ("bits_of", none)) (fd 2) ["text"] (spP K mg 1 M_bits_of) := by
  refine fn_PD T.F2 sc_bits_of rfl rfl fun cdv A outer s H E hr tk => ?_
  have nd := sc_bits_of.nd
  exact (ss_cons (ss_set 1 nd (sx_lst sa_nil))
      (ss_cons (ss_set 2 nd sx_int)
      (ss_cons (ss_while FUEL (passes_of rfl) (st_cmp os_lt (sx_name 2) (sx_callB cs_lenS (by rfl) T.n_len bt_len (sa_cons (sx_name 0) sa_nil)) (nomark _)) (ss_cons (ss_set 3 nd (sx_bin os_add (sx_name 2) sx_int))
      (ss_cons (ss_while FUEL (passes_of rfl) (SW.t (sw_and (st_val (sx_bm0 PySem.F.plainAttrs_str PySem.F.slot_str_isalnum PySem.F.type_str_isalnum bs_alnum (sx_ix (sx_name 0) (sx_name 2)))) (sw_and (st_cmp os_lt (sx_name 3) (sx_callB cs_lenS (by rfl) T.n_len bt_len (sa_cons (sx_name 0) sa_nil)) (nomark _)) (sw_and1 (st_val (sx_bm0 PySem.F.plainAttrs_str PySem.F.slot_str_isalnum PySem.F.type_str_isalnum bs_alnum (sx_ix (sx_name 0) (sx_name 3)))))))) (ss_one (ss_aug 3 nd is_add sx_int)))
      (ss_cons (ss_if (st_cmp (os_ne hr.units) (sx_ix (sx_name 0) (sx_name 2)) sx_str (nomark _)) (ss_one (ss_expr (sx_me 1 PySem.F.slot_list_append PySem.F.type_list_append ms_append (sa_cons (sx_tup (sa_cons (sx_slBS (sx_name 0) (sx_name 2) (sx_name 3)) (sa_cons (sx_name 2) sa_nil))) sa_nil)))) ss_nil)
      (ss_one (ss_set 2 nd (sx_name 3)))))))
      (ss_one (ss_ret (sx_name 1))))))
theorem ok_Reader___init__ (T : Tx w K mg base fd) : FnOk P w K mg base (L2.CX P w) 2 (He.fAd K ("Reader", some "__init__")) (fd 19) ["self", "text"] (spS K mg 1 M_Reader___init__) := by
  refine fn_SD T.F19 sc_Reader___init__ rfl rfl fun cdv A outer s H E hr tk => ?_
  have nd := sc_Reader___init__.nd
  exact (ss_cons (ss_rP "Reader" 0 (clsB_cls T.y_Reader) (clsB_no T.y_Reader 0 rfl) (sx_call (ok_bits_of T) fin_len (hrm hr) T.g2 T.F2.kp T.b2 tk (sa_cons (sx_name 1) sa_nil)))
      (ss_cons (ss_rP "Reader" 0 (clsB_cls T.y_Reader) (clsB_no T.y_Reader 1 rfl) sx_int)
      (ss_one (ss_rP "Reader" 0 (clsB_cls T.y_Reader) (clsB_no T.y_Reader 2 rfl) (sx_callB cs_lenS (by rfl) T.n_len bt_len (sa_cons (sx_name 1) sa_nil))))))
theorem ok_Reader_ahead (T : Tx w K mg base fd) : FnOk P w K mg base (L2.CX P w) 1 (He.fAd K ("Reader", some "ahead")) (fd 20) ["self"] (spS K mg 0 M_Reader_ahead) := by
  refine fn_SD T.F20 sc_Reader_ahead rfl rfl fun cdv A outer s H E hr tk => ?_
  have nd := sc_Reader_ahead.nd
  exact (ss_one (ss_ret (sx_if (st_cmp os_lt (sx_rG "Reader" 0 (clsB_cls T.y_Reader) (clsB_no T.y_Reader 1 rfl)) (sx_callB cs_len (by rfl) T.n_len bt_len (sa_cons (sx_rG "Reader" 0 (clsB_cls T.y_Reader) (clsB_no T.y_Reader 0 rfl)) sa_nil)) (nomark _)) (sx_ix (sx_ix (sx_rG "Reader" 0 (clsB_cls T.y_Reader) (clsB_no T.y_Reader 0 rfl)) (sx_rG "Reader" 0 (clsB_cls T.y_Reader) (clsB_no T.y_Reader 1 rfl))) sx_int) sx_str)))
theorem ok_Reader_wrong (T : Tx w K mg base fd) : FnOk P w K mg base (L2.CX P w) 1 (He.fAd K ("Reader", some "wrong")) (fd 21) ["self"] (spS K mg 0 M_Reader_wrong) := by
  refine fn_SD T.F21 sc_Reader_wrong rfl rfl fun cdv A outer s H E hr tk => ?_
  have nd := sc_Reader_wrong.nd
  exact (ss_one (ss_ret (sx_if (st_cmp os_lt (sx_rG "Reader" 0 (clsB_cls T.y_Reader) (clsB_no T.y_Reader 1 rfl)) (sx_callB cs_len (by rfl) T.n_len bt_len (sa_cons (sx_rG "Reader" 0 (clsB_cls T.y_Reader) (clsB_no T.y_Reader 0 rfl)) sa_nil)) (nomark _)) (sx_ix (sx_ix (sx_rG "Reader" 0 (clsB_cls T.y_Reader) (clsB_no T.y_Reader 0 rfl)) (sx_rG "Reader" 0 (clsB_cls T.y_Reader) (clsB_no T.y_Reader 1 rfl))) sx_int) (sx_rG "Reader" 0 (clsB_cls T.y_Reader) (clsB_no T.y_Reader 2 rfl)))))
theorem ok_Reader_taken (T : Tx w K mg base fd) : FnOk P w K mg base (L2.CX P w) 2 (He.fAd K ("Reader", some "taken")) (fd 22) ["self"] (spS K mg 0 M_Reader_taken) := by
  refine fn_SD T.F22 sc_Reader_taken rfl rfl fun cdv A outer s H E hr tk => ?_
  have nd := sc_Reader_taken.nd
  exact (ss_cons (ss_set 1 nd (sx_methS "Reader" 0 (clsB_cls T.y_Reader) (clsB_met T.y_Reader 1 rfl) (ok_Reader_ahead T) finS_len (hrm hr) T.b20 tk))
      (ss_cons (ss_rA "Reader" 0 (clsB_cls T.y_Reader) (clsB_no T.y_Reader 1 rfl) sx_int)
      (ss_one (ss_ret (sx_name 1)))))
theorem ok_Reader_number (T : Tx w K mg base fd) : FnOk P w K mg base (L2.CX P w) 4 (He.fAd K ("Reader", some "number")) (fd 23) ["self"] (spS K mg 0 M_Reader_number) := by
  obtain ⟨t_MOST_FIGURES, c_MOST_FIGURES⟩ := T.t_MOST_FIGURES
  refine fn_SD T.F23 sc_Reader_number rfl rfl fun cdv A outer s H E hr tk => ?_
  have nd := sc_Reader_number.nd
  exact (ss_cons (ss_set 1 nd (sx_call (ok_number_in T) fin_len (hrm hr) T.g0 T.F0.kp T.b0 tk (sa_cons (sx_methS "Reader" 0 (clsB_cls T.y_Reader) (clsB_met T.y_Reader 1 rfl) (ok_Reader_ahead T) finS_len (hrm hr) T.b20 tk) (sa_cons (sx_globI (by rfl) c_MOST_FIGURES) sa_nil))))
      (ss_cons (ss_if (st_cmp os_is (sx_name 1) sx_non (nomark _)) (ss_one (ss_raise rfl tk (xc_BadText T) (hrm hr) (by rfl) (sa_cons (sx_methS "Reader" 0 (clsB_cls T.y_Reader) (clsB_met T.y_Reader 2 rfl) (ok_Reader_wrong T) finS_len (hrm hr) T.b21 tk) sa_nil))) ss_nil)
      (ss_cons (ss_rA "Reader" 0 (clsB_cls T.y_Reader) (clsB_no T.y_Reader 1 rfl) sx_int)
      (ss_one (ss_ret (sx_name 1))))))
theorem okq_Reader_power (T : Tx w K mg base fd) {k : Nat} {MA : Sl → List D → R (Nw × Sl)} (hl : ∀ s ds, ds.length ≠ 0 → MA s ds = .bad) (ih : FnOk P w K mg base (L2.CX P w) (k) (He.fAd K ("Reader", some "atom")) (fd 24) ["self"] (spS K mg 0 MA)) (hk : 5 ≤ k) : FnOk P w K mg base (L2.CX P w) (k + 1) (He.fAd K ("Reader", some "power")) (fd 25) ["self"] (spS K mg 0 (Mq_Reader_power MA)) := by
  show FnOk P w K mg base (L2.CX P w) ((k + 0) + 1) (He.fAd K ("Reader", some "power")) (fd 25) ["self"] (spS K mg 0 (Mq_Reader_power MA))
  refine fn_SD T.F25 sc_Reader_power rfl rfl fun cdv A outer s H E hr tk => ?_
  have nd := sc_Reader_power.nd
  exact (ss_cons (ss_set 1 nd (sx_methS "Reader" 0 (clsB_cls T.y_Reader) (clsB_met T.y_Reader 5 rfl) ih hl (hr.mono (by omega)) T.b24 tk))
      (ss_cons (ss_while FUEL (passes_of rfl) (st_cmp os_inW (sx_methS "Reader" 0 (clsB_cls T.y_Reader) (clsB_met T.y_Reader 1 rfl) (ok_Reader_ahead T) finS_len (hr.mono (by omega)) T.b20 tk) (sx_tup (sa_cons sx_str (sa_cons sx_str sa_nil))) rfl) (ss_one (ss_if (st_cmp (os_eq hr.units) (sx_methS "Reader" 0 (clsB_cls T.y_Reader) (clsB_met T.y_Reader 3 rfl) (ok_Reader_taken T) finS_len (hr.mono (by omega)) T.b22 tk) sx_str (nomark _)) (ss_one (ss_set 1 nd (sx_tup (sa_cons sx_str (sa_cons (sx_name 1) sa_nil))))) (ss_cons (ss_set 2 nd (sx_cmp (os_eq hr.units) (sx_methS "Reader" 0 (clsB_cls T.y_Reader) (clsB_met T.y_Reader 1 rfl) (ok_Reader_ahead T) finS_len (hr.mono (by omega)) T.b20 tk) sx_str (nomark _)))
      (ss_cons (ss_rA "Reader" 0 (clsB_cls T.y_Reader) (clsB_no T.y_Reader 1 rfl) (sx_callTy cs_int (by rfl) T.n_int bt_int (sa_cons (sx_name 2) sa_nil)))
      (ss_cons (ss_set 3 nd (sx_methS "Reader" 0 (clsB_cls T.y_Reader) (clsB_met T.y_Reader 4 rfl) (ok_Reader_number T) finS_len (hr.mono (by omega)) T.b23 tk))
      (ss_one (ss_set 1 nd (sx_tup (sa_cons sx_str (sa_cons (sx_name 1) (sa_cons (sx_if (st_val (sx_name 2)) (sx_bin os_sub sx_int (sx_name 3)) (sx_name 3)) sa_nil))))))))))))
      (ss_one (ss_ret (sx_name 1)))))
theorem okq_Reader_products (T : Tx w K mg base fd) {k : Nat} {MA : Sl → List D → R (Nw × Sl)} (hl : ∀ s ds, ds.length ≠ 0 → MA s ds = .bad) (ih : FnOk P w K mg base (L2.CX P w) (k) (He.fAd K ("Reader", some "atom")) (fd 24) ["self"] (spS K mg 0 MA)) (hk : 5 ≤ k) : FnOk P w K mg base (L2.CX P w) (k + 2) (He.fAd K ("Reader", some "products")) (fd 26) ["self"] (spS K mg 0 (Mq_Reader_products MA)) := by
  show FnOk P w K mg base (L2.CX P w) ((k + 1) + 1) (He.fAd K ("Reader", some "products")) (fd 26) ["self"] (spS K mg 0 (Mq_Reader_products MA))
  refine fn_SD T.F26 sc_Reader_products rfl rfl fun cdv A outer s H E hr tk => ?_
  have nd := sc_Reader_products.nd
  exact (ss_cons (ss_set 1 nd (sx_methS "Reader" 0 (clsB_cls T.y_Reader) (clsB_met T.y_Reader 6 rfl) (okq_Reader_power T hl ih hk) finS_len (hr.mono (by omega)) T.b25 tk))
      (ss_cons (ss_while FUEL (passes_of rfl) (st_dcI T.q_PRODUCTS (by rfl) (sx_methS "Reader" 0 (clsB_cls T.y_Reader) (clsB_met T.y_Reader 1 rfl) (ok_Reader_ahead T) finS_len (hr.mono (by omega)) T.b20 tk)) (ss_cons (ss_set 2 nd (sx_dcG T.q_PRODUCTS (by rfl) (sx_methS "Reader" 0 (clsB_cls T.y_Reader) (clsB_met T.y_Reader 3 rfl) (ok_Reader_taken T) finS_len (hr.mono (by omega)) T.b22 tk)))
      (ss_one (ss_set 1 nd (sx_tup (sa_cons (sx_name 2) (sa_cons (sx_name 1) (sa_cons (sx_methS "Reader" 0 (clsB_cls T.y_Reader) (clsB_met T.y_Reader 6 rfl) (okq_Reader_power T hl ih hk) finS_len (hr.mono (by omega)) T.b25 tk) sa_nil))))))))
      (ss_one (ss_ret (sx_name 1)))))
theorem okq_Reader_sums (T : Tx w K mg base fd) {k : Nat} {MA : Sl → List D → R (Nw × Sl)} (hl : ∀ s ds, ds.length ≠ 0 → MA s ds = .bad) (ih : FnOk P w K mg base (L2.CX P w) (k) (He.fAd K ("Reader", some "atom")) (fd 24) ["self"] (spS K mg 0 MA)) (hk : 5 ≤ k) : FnOk P w K mg base (L2.CX P w) (k + 3) (He.fAd K ("Reader", some "sums")) (fd 27) ["self"] (spS K mg 0 (Mq_Reader_sums MA)) := by
  show FnOk P w K mg base (L2.CX P w) ((k + 2) + 1) (He.fAd K ("Reader", some "sums")) (fd 27) ["self"] (spS K mg 0 (Mq_Reader_sums MA))
  refine fn_SD T.F27 sc_Reader_sums rfl rfl fun cdv A outer s H E hr tk => ?_
  have nd := sc_Reader_sums.nd
  exact (ss_cons (ss_set 1 nd (sx_methS "Reader" 0 (clsB_cls T.y_Reader) (clsB_met T.y_Reader 7 rfl) (okq_Reader_products T hl ih hk) finS_len (hr.mono (by omega)) T.b26 tk))
      (ss_cons (ss_while FUEL (passes_of rfl) (st_dcI T.q_SUMS (by rfl) (sx_methS "Reader" 0 (clsB_cls T.y_Reader) (clsB_met T.y_Reader 1 rfl) (ok_Reader_ahead T) finS_len (hr.mono (by omega)) T.b20 tk)) (ss_cons (ss_set 2 nd (sx_dcG T.q_SUMS (by rfl) (sx_methS "Reader" 0 (clsB_cls T.y_Reader) (clsB_met T.y_Reader 3 rfl) (ok_Reader_taken T) finS_len (hr.mono (by omega)) T.b22 tk)))
      (ss_one (ss_set 1 nd (sx_tup (sa_cons (sx_name 2) (sa_cons (sx_name 1) (sa_cons (sx_methS "Reader" 0 (clsB_cls T.y_Reader) (clsB_met T.y_Reader 7 rfl) (okq_Reader_products T hl ih hk) finS_len (hr.mono (by omega)) T.b26 tk) sa_nil))))))))
      (ss_one (ss_ret (sx_name 1)))))
theorem ok_Reader_atom_ (T : Tx w K mg base fd) : ∀ k : Nat, FnOk P w K mg base (L2.CX P w) (5 + 4 * k) (He.fAd K ("Reader", some "atom")) (fd 24) ["self"] (spS K mg 0 (M_Reader_atom_ k))
  | 0 => fn_noS
  | k + 1 => by
    have ih : FnOk P w K mg base (L2.CX P w) (5 + 4 * k) (He.fAd K ("Reader", some "atom")) (fd 24) ["self"] (spS K mg 0 (M_Reader_atom_ k)) := ok_Reader_atom_ T k
    have hk : 5 ≤ 5 + 4 * k := by omega
    have hl : ∀ s ds, ds.length ≠ 0 → M_Reader_atom_ k s ds = .bad := fun s ds h => by
      cases k with
      | zero => rfl
      | succ k => exact finS_len s ds h
    show FnOk P w K mg base (L2.CX P w) ((5 + (4 * k + 3)) + 1) (He.fAd K ("Reader", some "atom")) (fd 24) ["self"] (spS K mg 0 (M_Reader_atom_ (k + 1)))
    refine fn_SD T.F24 sc_Reader_atom rfl rfl fun cdv A outer s H E hr tk => ?_
    have nd := sc_Reader_atom.nd
    exact (ss_cons (ss_set 1 nd (sx_methS "Reader" 0 (clsB_cls T.y_Reader) (clsB_met T.y_Reader 1 rfl) (ok_Reader_ahead T) finS_len (hr.mono (by omega)) T.b20 tk))
      (ss_cons (ss_if (st_val (sx_call (ok_is_name T) fin_len (hr.mono (by omega)) T.g1 T.F1.kp T.b1 tk (sa_cons (sx_name 1) sa_nil))) (ss_one (ss_ret (sx_tup (sa_cons sx_str (sa_cons (sx_methS "Reader" 0 (clsB_cls T.y_Reader) (clsB_met T.y_Reader 3 rfl) (ok_Reader_taken T) finS_len (hr.mono (by omega)) T.b22 tk) sa_nil))))) ss_nil)
      (ss_cons (ss_if (st_cmp (os_ne hr.units) (sx_name 1) sx_str (nomark _)) (ss_one (ss_ret (sx_tup (sa_cons sx_str (sa_cons (sx_methS "Reader" 0 (clsB_cls T.y_Reader) (clsB_met T.y_Reader 4 rfl) (ok_Reader_number T) finS_len (hr.mono (by omega)) T.b23 tk) sa_nil))))) ss_nil)
      (ss_cons (ss_rA "Reader" 0 (clsB_cls T.y_Reader) (clsB_no T.y_Reader 1 rfl) sx_int)
      (ss_cons (ss_set 2 nd (sx_methS "Reader" 0 (clsB_cls T.y_Reader) (clsB_met T.y_Reader 8 rfl) (okq_Reader_sums T hl ih hk) finS_len (hr.mono (by omega)) T.b27 tk))
      (ss_cons (ss_if (st_cmp (os_ne hr.units) (sx_methS "Reader" 0 (clsB_cls T.y_Reader) (clsB_met T.y_Reader 1 rfl) (ok_Reader_ahead T) finS_len (hr.mono (by omega)) T.b20 tk) sx_str (nomark _)) (ss_one (ss_raise rfl tk (xc_BadText T) (hr.mono (by omega)) (by rfl) (sa_cons (sx_methS "Reader" 0 (clsB_cls T.y_Reader) (clsB_met T.y_Reader 2 rfl) (ok_Reader_wrong T) finS_len (hr.mono (by omega)) T.b21 tk) sa_nil))) ss_nil)
      (ss_cons (ss_rA "Reader" 0 (clsB_cls T.y_Reader) (clsB_no T.y_Reader 1 rfl) sx_int)
      (ss_one (ss_ret (sx_name 2))))))))))
theorem ok_Reader_atom (T : Tx w K mg base fd) : FnOk P w K mg base (L2.CX P w) (165) (He.fAd K ("Reader", some "atom")) (fd 24) ["self"] (spS K mg 0 M_Reader_atom) := ok_Reader_atom_ T 40
theorem ok_Reader_sums (T : Tx w K mg base fd) : FnOk P w K mg base (L2.CX P w) (168) (He.fAd K ("Reader", some "sums")) (fd 27) ["self"] (spS K mg 0 M_Reader_sums) := okq_Reader_sums T (fun s ds h => finS_len s ds h) (ok_Reader_atom T) (by decide)
theorem ok_read (T : Tx w K mg base fd) : FnOk P w K mg base (L2.CX P w) 169 (He.fAd K ("read", none)) (fd 3) ["text"] (spP K mg 1 M_read) := by
  refine fn_PD T.F3 sc_read rfl rfl fun cdv A outer s H E hr tk => ?_
  have nd := sc_read.nd
  exact (ss_cons (ss_setD 1 nd (sd_rM "Reader" (makB_ok T.mk_Reader) (ok_Reader___init__ T) finS_len (hrm hr) T.g_Reader T.b19 tk (sa_cons (sx_name 0) sa_nil)))
      (ss_cons (ss_set 2 nd (sx_methS "Reader" 1 (clsB_cls T.y_Reader) (clsB_met T.y_Reader 8 rfl) (ok_Reader_sums T) finS_len (hrm hr) T.b27 tk))
      (ss_cons (ss_if (st_cmp (os_ne hr.units) (sx_methS "Reader" 1 (clsB_cls T.y_Reader) (clsB_met T.y_Reader 1 rfl) (ok_Reader_ahead T) finS_len (hrm hr) T.b20 tk) sx_str (nomark _)) (ss_one (ss_raise rfl tk (xc_BadText T) (hrm hr) (by rfl) (sa_cons (sx_methS "Reader" 1 (clsB_cls T.y_Reader) (clsB_met T.y_Reader 2 rfl) (ok_Reader_wrong T) finS_len (hrm hr) T.b21 tk) sa_nil))) ss_nil)
      (ss_one (ss_ret (sx_name 2))))))
theorem okq_shut (T : Tx w K mg base fd) {k : Nat} {MA : List D → R Nw} (hl : ∀ ds, ds.length ≠ 1 → MA ds = .bad) (ih : FnOk P w K mg base (L2.CX P w) (k) (He.fAd K ("write", none)) (fd 5) ["tree"] (spP K mg 1 MA)) (hk : 1 ≤ k) : FnOk P w K mg base (L2.CX P w) (k + 1) (He.fAd K ("shut", none)) (fd 4) ["tree", "kinds"] (spP K mg 2 (Mq_shut MA)) := by
  show FnOk P w K mg base (L2.CX P w) ((k + 0) + 1) (He.fAd K ("shut", none)) (fd 4) ["tree", "kinds"] (spP K mg 2 (Mq_shut MA))
  refine fn_PD T.F4 sc_shut rfl rfl fun cdv A outer s H E hr tk => ?_
  have nd := sc_shut.nd
  exact (ss_one (ss_ret (sx_if (st_cmp os_inW (sx_ix (sx_name 0) sx_int) (sx_name 1) rfl) (sx_js (SJ.cons sx_str (SJ.cons (sx_fmt (sx_call ih hl (hr.mono (by omega)) T.g5 T.F5.kp T.b5 tk (sa_cons (sx_name 0) sa_nil))) (SJ.cons sx_str SJ.nil)))) (sx_call ih hl (hr.mono (by omega)) T.g5 T.F5.kp T.b5 tk (sa_cons (sx_name 0) sa_nil)))))
theorem ok_write_ (T : Tx w K mg base fd) : ∀ k : Nat, FnOk P w K mg base (L2.CX P w) (1 + 2 * k) (He.fAd K ("write", none)) (fd 5) ["tree"] (spP K mg 1 (M_write_ k))
  | 0 => fn_noP
  | k + 1 => by
    have ih : FnOk P w K mg base (L2.CX P w) (1 + 2 * k) (He.fAd K ("write", none)) (fd 5) ["tree"] (spP K mg 1 (M_write_ k)) := ok_write_ T k
    have hk : 1 ≤ 1 + 2 * k := by omega
    have hl : ∀ ds, ds.length ≠ 1 → M_write_ k ds = .bad := fun ds h => by
      cases k with
      | zero => rfl
      | succ k => exact fin_len ds h
    show FnOk P w K mg base (L2.CX P w) ((1 + (2 * k + 1)) + 1) (He.fAd K ("write", none)) (fd 5) ["tree"] (spP K mg 1 (M_write_ (k + 1)))
    refine fn_PD T.F5 sc_write rfl rfl fun cdv A outer s H E hr tk => ?_
    have nd := sc_write.nd
    exact (ss_cons (ss_star 1 2 3 rfl nd (sx_name 0))
      (ss_cons (ss_if (st_cmp os_inW (sx_name 1) (sx_tup (sa_cons sx_str (sa_cons sx_str sa_nil))) rfl) (ss_one (ss_ret (sx_callTy cs_str (by rfl) T.n_str bt_str (sa_cons (sx_name 2) sa_nil)))) ss_nil)
      (ss_cons (ss_if (st_cmp (os_eq hr.units) (sx_name 1) sx_str (nomark _)) (ss_one (ss_ret (sx_bin os_add (sx_call (okq_shut T hl ih hk) fin_len (hr.mono (by omega)) T.g4 T.F4.kp T.b4 tk (sa_cons (sx_name 2) (sa_cons (sx_globTS (ns := k_BINARY) (by rfl) T.t_BINARY.choose_spec.1 T.t_BINARY.choose_spec.2) sa_nil))) sx_str))) ss_nil)
      (ss_cons (ss_if (st_cmp (os_eq hr.units) (sx_name 1) sx_str (nomark _)) (ss_one (ss_ret (sx_js (SJ.cons (sx_fmt (sx_call (okq_shut T hl ih hk) fin_len (hr.mono (by omega)) T.g4 T.F4.kp T.b4 tk (sa_cons (sx_name 2) (sa_cons (sx_globTS (ns := k_BINARY) (by rfl) T.t_BINARY.choose_spec.1 T.t_BINARY.choose_spec.2) sa_nil)))) (SJ.cons sx_str (SJ.cons (sx_fmt (sx_ix (sx_name 3) sx_int)) SJ.nil)))))) ss_nil)
      (ss_cons (ss_set 4 nd (sx_if (st_cmp os_inW (sx_name 1) (sx_tup (sa_cons sx_str (sa_cons sx_str sa_nil))) rfl) (sx_tup (sa_cons sx_str (sa_cons sx_str sa_nil))) (sx_tup sa_nil)))
      (ss_cons (ss_set 5 nd (sx_if (st_cmp os_inW (sx_name 1) (sx_tup (sa_cons sx_str (sa_cons sx_str sa_nil))) rfl) (sx_globTS (ns := k_BINARY) (by rfl) T.t_BINARY.choose_spec.1 T.t_BINARY.choose_spec.2) (sx_tup (sa_cons sx_str (sa_cons sx_str sa_nil)))))
      (ss_one (ss_ret (sx_js (SJ.cons (sx_fmt (sx_call (okq_shut T hl ih hk) fin_len (hr.mono (by omega)) T.g4 T.F4.kp T.b4 tk (sa_cons (sx_name 2) (sa_cons (sx_name 4) sa_nil)))) (SJ.cons sx_str (SJ.cons (sx_fmt (sx_dcG T.q_SIGNS (by rfl) (sx_name 1))) (SJ.cons sx_str (SJ.cons (sx_fmt (sx_call (okq_shut T hl ih hk) fin_len (hr.mono (by omega)) T.g4 T.F4.kp T.b4 tk (sa_cons (sx_ix (sx_name 3) sx_int) (sa_cons (sx_name 5) sa_nil)))) SJ.nil))))))))))))))
theorem ok_write (T : Tx w K mg base fd) : FnOk P w K mg base (L2.CX P w) (17) (He.fAd K ("write", none)) (fd 5) ["tree"] (spP K mg 1 M_write) := ok_write_ T 8
theorem ok__law_begin (T : Tx w K mg base fd) : FnOk P w K mg base (L2.CX P w) 1 (He.fAd K ("_law_begin", none)) (fd 6) ["_law_script"] (spP K mg 1 M__law_begin) := by
  refine fn_PD T.F6 sc__law_begin rfl rfl fun cdv A outer s H E hr tk => ?_
  have nd := sc__law_begin.nd
  exact (ss_one (ss_ret (sx_lst (sa_cons (sx_callTy cs_list (by rfl) T.n_list bt_list (sa_cons (sx_slH (sx_name 0) sx_int) sa_nil)) (sa_cons sx_int (sa_cons sx_int (sa_cons sx_int sa_nil)))))))
theorem ok__law_take (T : Tx w K mg base fd) : FnOk P w K mg base (L2.CX P w) 1 (He.fAd K ("_law_take", none)) (fd 7) ["_law_draw", "_law_sides"] (spI K mg 1 M__law_take) := by
  refine fn_ID T.F7 sc__law_take rfl rfl fun cdv A outer s H E hr tk => ?_
  have nd := sc__law_take.nd
  exact (ss_cons (ss_if (SW.t (sw_and (st_cmp os_lt (sx_ix (sx_name 0) sx_int) (sx_name 1) (nomark _)) (sw_and1 (st_cmp os_lt (sx_ix (sx_name 0) sx_int) (sx_callB cs_len (by rfl) T.n_len bt_len (sa_cons (sx_ix (sx_name 0) sx_int) sa_nil)) (nomark _))))) (ss_cons (ss_set 2 nd (sx_ix (sx_ix (sx_name 0) sx_int) (sx_ix (sx_name 0) sx_int)))
      (ss_cons (ss_setIx 0 (sx_bin os_add (sx_ix (sx_name 0) sx_int) sx_int) sx_int)
      (ss_cons (ss_setIx 0 sx_int sx_int)
      (ss_one (ss_if (st_cmp os_ge (sx_callB cs_abs (by rfl) T.n_abs bt_abs (sa_cons (sx_name 2) sa_nil)) (sx_bin os_pow sx_int sx_int) (nomark _)) (ss_one (ss_setIx 0 (sx_callB cs_abs (by rfl) T.n_abs bt_abs (sa_cons (sx_name 2) sa_nil)) sx_int)) (ss_one (ss_setIx 0 (sx_bin os_mod (sx_bin os_add (sx_bin os_add (sx_bin os_mul (sx_ix (sx_name 0) sx_int) sx_int) (sx_bin os_mul (sx_bin os_mod (sx_name 2) sx_int) sx_int)) sx_int) sx_int) sx_int))))))) ss_nil)
      (ss_cons (ss_if (st_cmp os_ge (sx_ix (sx_name 0) sx_int) (sx_name 1) (nomark _)) (ss_cons (ss_set 3 nd (sx_bin os_mod (sx_ix (sx_name 0) sx_int) (sx_name 1)))
      (ss_cons (ss_setIx 0 (sx_bin os_div (sx_ix (sx_name 0) sx_int) (sx_name 1)) sx_int)
      (ss_one (ss_ret (sx_name 3))))) ss_nil)
      (ss_cons (ss_setIx 0 (sx_bin os_mod (sx_bin os_add (sx_bin os_add (sx_bin os_mul (sx_bin os_mod (sx_bin os_mul (sx_ix (sx_name 0) sx_int) (sx_ix (sx_name 0) sx_int)) sx_int) sx_int) (sx_bin os_mul (sx_ix (sx_name 0) sx_int) sx_int)) sx_int) sx_int) sx_int)
      (ss_one (ss_ret (sx_bin os_mod (sx_bin os_add (sx_bin os_div (sx_ix (sx_name 0) sx_int) sx_int) (sx_bin os_mul (sx_bin os_mod (sx_ix (sx_name 0) sx_int) sx_int) sx_int)) (sx_name 1)))))))
theorem ok__law_of (T : Tx w K mg base fd) : FnOk P w K mg base (L2.CX P w) 2 (He.fAd K ("_law_of", none)) (fd 8) ["_law_draw", "_law_row"] (spI K mg 1 M__law_of) := by
  refine fn_ID T.F8 sc__law_of rfl rfl fun cdv A outer s H E hr tk => ?_
  have nd := sc__law_of.nd
  exact (ss_one (ss_ret (sx_ix (sx_name 1) (sx_callI (ok__law_take T) finI_len (hrm hr) T.g7 T.F7.kp T.b7 tk (sa_cons (sx_name 0) (sa_cons (sx_callB cs_len (by rfl) T.n_len bt_len (sa_cons (sx_name 1) sa_nil)) sa_nil))))))
theorem ok__law_same_ (T : Tx w K mg base fd) : ∀ k : Nat, FnOk P w K mg base (L2.CX P w) (k + 1) (He.fAd K ("_law_same", none)) (fd 9) ["_law_found", "_law_due"] (spP K mg 2 (M__law_same_ k))
  | 0 => ⟨fun vs H Q E h => (by obtain ⟨F, G, ds, _, _, _, z⟩ := h; exact z.elim), fun A outer s H args us vs Q E _ _ _ _ h => (by obtain ⟨F, G, ds, _, _, _, z⟩ := h; exact z.elim)⟩
  | k + 1 => by
    have ih : FnOk P w K mg base (L2.CX P w) (k + 1) (He.fAd K ("_law_same", none)) (fd 9) ["_law_found", "_law_due"] (spP K mg 2 (M__law_same_ k)) := ok__law_same_ T k
    have hl : ∀ ds, ds.length ≠ 2 → M__law_same_ k ds = .bad := fun ds h => by
      cases k with
      | zero => rfl
      | succ k => exact fin_len ds h
    refine fn_PD T.F9 sc__law_same rfl rfl fun cdv A outer s H E hr tk => ?_
    have nd := sc__law_same.nd
    exact (ss_cons (ss_if (st_val (sx_isi2 (by rfl) T.n_isinstance (sx_name 1) (by rfl) T.n_list bt_list (by rfl) T.n_tuple bt_tuple)) (ss_cons (ss_if (SW.t (sw_or (st_cmp (os_ne hr.units) (sx_callB cs_isi (by rfl) T.n_isinstance bt_isinstance (sa_cons (sx_name 0) (sa_cons (sx_ty (by rfl) T.n_list bt_list) sa_nil))) (sx_callB cs_isi (by rfl) T.n_isinstance bt_isinstance (sa_cons (sx_name 1) (sa_cons (sx_ty (by rfl) T.n_list bt_list) sa_nil))) (nomark _)) (sw_or1 (st_not (st_val (sx_isi2 (by rfl) T.n_isinstance (sx_name 0) (by rfl) T.n_list bt_list (by rfl) T.n_tuple bt_tuple)))))) (ss_one (ss_ret sx_bl)) ss_nil)
      (ss_one (ss_ret (sx_and (sx_cmp (os_eq hr.units) (sx_callB cs_len (by rfl) T.n_len bt_len (sa_cons (sx_name 0) sa_nil)) (sx_callB cs_len (by rfl) T.n_len bt_len (sa_cons (sx_name 1) sa_nil)) (nomark _)) (sx_one (sx_callB (cs_all rfl) (by rfl) T.n_all bt_all (sa_cons (sx_lc0 [("_law_one", 2), ("_law_other", 3)] rfl nd (si_za (by rfl) T.n_zip (sa_cons (sx_name 0) (sa_cons (sx_name 1) sa_nil))) (blkOk_by (own := [("_law_one", 2), ("_law_other", 3)]) (N := N__law_same) (sc := defScope s__law_same) (by decide +kernel)) (by decide) (fun _ _ _ _ _ => (sg_tup rfl (sgs_cons (sg_name 2 nd) (sgs_cons (sg_name 3 nd) sgs_nil)))) (fun _ _ _ _ _ => (sx_call ih hl (hr.mono (by omega)) T.g9 T.F9.kp T.b9 takes0 (sa_cons (sx_name 2) (sa_cons (sx_name 3) sa_nil))))) sa_nil))))))) ss_nil)
      (ss_cons (ss_if (st_cmp os_is (sx_name 1) sx_non (nomark _)) (ss_one (ss_ret (sx_cmp os_is (sx_name 0) sx_non (nomark _)))) ss_nil)
      (ss_cons (ss_if (SW.t (sw_or (st_cmp (os_ne hr.units) (sx_callB cs_isi (by rfl) T.n_isinstance bt_isinstance (sa_cons (sx_name 0) (sa_cons (sx_ty (by rfl) T.n_bool bt_bool) sa_nil))) (sx_callB cs_isi (by rfl) T.n_isinstance bt_isinstance (sa_cons (sx_name 1) (sa_cons (sx_ty (by rfl) T.n_bool bt_bool) sa_nil))) (nomark _)) (sw_or1 (st_cmp (os_ne hr.units) (sx_callB cs_isi (by rfl) T.n_isinstance bt_isinstance (sa_cons (sx_name 0) (sa_cons (sx_ty (by rfl) T.n_int bt_int) sa_nil))) (sx_callB cs_isi (by rfl) T.n_isinstance bt_isinstance (sa_cons (sx_name 1) (sa_cons (sx_ty (by rfl) T.n_int bt_int) sa_nil))) (nomark _))))) (ss_one (ss_ret sx_bl)) ss_nil)
      (ss_one (ss_ret (sx_and (sx_cmp (os_eq hr.units) (sx_callB cs_isi (by rfl) T.n_isinstance bt_isinstance (sa_cons (sx_name 0) (sa_cons (sx_ty (by rfl) T.n_str bt_str) sa_nil))) (sx_callB cs_isi (by rfl) T.n_isinstance bt_isinstance (sa_cons (sx_name 1) (sa_cons (sx_ty (by rfl) T.n_str bt_str) sa_nil))) (nomark _)) (sx_one (sx_cmp (os_eq hr.units) (sx_name 0) (sx_name 1) (nomark _)))))))))
theorem ok__law_same (T : Tx w K mg base fd) : FnOk P w K mg base (L2.CX P w) 9 (He.fAd K ("_law_same", none)) (fd 9) ["_law_found", "_law_due"] (spP K mg 2 M__law_same) := ok__law_same_ T 8
theorem ok__law_letters (T : Tx w K mg base fd) : FnOk P w K mg base (L2.CX P w) 1 (He.fAd K ("_law_letters", none)) (fd 11) [] (spP K mg 0 M__law_letters) := by
  refine fn_PD T.F11 sc__law_letters rfl rfl fun cdv A outer s H E hr tk => ?_
  have nd := sc__law_letters.nd
  exact (ss_one (ss_ret sx_str))
theorem ok__law_fresh (T : Tx w K mg base fd) : FnOk P w K mg base (L2.CX P w) 3 (He.fAd K ("_law_fresh", none)) (fd 12) ["_law_draw", "_law_taken"] (spI K mg 1 M__law_fresh) := by
  refine fn_ID T.F12 sc__law_fresh rfl rfl fun cdv A outer s H E hr tk => ?_
  have nd := sc__law_fresh.nd
  exact (ss_cons (ss_set 2 nd (sx_bm PySem.F.plainAttrs_str PySem.F.slot_str_join PySem.F.type_str_join bs_join sx_str (sa_cons (sx_lc0 [("_law_k", 4)] rfl nd (si_r1 (by rfl) T.n_range (sa_cons (sx_callI (ok__law_of T) finI_len (hrm hr) T.g8 T.F8.kp T.b8 tk (sa_cons (sx_name 0) (sa_cons (sx_lst (sa_cons sx_int (sa_cons sx_int (sa_cons sx_int (sa_cons sx_int (sa_cons sx_int sa_nil)))))) sa_nil))) sa_nil)) (blkOk_by (own := [("_law_k", 4)]) (N := N__law_fresh) (sc := defScope s__law_fresh) (by decide +kernel)) (by decide) (fun _ _ _ _ _ => (sg_name 4 nd)) (fun _ _ _ _ _ => (sx_callI (ok__law_of T) finI_len (hrm hr) T.g8 T.F8.kp T.b8 takes0 (sa_cons (sx_name 0) (sa_cons (sx_call0 (ok__law_letters T) fin_len (hrm hr) T.g11 T.F11.kp T.b11 takes0) sa_nil))))) sa_nil)))
      (ss_cons (ss_set 3 nd (sx_bin os_add (sx_lst (sa_cons (sx_name 2) sa_nil)) (sx_lc0 [("_law_one", 5)] rfl nd (si_str (sx_call0 (ok__law_letters T) fin_len (hrm hr) T.g11 T.F11.kp T.b11 tk)) (blkOk_by (own := [("_law_one", 5)]) (N := N__law_fresh) (sc := defScope s__law_fresh) (by decide +kernel)) (by decide) (fun _ _ _ _ _ => (sg_name 5 nd)) (fun _ _ _ _ _ => (sx_bin os_mulS (sx_name 5) sx_int)))))
      (ss_one (ss_ret (sx_ix (sx_lc1 [("_law_one", 5)] rfl nd (si_seq (sx_name 3)) (blkOk_by (own := [("_law_one", 5)]) (N := N__law_fresh) (sc := defScope s__law_fresh) (by decide +kernel)) (by decide) (fun _ _ _ _ _ => (sg_name 5 nd)) (fun _ _ _ _ _ => (st_cmp os_notInW (sx_name 5) (sx_name 1) rfl)) (fun _ _ _ _ _ => (sx_name 5))) sx_int)))))
theorem ok__law_tree_ (T : Tx w K mg base fd) : ∀ k : Nat, FnOk P w K mg base (L2.CX P w) (3 + 1 * k) (He.fAd K ("_law_tree", none)) (fd 13) ["_law_draw", "_law_names", "_law_deep"] (spI K mg 2 (M__law_tree_ k))
  | 0 => fn_noI
  | k + 1 => by
    have ih : FnOk P w K mg base (L2.CX P w) (3 + 1 * k) (He.fAd K ("_law_tree", none)) (fd 13) ["_law_draw", "_law_names", "_law_deep"] (spI K mg 2 (M__law_tree_ k)) := ok__law_tree_ T k
    have hk : 3 ≤ 3 + 1 * k := by omega
    have hl : ∀ xs ds, ds.length ≠ 2 → M__law_tree_ k xs ds = .bad := fun s ds h => by
      cases k with
      | zero => rfl
      | succ k => exact finI_len s ds h
    show FnOk P w K mg base (L2.CX P w) ((3 + (1 * k + 0)) + 1) (He.fAd K ("_law_tree", none)) (fd 13) ["_law_draw", "_law_names", "_law_deep"] (spI K mg 2 (M__law_tree_ (k + 1)))
    refine fn_ID T.F13 sc__law_tree rfl rfl fun cdv A outer s H E hr tk => ?_
    have nd := sc__law_tree.nd
    exact (ss_cons (ss_set 3 nd (sx_callI (ok__law_take T) finI_len (hr.mono (by omega)) T.g7 T.F7.kp T.b7 tk (sa_cons (sx_name 0) (sa_cons sx_int sa_nil))))
      (ss_cons (ss_if (SW.t (sw_or (st_cmp (os_eq hr.units) (sx_name 2) sx_int (nomark _)) (sw_or1 (st_cmp os_lt (sx_name 3) sx_int (nomark _))))) (ss_cons (ss_if (SW.t (sw_and (st_cmp (os_ne hr.units) (sx_name 1) (sx_lst sa_nil) (nomark _)) (sw_and1 (st_cmp os_gt (sx_callI (ok__law_take T) finI_len (hr.mono (by omega)) T.g7 T.F7.kp T.b7 tk (sa_cons (sx_name 0) (sa_cons sx_int sa_nil))) sx_int (nomark _))))) (ss_one (ss_ret (sx_tup (sa_cons sx_str (sa_cons (sx_callI (ok__law_of T) finI_len (hr.mono (by omega)) T.g8 T.F8.kp T.b8 tk (sa_cons (sx_name 0) (sa_cons (sx_name 1) sa_nil))) sa_nil))))) ss_nil)
      (ss_one (ss_ret (sx_tup (sa_cons sx_str (sa_cons (sx_callI (ok__law_of T) finI_len (hr.mono (by omega)) T.g8 T.F8.kp T.b8 tk (sa_cons (sx_name 0) (sa_cons (sx_lst (sa_cons sx_int (sa_cons sx_int (sa_cons sx_int (sa_cons sx_int (sa_cons (sx_callI (ok__law_take T) finI_len (hr.mono (by omega)) T.g7 T.F7.kp T.b7 tk (sa_cons (sx_name 0) (sa_cons sx_int sa_nil))) sa_nil)))))) sa_nil))) sa_nil)))))) ss_nil)
      (ss_cons (ss_set 4 nd (sx_callI ih hl (hr.mono (by omega)) T.g13 T.F13.kp T.b13 tk (sa_cons (sx_name 0) (sa_cons (sx_name 1) (sa_cons (sx_bin os_sub (sx_name 2) sx_int) sa_nil)))))
      (ss_cons (ss_if (st_cmp (os_eq hr.units) (sx_name 3) sx_int (nomark _)) (ss_one (ss_ret (sx_tup (sa_cons sx_str (sa_cons (sx_name 4) sa_nil))))) ss_nil)
      (ss_cons (ss_if (st_cmp (os_eq hr.units) (sx_name 3) sx_int (nomark _)) (ss_one (ss_ret (sx_tup (sa_cons sx_str (sa_cons (sx_name 4) (sa_cons (sx_callI (ok__law_of T) finI_len (hr.mono (by omega)) T.g8 T.F8.kp T.b8 tk (sa_cons (sx_name 0) (sa_cons (sx_lst (sa_cons sx_int (sa_cons sx_int (sa_cons sx_int (sa_cons sx_int (sa_cons (sx_neg sx_int) (sa_cons (sx_neg sx_int) (sa_cons (sx_bin os_sub sx_int (sx_callI (ok__law_take T) finI_len (hr.mono (by omega)) T.g7 T.F7.kp T.b7 tk (sa_cons (sx_name 0) (sa_cons sx_int sa_nil)))) (sa_cons sx_int (sa_cons (sx_neg sx_int) sa_nil)))))))))) sa_nil))) sa_nil)))))) ss_nil)
      (ss_cons (ss_set 5 nd (sx_callI (ok__law_of T) finI_len (hr.mono (by omega)) T.g8 T.F8.kp T.b8 tk (sa_cons (sx_name 0) (sa_cons (sx_lst (sa_cons sx_str (sa_cons sx_str (sa_cons sx_str (sa_cons sx_str (sa_cons sx_str (sa_cons sx_str sa_nil))))))) sa_nil))))
      (ss_one (ss_ret (sx_tup (sa_cons (sx_name 5) (sa_cons (sx_name 4) (sa_cons (sx_callI ih hl (hr.mono (by omega)) T.g13 T.F13.kp T.b13 tk (sa_cons (sx_name 0) (sa_cons (sx_name 1) (sa_cons (sx_callB (cs_max rfl) (by rfl) T.n_max bt_max (sa_cons sx_int (sa_cons (sx_bin os_sub (sx_bin os_sub (sx_name 2) sx_int) (sx_callI (ok__law_take T) finI_len (hr.mono (by omega)) T.g7 T.F7.kp T.b7 tk (sa_cons (sx_name 0) (sa_cons sx_int sa_nil)))) sa_nil))) sa_nil)))) sa_nil))))))))))))
theorem ok__law_tree (T : Tx w K mg base fd) : FnOk P w K mg base (L2.CX P w) (11) (He.fAd K ("_law_tree", none)) (fd 13) ["_law_draw", "_law_names", "_law_deep"] (spI K mg 2 M__law_tree) := ok__law_tree_ T 8
theorem ok__law_signs (T : Tx w K mg base fd) : FnOk P w K mg base (L2.CX P w) 1 (He.fAd K ("_law_signs", none)) (fd 14) [] (spP K mg 0 M__law_signs) := by
  refine fn_PD T.F14 sc__law_signs rfl rfl fun cdv A outer s H E hr tk => ?_
  have nd := sc__law_signs.nd
  exact (ss_one (ss_ret (sx_pin (sd_dispS [("plus", " + "), ("minus", " - "), ("times", " * "), ("over", " / ")] (pps_cons pe_str pe_str (pps_cons pe_str pe_str (pps_cons pe_str pe_str (pps_cons pe_str pe_str pps_nil)))) (fun _ _ _ h => h) (by decide +kernel)))))
theorem okq__law_shut (T : Tx w K mg base fd) {k : Nat} {MA : List D → R Nw} (hl : ∀ ds, ds.length ≠ 1 → MA ds = .bad) (ih : FnOk P w K mg base (L2.CX P w) (k) (He.fAd K ("_law_text", none)) (fd 16) ["_law_tree_here"] (spP K mg 1 MA)) (hk : 2 ≤ k) : FnOk P w K mg base (L2.CX P w) (k + 1) (He.fAd K ("_law_shut", none)) (fd 15) ["_law_tree_here", "_law_kinds"] (spP K mg 2 (Mq__law_shut MA)) := by
  show FnOk P w K mg base (L2.CX P w) ((k + 0) + 1) (He.fAd K ("_law_shut", none)) (fd 15) ["_law_tree_here", "_law_kinds"] (spP K mg 2 (Mq__law_shut MA))
  refine fn_PD T.F15 sc__law_shut rfl rfl fun cdv A outer s H E hr tk => ?_
  have nd := sc__law_shut.nd
  exact (ss_one (ss_ret (sx_if (st_cmp os_inW (sx_ix (sx_name 0) sx_int) (sx_name 1) rfl) (sx_bin os_add (sx_bin os_add sx_str (sx_call ih hl (hr.mono (by omega)) T.g16 T.F16.kp T.b16 tk (sa_cons (sx_name 0) sa_nil))) sx_str) (sx_call ih hl (hr.mono (by omega)) T.g16 T.F16.kp T.b16 tk (sa_cons (sx_name 0) sa_nil)))))
theorem ok__law_text_ (T : Tx w K mg base fd) : ∀ k : Nat, FnOk P w K mg base (L2.CX P w) (2 + 2 * k) (He.fAd K ("_law_text", none)) (fd 16) ["_law_tree_here"] (spP K mg 1 (M__law_text_ k))
  | 0 => fn_noP
  | k + 1 => by
    have ih : FnOk P w K mg base (L2.CX P w) (2 + 2 * k) (He.fAd K ("_law_text", none)) (fd 16) ["_law_tree_here"] (spP K mg 1 (M__law_text_ k)) := ok__law_text_ T k
    have hk : 2 ≤ 2 + 2 * k := by omega
    have hl : ∀ ds, ds.length ≠ 1 → M__law_text_ k ds = .bad := fun ds h => by
      cases k with
      | zero => rfl
      | succ k => exact fin_len ds h
    show FnOk P w K mg base (L2.CX P w) ((2 + (2 * k + 1)) + 1) (He.fAd K ("_law_text", none)) (fd 16) ["_law_tree_here"] (spP K mg 1 (M__law_text_ (k + 1)))
    refine fn_PD T.F16 sc__law_text rfl rfl fun cdv A outer s H E hr tk => ?_
    have nd := sc__law_text.nd
    exact (ss_cons (ss_set 1 nd (sx_lst (sa_cons sx_str (sa_cons sx_str (sa_cons sx_str (sa_cons sx_str sa_nil))))))
      (ss_cons (ss_if (st_cmp os_inW (sx_ix (sx_name 0) sx_int) (sx_tup (sa_cons sx_str (sa_cons sx_str sa_nil))) rfl) (ss_one (ss_ret (sx_callTy cs_str (by rfl) T.n_str bt_str (sa_cons (sx_ix (sx_name 0) sx_int) sa_nil)))) ss_nil)
      (ss_cons (ss_if (st_cmp (os_eq hr.units) (sx_ix (sx_name 0) sx_int) sx_str (nomark _)) (ss_one (ss_ret (sx_bin os_add (sx_call (okq__law_shut T hl ih hk) fin_len (hr.mono (by omega)) T.g15 T.F15.kp T.b15 tk (sa_cons (sx_ix (sx_name 0) sx_int) (sa_cons (sx_name 1) sa_nil))) sx_str))) ss_nil)
      (ss_cons (ss_if (st_cmp (os_eq hr.units) (sx_ix (sx_name 0) sx_int) sx_str (nomark _)) (ss_one (ss_ret (sx_bin os_add (sx_bin os_add (sx_call (okq__law_shut T hl ih hk) fin_len (hr.mono (by omega)) T.g15 T.F15.kp T.b15 tk (sa_cons (sx_ix (sx_name 0) sx_int) (sa_cons (sx_name 1) sa_nil))) sx_str) (sx_callTy cs_str (by rfl) T.n_str bt_str (sa_cons (sx_ix (sx_name 0) sx_int) sa_nil))))) ss_nil)
      (ss_cons (ss_if (st_cmp os_inW (sx_ix (sx_name 0) sx_int) (sx_tup (sa_cons sx_str (sa_cons sx_str sa_nil))) rfl) (ss_one (ss_ret (sx_bin os_add (sx_bin os_add (sx_call ih hl (hr.mono (by omega)) T.g16 T.F16.kp T.b16 tk (sa_cons (sx_ix (sx_name 0) sx_int) sa_nil)) (sx_dget (hu_of hr) (sx_call0 (ok__law_signs T) fin_len (hr.mono (by omega)) T.g14 T.F14.kp T.b14 tk) (sx_ix (sx_name 0) sx_int))) (sx_call (okq__law_shut T hl ih hk) fin_len (hr.mono (by omega)) T.g15 T.F15.kp T.b15 tk (sa_cons (sx_ix (sx_name 0) sx_int) (sa_cons (sx_slH (sx_name 1) sx_int) sa_nil)))))) ss_nil)
      (ss_one (ss_ret (sx_bin os_add (sx_bin os_add (sx_call (okq__law_shut T hl ih hk) fin_len (hr.mono (by omega)) T.g15 T.F15.kp T.b15 tk (sa_cons (sx_ix (sx_name 0) sx_int) (sa_cons (sx_slH (sx_name 1) sx_int) sa_nil))) (sx_dget (hu_of hr) (sx_call0 (ok__law_signs T) fin_len (hr.mono (by omega)) T.g14 T.F14.kp T.b14 tk) (sx_ix (sx_name 0) sx_int))) (sx_call (okq__law_shut T hl ih hk) fin_len (hr.mono (by omega)) T.g15 T.F15.kp T.b15 tk (sa_cons (sx_ix (sx_name 0) sx_int) (sa_cons (sx_name 1) sa_nil)))))))))))
theorem ok__law_text (T : Tx w K mg base fd) : FnOk P w K mg base (L2.CX P w) (18) (He.fAd K ("_law_text", none)) (fd 16) ["_law_tree_here"] (spP K mg 1 M__law_text) := ok__law_text_ T 8
theorem ok__law_without (T : Tx w K mg base fd) : FnOk P w K mg base (L2.CX P w) 1 (He.fAd K ("_law_without", none)) (fd 17) ["_law_text_here"] (spP K mg 1 M__law_without) := by
  refine fn_PD T.F17 sc__law_without rfl rfl fun cdv A outer s H E hr tk => ?_
  have nd := sc__law_without.nd
  exact (ss_cons (ss_set 1 nd (sx_lst sa_nil))
      (ss_cons (ss_for (passes_of rfl) rfl (si_r1 (by rfl) T.n_range (sa_cons (sx_callB cs_lenS (by rfl) T.n_len bt_len (sa_cons (sx_name 0) sa_nil)) sa_nil)) (sg_name 2 nd) (ss_one (ss_if (st_cmp (os_eq hr.units) (sx_ix (sx_name 0) (sx_name 2)) sx_str (nomark _)) (ss_cons (ss_asg (sx_tup (sa_cons sx_int (sa_cons sx_int sa_nil))) (sg_tup rfl (sgs_cons (sg_name 3 nd) (sgs_cons (sg_name 4 nd) sgs_nil))))
      (ss_cons (ss_for (passes_of rfl) rfl (si_r2 (by rfl) T.n_range (sa_cons (sx_name 2) (sa_cons (sx_callB cs_lenS (by rfl) T.n_len bt_len (sa_cons (sx_name 0) sa_nil)) sa_nil))) (sg_name 5 nd) (ss_cons (ss_set 6 nd (sx_ix (sx_name 0) (sx_name 5)))
      (ss_cons (ss_set 3 nd (sx_bin os_sub (sx_bin os_add (sx_name 3) (sx_callTy cs_int (by rfl) T.n_int bt_int (sa_cons (sx_cmp (os_eq hr.units) (sx_name 6) sx_str (nomark _)) sa_nil))) (sx_callTy cs_int (by rfl) T.n_int bt_int (sa_cons (sx_cmp (os_eq hr.units) (sx_name 6) sx_str (nomark _)) sa_nil))))
      (ss_one (ss_if (SW.t (sw_and (st_cmp (os_eq hr.units) (sx_name 3) sx_int (nomark _)) (sw_and1 (st_cmp (os_eq hr.units) (sx_name 4) sx_int (nomark _))))) (ss_one (ss_set 4 nd (sx_name 5))) ss_nil)))))
      (ss_cons (ss_set 7 nd (sx_slBS (sx_name 0) (sx_bin os_add (sx_name 2) sx_int) (sx_name 4)))
      (ss_one (ss_expr (sx_me 1 PySem.F.slot_list_append PySem.F.type_list_append ms_append (sa_cons (sx_bin os_add (sx_bin os_add (sx_slHS (sx_name 0) (sx_name 2)) (sx_name 7)) (sx_slLS (sx_name 0) (sx_bin os_add (sx_name 4) sx_int))) sa_nil))))))) ss_nil)))
      (ss_one (ss_ret (sx_name 1)))))
theorem ok_law (T : Tx w K mg base fd) : FnOk P w K mg base (L2.CX P w) 172 (He.fAd K ("law", none)) (fd 18) ["_law_script"] (spP K mg 1 M_law) := by
  refine fn_PM T.F18 sc_law rfl rfl T.tb_law T.un (by decide) fun cdv A outer s H E hr tk mk => ?_
  have nd := sc_law.nd
  exact (ss_cons (ss_set 1 nd (sx_call (ok__law_begin T) fin_len (hrm hr) T.g6 T.F6.kp T.b6 tk (sa_cons (sx_name 0) sa_nil)))
      (ss_cons (ss_for (passes_of rfl) rfl (si_r1 (by rfl) T.n_range (sa_cons sx_int sa_nil)) (sg_name 2 nd) (ss_cons (ss_lc0 3 [("_law_k", 10)] rfl nd (si_r1 (by rfl) T.n_range (sa_cons sx_int sa_nil)) (blkOk_by (own := [("_law_k", 10)]) (N := N_law) (sc := defScope s_law) (by decide +kernel)) (by decide) (fun _ _ _ _ _ => (sg_name 10 nd)) (fun _ _ _ _ _ => (sx_callI (ok__law_fresh T) finI_len (hrm hr) T.g12 T.F12.kp T.b12 takes0 (sa_cons (sx_name 1) (sa_cons (sx_lst sa_nil) sa_nil)))) (sw_true rfl rfl rfl (by decide +kernel)))
      (ss_cons (ss_set 4 nd (sx_callI (ok__law_tree T) finI_len (hrm hr) T.g13 T.F13.kp T.b13 tk (sa_cons (sx_name 1) (sa_cons (sx_name 3) (sa_cons (sx_callI (ok__law_take T) finI_len (hrm hr) T.g7 T.F7.kp T.b7 tk (sa_cons (sx_name 1) (sa_cons sx_int sa_nil))) sa_nil)))))
      (ss_cons (ss_set 5 nd (sx_call (ok_write T) fin_len (hrm hr) T.g5 T.F5.kp T.b5 tk (sa_cons (sx_name 4) sa_nil)))
      (ss_cons (ss_if (st_not (st_val (sx_call (ok__law_same T) M__law_same_len (hrm hr) T.g9 T.F9.kp T.b9 tk (sa_cons (sx_name 5) (sa_cons (sx_call (ok__law_text T) fin_len (hrm hr) T.g16 T.F16.kp T.b16 tk (sa_cons (sx_name 4) sa_nil)) sa_nil))))) (ss_one (ss_ret sx_bl)) ss_nil)
      (ss_one (ss_if (st_cmp os_lt (sx_callB cs_lenS (by rfl) T.n_len bt_len (sa_cons (sx_name 5) sa_nil)) sx_int (nomark _)) (ss_cons (ss_if (st_not (st_val (sx_call (ok__law_same T) M__law_same_len (hrm hr) T.g9 T.F9.kp T.b9 tk (sa_cons (sx_call (ok_read T) fin_len (hrm hr) T.g3 T.F3.kp T.b3 tk (sa_cons (sx_name 5) sa_nil)) (sa_cons (sx_name 4) sa_nil))))) (ss_one (ss_ret sx_bl)) ss_nil)
      (ss_cons (ss_if (st_cmp (os_ne hr.units) (sx_call (ok_write T) fin_len (hrm hr) T.g5 T.F5.kp T.b5 tk (sa_cons (sx_call (ok_read T) fin_len (hrm hr) T.g3 T.F3.kp T.b3 tk (sa_cons (sx_bin os_add (sx_bin os_add sx_str (sx_name 5)) sx_str) sa_nil)) sa_nil)) (sx_name 5) (nomark _)) (ss_one (ss_ret sx_bl)) ss_nil)
      (ss_one (ss_if (st_val (sx_callB (cs_anyT rfl) (by rfl) T.n_any bt_any (sa_cons (sx_lc0 [("_law_bare", 11)] rfl nd (si_seq (sx_call (ok__law_without T) fin_len (hrm hr) T.g17 T.F17.kp T.b17 tk (sa_cons (sx_name 5) sa_nil))) (blkOk_by (own := [("_law_bare", 11)]) (N := N_law) (sc := defScope s_law) (by decide +kernel)) (by decide) (fun _ _ _ _ _ => (sg_name 11 nd)) (fun _ _ _ _ _ => (sx_cmp (os_eq hr.units) (sx_why' (k := 169) (why_ok T) (kn_ok T) (hrm hr) (by rfl) T.g10 T.F10.kp ⟨mk.ex, mk.un⟩ (lamS_blk (by decide +kernel)) (fun A outer s H E f c hr' => (fun tk' => (sx_call (ok_read T) fin_len (hr'.mono (by decide)) T.g3 T.F3.kp T.b3 tk' (sa_cons (sx_name 11) sa_nil))) (takes_of rfl rfl rfl rfl))) (sx_tup (sa_cons sx_str (sa_cons (sx_name 4) sa_nil))) (nomark _)))) sa_nil))) (ss_one (ss_ret sx_bl)) ss_nil)))) ss_nil)))))))
      (ss_cons (ss_asg (sx_tup (sa_cons (sx_tup (sa_cons sx_str (sa_cons sx_str sa_nil))) (sa_cons (sx_tup (sa_cons sx_str (sa_cons sx_str sa_nil))) sa_nil))) (sg_tup rfl (sgs_cons (sg_name 6 nd) (sgs_cons (sg_name 7 nd) sgs_nil))))
      (ss_cons (ss_set 8 nd (sx_lst (sa_cons (sx_tup (sa_cons sx_str (sa_cons (sx_tup (sa_cons sx_str (sa_cons (sx_name 6) (sa_cons (sx_name 7) sa_nil)))) (sa_cons (sx_neg sx_int) sa_nil)))) (sa_cons (sx_tup (sa_cons sx_str (sa_cons (sx_tup (sa_cons sx_str (sa_cons (sx_name 6) (sa_cons sx_int sa_nil)))) sa_nil))) sa_nil))))
      (ss_cons (ss_set 8 nd (sx_bin os_add (sx_name 8) (sx_lst (sa_cons (sx_tup (sa_cons sx_str (sa_cons (sx_name 6) (sa_cons (sx_tup (sa_cons sx_str (sa_cons (sx_name 7) (sa_cons (sx_name 6) sa_nil)))) sa_nil)))) (sa_cons (sx_tup (sa_cons sx_str (sa_cons (sx_tup (sa_cons sx_str (sa_cons (sx_name 6) (sa_cons (sx_name 7) sa_nil)))) (sa_cons (sx_name 6) sa_nil)))) sa_nil)))))
      (ss_cons (ss_set 9 nd (sx_lst (sa_cons sx_str (sa_cons sx_str (sa_cons sx_str (sa_cons sx_str sa_nil))))))
      (ss_one (ss_ret (sx_cmp (os_eq hr.units) (sx_lc0 [("_law_tree_here", 4)] rfl nd (si_seq (sx_name 8)) (blkOk_by (own := [("_law_tree_here", 4)]) (N := N_law) (sc := defScope s_law) (by decide +kernel)) (by decide) (fun _ _ _ _ _ => (sg_name 4 nd)) (fun _ _ _ _ _ => (sx_call (ok_write T) fin_len (hrm hr) T.g5 T.F5.kp T.b5 takes0 (sa_cons (sx_name 4) sa_nil)))) (sx_name 9) (nomark _))))))))))
end
end K53
namespace Tg
open PySem Rg
abbrev En := Rg.Env
abbrev Bt := List (Str × Int)
def bD (b : Bt) : D := .lst (b.map fun x => .tup [.str x.1, .int x.2])
def nR : List Str := ["bits", "spot", "end"]
def S (b : Bt) (i : Nat) (e : Int) : Sl := .m (.r "Reader" nR) [bD b, .int (i : Int), .int e]
def hd (b : Bt) (i : Nat) : Str := (b[i]?.map (·.1)).getD ""
def wr (b : Bt) (e : Int) (i : Nat) : Int := (b[i]?.map (·.2)).getD e
def mthV (M : Sl → List D → R (Nw × Sl)) (k : Nat) (Γ : En) : R (BV × En) := match M (gt Γ k) [] with
  | .ok (.v d, s) => .ok (.v d, Γ.set k s)
  | .ok (.o _, _) => .bad
  | .exc c fs => .exc c fs
  | .bad => .bad
section
variable {Γ : En} {b : Bt} {i : Nat} {e : Int} {x : Sl} {m : En → R (BV × En)} {M : Sl → List D → R (Nw × Sl)} {d : D} {s : Sl} {c : Str} {fs : List (Str × D)}
theorem rg_b : mRg "Reader" 0 "bits" (S b i e :: Γ) = .ok (.v (bD b), S b i e :: Γ) := rfl
theorem rg_s : mRg "Reader" 0 "spot" (S b i e :: Γ) = .ok (.v (.int (i : Int)), S b i e :: Γ) := rfl
theorem rg_e : mRg "Reader" 0 "end" (S b i e :: Γ) = .ok (.v (.int e), S b i e :: Γ) := rfl
theorem ra_1 : mRa "Reader" 0 "spot" (mK (.int 1)) (S b i e :: Γ) = .ok (.nx (S b (i + 1) e :: Γ)) := rfl
theorem ra_n {n : Nat} (h : m (S b i e :: Γ) = .ok (.v (.int (n : Int)), S b i e :: Γ)) : mRa "Reader" 0 "spot" m (S b i e :: Γ) = .ok (.nx (S b (i + n) e :: Γ)) := by
  have h2 : mFz1 m (S b i e :: Γ) = .ok (.int (n : Int), S b i e :: Γ) := by unfold mFz1; rw [h]; rfl
  unfold mRa
  show R.bind (mFz1 m (S b i e :: Γ)) _ = _
  rw [h2]
  rfl
theorem mt_g0 {f : Str} (hf : (lkD f nR [bD b, .int (i : Int), .int e]).isNone = true) : mMthS "Reader" 0 f M (S b i e :: Γ) = mthV M 0 (S b i e :: Γ) := by
  unfold mMthS mthV
  show (if ("Reader" : Str) = "Reader" ∧ (lkD f nR [bD b, .int (i : Int), .int e]).isNone = true then _ else _) = _
  rw [if_pos ⟨rfl, hf⟩]
  show (match M (S b i e) [] with | .ok (.v d, s) => R.ok (BV.v d, (S b i e :: Γ).set 0 s) | .ok (.o _, _) => .bad | .exc c fs => .exc c fs | .bad => .bad) = _
  rfl
theorem mt_g1 {f : Str} (hf : (lkD f nR [bD b, .int (i : Int), .int e]).isNone = true) : mMthS "Reader" 1 f M (x :: S b i e :: Γ) = mthV M 1 (x :: S b i e :: Γ) := by
  unfold mMthS mthV
  show (if ("Reader" : Str) = "Reader" ∧ (lkD f nR [bD b, .int (i : Int), .int e]).isNone = true then _ else _) = _
  rw [if_pos ⟨rfl, hf⟩]
  show (match M (S b i e) [] with | .ok (.v d, s) => R.ok (BV.v d, (x :: S b i e :: Γ).set 1 s) | .ok (.o _, _) => .bad | .exc c fs => .exc c fs | .bad => .bad) = _
  rfl
theorem mt_ahead : mMthS "Reader" 0 "ahead" M (S b i e :: Γ) = mthV M 0 (S b i e :: Γ) := mt_g0 rfl
theorem mt_wrong : mMthS "Reader" 0 "wrong" M (S b i e :: Γ) = mthV M 0 (S b i e :: Γ) := mt_g0 rfl
theorem mt_taken : mMthS "Reader" 0 "taken" M (S b i e :: Γ) = mthV M 0 (S b i e :: Γ) := mt_g0 rfl
theorem mt_number : mMthS "Reader" 0 "number" M (S b i e :: Γ) = mthV M 0 (S b i e :: Γ) := mt_g0 rfl
theorem mt_atom : mMthS "Reader" 0 "atom" M (S b i e :: Γ) = mthV M 0 (S b i e :: Γ) := mt_g0 rfl
theorem mt_power : mMthS "Reader" 0 "power" M (S b i e :: Γ) = mthV M 0 (S b i e :: Γ) := mt_g0 rfl
theorem mt_products : mMthS "Reader" 0 "products" M (S b i e :: Γ) = mthV M 0 (S b i e :: Γ) := mt_g0 rfl
theorem mt_sums : mMthS "Reader" 0 "sums" M (S b i e :: Γ) = mthV M 0 (S b i e :: Γ) := mt_g0 rfl
theorem mu_ahead : mMthS "Reader" 1 "ahead" M (x :: S b i e :: Γ) = mthV M 1 (x :: S b i e :: Γ) := mt_g1 rfl
theorem mu_wrong : mMthS "Reader" 1 "wrong" M (x :: S b i e :: Γ) = mthV M 1 (x :: S b i e :: Γ) := mt_g1 rfl
theorem mu_sums : mMthS "Reader" 1 "sums" M (x :: S b i e :: Γ) = mthV M 1 (x :: S b i e :: Γ) := mt_g1 rfl
theorem mv_0 (h : M (S b i e) [] = .ok (.v d, s)) : mthV M 0 (S b i e :: Γ) = .ok (.v d, s :: Γ) := by
  unfold mthV
  show (match M (S b i e) [] with | .ok (.v d, s) => R.ok (BV.v d, s :: Γ) | .ok (.o _, _) => .bad | .exc c fs => .exc c fs | .bad => .bad) = _
  rw [h]
theorem mv_x (h : M (S b i e) [] = .exc c fs) : mthV M 0 (S b i e :: Γ) = .exc c fs := by
  unfold mthV
  show (match M (S b i e) [] with | .ok (.v d, s) => R.ok (BV.v d, s :: Γ) | .ok (.o _, _) => .bad | .exc c fs => .exc c fs | .bad => .bad) = _
  rw [h]
theorem mw_0 (h : M (S b i e) [] = .ok (.v d, s)) : mthV M 1 (x :: S b i e :: Γ) = .ok (.v d, x :: s :: Γ) := by
  unfold mthV
  show (match M (S b i e) [] with | .ok (.v d, s) => R.ok (BV.v d, x :: s :: Γ) | .ok (.o _, _) => .bad | .exc c fs => .exc c fs | .bad => .bad) = _
  rw [h]
theorem mw_x (h : M (S b i e) [] = .exc c fs) : mthV M 1 (x :: S b i e :: Γ) = .exc c fs := by
  unfold mthV
  show (match M (S b i e) [] with | .ok (.v d, s) => R.ok (BV.v d, x :: s :: Γ) | .ok (.o _, _) => .bad | .exc c fs => .exc c fs | .bad => .bad) = _
  rw [h]
end
theorem mLcL_all {k : Nat} {em : En → R (BV × En)} {g : Nat → Bool} {Γ : En} (hΓ : Γ.set k .no = Γ) (h : ∀ c, em (Γ.set k (.v (.str ⟨#[c]⟩))) = .ok (.v (.bl (g c)), Γ.set k (.v (.str ⟨#[c]⟩)))) :
    ∀ (cs : List Nat) (acc : List D), acc.length + cs.length ≤ SZ → mLcL (gN k) mYes em [k] (cs.map fun c => D.str ⟨#[c]⟩) Γ acc = .ok (acc ++ cs.map (fun c => .bl (g c)), Γ)
  | [], acc, _ => by rw [List.map_nil, List.map_nil, List.append_nil]; rfl
  | c :: cs, acc, hl => by
    have e1 : nox (mFz1 em (Γ.set k (.v (.str ⟨#[c]⟩)))) = .ok (.bl (g c), Γ.set k (.v (.str ⟨#[c]⟩))) := by unfold mFz1; rw [h]; rfl
    have hl2 : acc.length < SZ := by simp at hl; omega
    have e2 : wipeE (Γ.set k (.v (.str ⟨#[c]⟩))) [k] = Γ := by
      show (Γ.set k (.v (.str ⟨#[c]⟩))).set k .no = Γ
      rw [List.set_set, hΓ]
    show (nox (mFz1 em (Γ.set k (.v (.str ⟨#[c]⟩))))).bind (fun y => if acc.length < SZ then mLcL (gN k) mYes em [k] (cs.map fun c => D.str ⟨#[c]⟩) (wipeE y.2 [k]) (acc ++ [y.1]) else .bad) = _
    rw [e1]
    show (if acc.length < SZ then mLcL (gN k) mYes em [k] (cs.map fun c => D.str ⟨#[c]⟩) (wipeE (Γ.set k (.v (.str ⟨#[c]⟩))) [k]) (acc ++ [.bl (g c)]) else .bad) = _
    rw [if_pos hl2, e2, mLcL_all hΓ h cs _ (by simp at hl ⊢; omega)]
    simp
theorem mLcL_map {k : Nat} {t : En → R (Bool × En)} {em : En → R (BV × En)} {g : D → D} {Γ : En} (hΓ : Γ.set k .no = Γ) :
    ∀ (ds : List D) (acc : List D), (∀ d ∈ ds, t (Γ.set k (.v d)) = .ok (true, Γ.set k (.v d)) ∧ em (Γ.set k (.v d)) = .ok (.v (g d), Γ.set k (.v d))) → acc.length + ds.length ≤ SZ → mLcL (gN k) t em [k] ds Γ acc = .ok (acc ++ ds.map g, Γ)
  | [], acc, _, _ => by rw [List.map_nil, List.append_nil]; rfl
  | d :: ds, acc, h, hl => by
    obtain ⟨h1, h2⟩ := h d (List.mem_cons_self ..)
    have e1 : nox (mFz1 em (Γ.set k (.v d))) = .ok (g d, Γ.set k (.v d)) := by unfold mFz1; rw [h2]; rfl
    have hl2 : acc.length < SZ := by simp at hl; omega
    have e2 : wipeE (Γ.set k (.v d)) [k] = Γ := by
      show (Γ.set k (.v d)).set k .no = Γ
      rw [List.set_set, hΓ]
    show (nox (t (Γ.set k (.v d)))).bind (fun x => if x.1 = true then (nox (mFz1 em x.2)).bind (fun y => if acc.length < SZ then mLcL (gN k) t em [k] ds (wipeE y.2 [k]) (acc ++ [y.1]) else .bad) else mLcL (gN k) t em [k] ds (wipeE x.2 [k]) acc) = _
    rw [h1]
    show (nox (mFz1 em (Γ.set k (.v d)))).bind (fun y => if acc.length < SZ then mLcL (gN k) t em [k] ds (wipeE y.2 [k]) (acc ++ [y.1]) else .bad) = _
    rw [e1]
    show (if acc.length < SZ then mLcL (gN k) t em [k] ds (wipeE (Γ.set k (.v d)) [k]) (acc ++ [g d]) else .bad) = _
    rw [if_pos hl2, e2, mLcL_map hΓ ds _ (fun x hx => h x (List.mem_cons_of_mem _ hx)) (by simp at hl ⊢; omega)]
    simp
theorem blsOf_map (g : Nat → Bool) : ∀ cs : List Nat, blsOf (cs.map fun c => .bl (g c)) = some (cs.map g)
  | [] => rfl
  | c :: cs => by
    show (blsOf (cs.map fun c => .bl (g c))).map (g c :: ·) = _
    rw [blsOf_map g cs]; rfl
theorem all_sg {k : Nat} {em : En → R (BV × En)} {g : Nat → Bool} {Γ : En} {w : Str} {mi : En → R (List D × En)} (hΓ : Γ.set k .no = Γ) (hi : mi Γ = .ok (sgs w, Γ)) (hw : w.length ≤ 1000) (h : ∀ c, em (Γ.set k (.v (.str ⟨#[c]⟩))) = .ok (.v (.bl (g c)), Γ.set k (.v (.str ⟨#[c]⟩)))) :
    mB fAll (mA1 (mLc mi (gN k) mYes em [k]) mA0) Γ = .ok (.v (.bl (w.cps.toList.all g)), Γ) := by
  have hl : w.cps.toList.length = w.length := Array.length_toList
  have e : mLc mi (gN k) mYes em [k] Γ = .ok (.o (w.cps.toList.map fun c => .bl (g c)), Γ) := by
    unfold mLc
    rw [hi]
    show R.bind (mLcL (gN k) mYes em [k] (sgs w) (Γ.set k .no) []) _ = _
    rw [hΓ]
    unfold sgs
    rw [mLcL_all hΓ h _ [] (by simp only [List.length_nil, hl]; unfold SZ; omega)]
    rfl
  have e2 : mA1 (mLc mi (gN k) mYes em [k]) mA0 Γ = .ok ([.v (.lst (w.cps.toList.map fun c => .bl (g c)))], Γ) := by
    unfold mA1; rw [e]; rfl
  unfold mB
  rw [e2]
  show (match fAll [.lst (w.cps.toList.map fun c => .bl (g c))] with | some nw => R.ok (nw.bv, Γ) | none => .bad) = _
  unfold fAll
  dsimp only
  rw [blsOf_map]
  show R.ok (BV.v (.bl ((w.cps.toList.map g).all id)), Γ) = _
  rw [List.all_map]; rfl
section
variable {Γ Γ1 Γ2 : En} {a b : En → R Fl} {mt : En → R (Bool × En)} {m : En → R (BV × En)} {w : Nw} {c : Str} {fs : List (Str × D)} {d : D} {i j : Nat} {e : Int} {bb : Bt}
theorem a1_ok {mr : En → R (List BV × En)} {x : BV} {ys : List BV} (h : m Γ = .ok (x, Γ1)) (k : mr Γ1 = .ok (ys, Γ2)) : mA1 m mr Γ = .ok (x.fz :: ys, Γ2) := by
  unfold mA1
  rw [h]
  show R.bind (mr Γ1) _ = _
  rw [k]; rfl
theorem if_1 (h : mt Γ = .ok (true, Γ1)) : mIf mt a b Γ = a Γ1 := by unfold mIf; rw [h]; simp only [R.bind, if_true]
theorem if_0 (h : mt Γ = .ok (false, Γ1)) : mIf mt a b Γ = b Γ1 := by unfold mIf; rw [h]; simp only [R.bind, Bool.false_eq_true, if_false]
theorem seq_n (h : a Γ = .ok (.nx Γ1)) : mSeq a b Γ = b Γ1 := by unfold mSeq; rw [h]; rfl
theorem seq_r (h : a Γ = .ok (.rt w Γ1)) : mSeq a b Γ = .ok (.rt w Γ1) := by unfold mSeq; rw [h]; rfl
theorem seq_x (h : a Γ = .exc c fs) : mSeq a b Γ = .exc c fs := by unfold mSeq; rw [h]; rfl
theorem set_x (h : m Γ = .exc c fs) : mSet i m Γ = .exc c fs := by unfold mSet; rw [h]; rfl
theorem wh_0 (n : Nat) (h : mt Γ = .ok (false, Γ1)) : mWh mt b (n + 1) Γ = .ok (.nx Γ1) := by
  unfold mWh; rw [h]; simp only [R.bind, Bool.false_eq_true, if_false]
theorem wh_1 (n : Nat) (h : mt Γ = .ok (true, Γ1)) (k : b Γ1 = .ok (.nx Γ2)) : mWh mt b (n + 1) Γ = mWh mt b n Γ2 := by
  rw [mWh, h]
  simp only [R.bind, if_true, k]
theorem wh_x (n : Nat) (h : mt Γ = .ok (true, Γ1)) (k : b Γ1 = .exc c fs) : mWh mt b (n + 1) Γ = .exc c fs := by
  rw [mWh, h]
  simp only [R.bind, if_true, k]
theorem fin_S {mb : En → R Fl} {n : Nat} (h : mb (S bb i e :: List.replicate n .no) = .ok (.rt (.v d) (S bb j e :: Γ))) : finS 0 mb n (S bb i e) [] = .ok (.v d, S bb j e) := by
  unfold finS
  rw [if_pos (show ([] : List D).length = 0 from rfl)]
  show R.bind (mb (S bb i e :: List.replicate n .no)) _ = _
  rw [h]; rfl
theorem fin_Sx {mb : En → R Fl} {n : Nat} (h : mb (S bb i e :: List.replicate n .no) = .exc c fs) : finS 0 mb n (S bb i e) [] = .exc c fs := by
  unfold finS
  rw [if_pos (show ([] : List D).length = 0 from rfl)]
  show R.bind (mb (S bb i e :: List.replicate n .no)) _ = _
  rw [h]; rfl
end
def xB (a : Int) : List (Str × D) := [("at", .int a), ("word", .str "BadText")]
inductive Tr where
  | name (s : Str) | num (n : Int) | turned (t : Tr) | power (t : Tr) (n : Int) | bin (w : Str) (a b : Tr)
def eT : Tr → D
  | .name s => .tup [.str "name", .str s]
  | .num n => .tup [.str "number", .int n]
  | .turned t => .tup [.str "turned", eT t]
  | .power t n => .tup [.str "power", eT t, .int n]
  | .bin w a b => .tup [.str w, eT a, eT b]
abbrev PR := Option (Except Nat (Tr × Nat))
def signs (w : Str) : List Nat := w.cps.toList
def nameW (w : Str) : Bool := decide (1 ≤ w.length) && decide (w.length ≤ 8) && (signs w).all fun c => decide (c ∈ signs "abcdefghijklmnopqrstuvwxyz")
def figs (w : Str) : Bool := decide (1 ≤ w.length) && decide (w.length ≤ 6) && (signs w).all fun c => decide (c ∈ signs "0123456789")
def numB (w : Str) : Bool := figs w && (decide (w = "0") || !decide ((signs w).head? = some 48))
def numW (w : Str) : Option Int := if numB w = true then intText? w else none
def neg (f : Nat → Str) (i : Nat) : Bool := decide (f i = "-")
def pPowL (f : Nat → Str) : Nat → Tr → Nat → PR
  | 0, _, _ => none
  | n + 1, t, i => if f i = "'" then pPowL f n (.turned t) (i + 1) else if f i = "^" then
      (match numW (f (i + 1 + (neg f (i + 1)).toNat)) with
      | some v => pPowL f n (.power t (if neg f (i + 1) = true then 0 - v else v)) (i + 1 + (neg f (i + 1)).toNat + 1)
      | none => some (.error (i + 1 + (neg f (i + 1)).toNat))) else some (.ok (t, i))
def ops (kvs : List (Str × Str)) (f : Nat → Str) (p : Nat → PR) : Nat → Tr → Nat → PR
  | 0, _, _ => none
  | n + 1, t, i => match lkS kvs (f i) with
    | none => some (.ok (t, i))
    | some w => match p (i + 1) with
      | none => none
      | some (.error j) => some (.error j)
      | some (.ok (u, j)) => ops kvs f p n (.bin w t u) j
def then' (r : PR) (k : Tr → Nat → PR) : PR := match r with
  | none => none
  | some (.error j) => some (.error j)
  | some (.ok (t, j)) => k t j
def kP : List (Str × Str) := [("*", "times"), ("/", "over")]
def kS : List (Str × Str) := [("+", "plus"), ("-", "minus")]
def pPow (f : Nat → Str) (N : Nat) (pa : Nat → PR) (i : Nat) : PR := then' (pa i) (pPowL f N)
def pProd (f : Nat → Str) (N : Nat) (pa : Nat → PR) (i : Nat) : PR := then' (pPow f N pa i) (ops kP f (pPow f N pa) N)
def pSum (f : Nat → Str) (N : Nat) (pa : Nat → PR) (i : Nat) : PR := then' (pProd f N pa i) (ops kS f (pProd f N pa) N)
def pAtom (f : Nat → Str) (N : Nat) : Nat → Nat → PR
  | 0, _ => none
  | k + 1, i => if nameW (f i) = true then some (.ok (.name (f i), i + 1)) else if f i = "(" then
      then' (pSum f N (pAtom f N k) (i + 1)) fun t j => if f j = ")" then some (.ok (t, j + 1)) else some (.error j)
    else match numW (f i) with
      | some v => some (.ok (.num v, i + 1))
      | none => some (.error i)
def pRead (f : Nat → Str) (N K : Nat) : Option (Except Nat Tr) := match pSum f N (pAtom f N K) 0 with
  | none => none
  | some (.error j) => some (.error j)
  | some (.ok (t, j)) => if f j = "" then some (.ok t) else some (.error j)
def Tells (b : Bt) (e : Int) (p : PR) (r : R (Nw × Sl)) : Prop := match p with
  | none => True
  | some (.error j) => r = .exc "BadText" (xB (wr b e j))
  | some (.ok (t, j)) => r = .ok (.v (eT t), S b j e)
def Ends2 (b : Bt) (e : Int) (p : PR) (r : R Fl) : Prop := match p with
  | none => True
  | some (.error j) => r = .exc "BadText" (xB (wr b e j))
  | some (.ok (t, j)) => ∃ x y, r = .ok (.nx [S b j e, .v (eT t), x, y])
def Ends1 (b : Bt) (e : Int) (p : PR) (r : R Fl) : Prop := match p with
  | none => True
  | some (.error j) => r = .exc "BadText" (xB (wr b e j))
  | some (.ok (t, j)) => ∃ x, r = .ok (.nx [S b j e, .v (eT t), x])
end Tg
namespace Ty
open PySem Rg
abbrev Env := Rg.Env
def eT {α : Type} (e : α → D) (xs : List α) : D := .tup (xs.map e)
def eL {α : Type} (e : α → D) (xs : List α) : D := .lst (xs.map e)
def eP {α β : Type} (e : α → D) (f : β → D) (x : α × β) : D := .tup [e x.1, f x.2]
def sm (a b : Int) : Prop := (-(2 ^ 64) < a ∧ a < 2 ^ 64) ∨ (-(2 ^ 64) < b ∧ b < 2 ^ 64)
def Sim {α β : Type} (r : R α) (m : R β) (Q : α → β → Prop) : Prop := match r with
  | .ok a => ∃ b, m = .ok b ∧ Q a b
  | .exc c fs => m = .exc c fs ∧ lfFs fs = true
  | .bad => True
section
variable {α β γ δ : Type} {r : R α} {m : R β} {Q : α → β → Prop} {Q' : γ → δ → Prop}
theorem Sim.bind {f : α → R γ} {g : β → R δ} (h : Sim r m Q) (k : ∀ a b, Q a b → Sim (f a) (g b) Q') : Sim (r.bind f) (m.bind g) Q' := by
  cases r with
  | ok a => obtain ⟨b, rfl, q⟩ := h; exact k a b q
  | exc c fs => obtain ⟨rfl, q⟩ := h; exact ⟨rfl, q⟩
  | bad => trivial
theorem Sim.imp {Q2 : α → β → Prop} (h : Sim r m Q) (k : ∀ a b, Q a b → Q2 a b) : Sim r m Q2 := by
  cases r with
  | ok a => obtain ⟨b, rfl, q⟩ := h; exact ⟨b, rfl, k a b q⟩
  | exc c fs => exact h
  | bad => trivial
theorem Sim.exc {c : Str} {fs : List (Str × D)} (h : Sim r m Q) (e : r = .exc c fs) : m = .exc c fs := by rw [e] at h; exact h.1
end
inductive SP where
  | x | s (sl : Sl) | r (xs : List D)
def SP.ok : SP → Sl → Prop
  | .x, _ => True
  | .s a, b => b = a
  | .r xs, b => b = .o xs ∨ b = .v (.lst xs)
inductive Rep : List SP → Env → Prop
  | nil : Rep [] []
  | cons {p : SP} {ps : List SP} {s : Sl} {Γ : Env} : p.ok s → Rep ps Γ → Rep (p :: ps) (s :: Γ)
def gp : List SP → Nat → SP
  | [], _ => .x
  | p :: _, 0 => p
  | _ :: ps, i + 1 => gp ps i
theorem Rep.set {ps : List SP} {Γ : Env} {p : SP} {s : Sl} (h : Rep ps Γ) (hp : p.ok s) : ∀ i, Rep (ps.set i p) (Γ.set i s) := by
  induction h with
  | nil => intro i; exact .nil
  | cons h1 h2 ih => intro i; cases i with
    | zero => exact .cons hp h2
    | succ i => exact .cons h1 (ih i)
theorem gp_set {p : SP} : ∀ {ps : List SP} {i : Nat}, gp ps i = p → p = .x ∨ ps.set i p = ps
  | [], _, _ => .inr rfl
  | _ :: _, 0, h => .inr (by rw [← h]; rfl)
  | q :: ps, i + 1, h => (gp_set (ps := ps) (i := i) h).elim .inl fun e => .inr (congrArg (q :: ·) e)
theorem Rep.same {ps : List SP} {Γ : Env} {p : SP} {s : Sl} {i : Nat} (h : Rep ps Γ) (e : gp ps i = p) (hp : p.ok s) : Rep ps (Γ.set i s) := by
  have := h.set hp i
  rcases gp_set e with q | q
  · subst q
    have h2 := this
    clear this
    revert i
    induction h with
    | nil => intro i _ _; exact .nil
    | cons a b ih =>
      intro i e h2
      cases i with
      | zero =>
        have q : _ = SP.x := e
        subst q
        cases h2 with | cons c d => exact .cons trivial d
      | succ i => cases h2 with | cons c d => exact .cons a (ih e d)
  · rwa [q] at this
inductive Wk : List SP → List SP → Prop
  | nil : Wk [] []
  | same {p : SP} {ps qs : List SP} : Wk ps qs → Wk (p :: ps) (p :: qs)
  | x {p : SP} {ps qs : List SP} : Wk ps qs → Wk (p :: ps) (.x :: qs)
  | o {xs : List D} {ps qs : List SP} : Wk ps qs → Wk (.s (.o xs) :: ps) (.r xs :: qs)
  | v {xs : List D} {ps qs : List SP} : Wk ps qs → Wk (.s (.v (.lst xs)) :: ps) (.r xs :: qs)
theorem Rep.weak {ps qs : List SP} (w : Wk ps qs) : ∀ {Γ : Env}, Rep ps Γ → Rep qs Γ := by
  induction w with
  | nil => exact fun h => h
  | same _ ih => intro Γ h; cases h with | cons a b => exact .cons a (ih b)
  | x _ ih => intro Γ h; cases h with | cons a b => exact .cons trivial (ih b)
  | o _ ih => intro Γ h; cases h with | cons a b => exact .cons (.inl a) (ih b)
  | v _ ih => intro Γ h; cases h with | cons a b => exact .cons (.inr a) (ih b)
inductive BS where
  | v (d : D) | o (xs : List D) | s (i : Nat) (xs : List D) | t (i : Nat) (xs : List D)
def BS.ok : BS → BV → Prop
  | .v d, b => b = .v d
  | .o xs, b => b = .o xs
  | .s i _, b => b = .s i
  | .t i xs, b => b = .s i ∨ b = .v (.lst xs)
def BS.fz : BS → BS
  | .o xs => .v (.lst xs)
  | b => b
theorem BS.ok.fz {b : BS} {c : BV} (h : b.ok c) : b.fz.ok c.fz := by
  cases b with
  | v d => obtain rfl := h; rfl
  | o d => obtain rfl := h; rfl
  | s i xs => obtain rfl := h; rfl
  | t i xs =>
    rcases h with rfl | rfl
    · exact .inl rfl
    · exact .inr rfl
inductive BA : List BS → List BV → Prop
  | nil : BA [] []
  | cons {b : BS} {bs : List BS} {c : BV} {cs : List BV} : b.ok c → BA bs cs → BA (b :: bs) (c :: cs)
theorem BA.app {as bs : List BS} {cs ds : List BV} (h : BA as cs) (k : BA bs ds) : BA (as ++ bs) (cs ++ ds) := by
  induction h with
  | nil => exact k
  | cons a _ ih => exact .cons a ih
def PXE (ps : List SP) (m : Env → R (BV × Env)) (b : BS) (ps' : List SP) : Prop := ∀ Γ, Rep ps Γ → ∃ c Γ', m Γ = .ok (c, Γ') ∧ b.ok c ∧ Rep ps' Γ'
def PX (ps : List SP) (m : Env → R (BV × Env)) (b : BS) : Prop := ∀ Γ, Rep ps Γ → ∃ c, m Γ = .ok (c, Γ) ∧ b.ok c
section
variable {ps ps' ps2 : List SP} {m m2 : Env → R (BV × Env)} {ma mb : Env → R (List BV × Env)} {mc md : Env → R (Bool × Env)} {b : BS} {bs cs : List BS} {d d2 : D} {xs ys : List D} {i : Nat}
theorem PX.e (h : PX ps m b) : PXE ps m b ps := fun Γ r => let ⟨c, h1, h2⟩ := h Γ r; ⟨c, Γ, h1, h2, r⟩
end
end Ty
namespace Ty
open PySem Rg
theorem sim_eq {α β : Type} {r0 : R α} {x y : R β} {Q : α → β → Prop} (e : x = y) (k : Sim r0 y Q) : Sim r0 x Q := e ▸ k
theorem bnd {α β γ : Type} (x : R α) (f : α → R β) (g : β → R γ) : (x.bind f).bind g = x.bind fun a => (f a).bind g := by
  cases x <;> rfl
section
variable {α β γ σ ρ : Type} {ps ps' qs : List SP} {m m2 mo : Env → R (BV × Env)} {ma mb mas : Env → R (List BV × Env)} {mc md : Env → R (Bool × Env)} {b : BS} {bs cs : List BS} {d d2 : D} {xs ys ds : List D} {i : Nat} {Γ : Env} {r0 : R α} {Q : α → γ → Prop}
theorem ntD_eT {α : Type} {e : α → D} (h : ∀ x, ntD (e x) = true) (xs : List α) : ntD (eT e xs) = true := (ntD_tup _).trans (ntA_mp h xs)
theorem ntD_eL {α : Type} {e : α → D} (h : ∀ x, ntD (e x) = true) (xs : List α) : ntD (eL e xs) = true := (ntD_lst _).trans (ntA_mp h xs)
theorem ntD_eP {α β : Type} {e : α → D} {f : β → D} (h : ∀ x, ntD (e x) = true) (h2 : ∀ x, ntD (f x) = true) (x : α × β) : ntD (eP e f x) = true := by
  rw [eP, ntD_tup, ntA_cons, ntA_cons, h, h2, ntA]; rfl
theorem ntD_int (i : Int) : ntD (.int i) = true := by simp [ntD]
def kT (K : Bool × Env → R γ) : BV × Env → R γ := fun x => match x.1 with
  | .v (.bl v) => K (v, x.2)
  | _ => .bad
theorem cT {K : Bool × Env → R γ} (k : Sim r0 ((m Γ).bind (kT K)) Q) : Sim r0 ((mT m Γ).bind K) Q := by
  unfold mT; rw [bnd]
  refine sim_eq (congrArg (R.bind (m Γ)) (funext fun x => ?_)) k
  unfold kT
  cases x.1 with
  | v d => cases d <;> rfl
  | _ => rfl
end
section
variable {α β γ σ ρ : Type} {ps ps' qs : List SP} {m m2 mo : Env → R (BV × Env)} {ma mb mas : Env → R (List BV × Env)} {mc md : Env → R (Bool × Env)} {b : BS} {bs cs : List BS} {d d2 : D} {xs ys ds : List D} {i j : Nat} {Γ : Env} {r0 r1 r2 : R α} {Q : α → Fl → Prop} {A B c : Env → R Fl}
end
end Ty
namespace Ty
open PySem Rg
section
variable {α β γ σ ρ : Type} {ps ps' ps2 qs : List SP} {m m2 mo me : Env → R (BV × Env)} {ma mb mas : Env → R (List BV × Env)} {mc md mt : Env → R (Bool × Env)} {mi : Env → R (List D × Env)} {bs cs : List BS} {d d2 : D} {xs ys ds : List D} {i j : Nat} {Γ : Env} {r0 r1 r2 : R α} {f : D → Env → Option Env} {vs : List Nat}
theorem PXE.p {b : BS} (h : PXE ps m b ps) (k : ∀ Γ c Γ', Rep ps Γ → m Γ = .ok (c, Γ') → Γ' = Γ) : PX ps m b := fun Γ r => by
  obtain ⟨c, Γ', e, h1, _⟩ := h Γ r
  obtain rfl := k Γ c Γ' r e
  exact ⟨c, e, h1⟩
end
section
variable {α β γ σ ρ : Type} {ps ps' qs : List SP} {m m2 mo me : Env → R (BV × Env)} {ma mb mas : Env → R (List BV × Env)} {mc : Env → R (Bool × Env)} {mi : Env → R (List D × Env)} {bs : List BS} {d d2 : D} {xs ys ds : List D} {i j : Nat} {Γ : Env} {r0 r1 r2 : R γ} {Q : γ → Fl → Prop} {f : D → Env → Option Env} {B c : Env → R Fl}
end
section
variable {α : Type} {m : Env → R Fl} {ds : List D} {n k : Nat} {en : α → Nw} {P : R α}
end
end Ty
namespace Ty
open PySem Rg Rm
section
variable {α β γ : Type}
theorem n_int {i j : Int} : fNe [.int i, .int j] = some (.v (.bl (!decide (i = j)))) := fNe_int i j
end
end Ty
namespace Ty
open PySem Rg Rm Mn
section
variable {α β γ σ ρ : Type} {ps ps' qs : List SP} {m m2 mo me : Env → R (BV × Env)} {ma mb mas : Env → R (List BV × Env)} {mc md : Env → R (Bool × Env)} {b : BS} {bs cs : List BS} {d d2 : D} {xs ys ds : List D} {i j : Nat} {Γ : Env} {r0 r1 r2 : R α} {Q : α → γ → Prop}
end
section
variable {α β γ σ ρ : Type} {ps ps' qs : List SP} {m m2 mo me : Env → R (BV × Env)} {ma mb mas : Env → R (List BV × Env)} {mc md : Env → R (Bool × Env)} {b : BS} {bs cs : List BS} {d d2 : D} {xs ys ds : List D} {i j : Nat} {Γ : Env} {r0 r1 r2 : R α} {Q : α → Fl → Prop} {A B c : Env → R Fl} {f : D → Env → Option Env} {st : List (Nat × D)}
end
section
variable {α β γ σ ρ : Type} {ps ps' qs : List SP} {m m2 mo me : Env → R (BV × Env)} {Γ : Env} {r0 : R α} {Q : α → γ → Prop}
def hideP : List SP → List SP
  | [] => []
  | .s (.v d) :: ps => .s (.v d) :: hideP ps
  | _ :: ps => .x :: hideP ps
theorem Rep.hide {ps : List SP} {Γ : Env} (h : Rep ps Γ) : Rep (hideP ps) (Rg.hide Γ) := by
  induction h with
  | nil => exact .nil
  | cons a b ih =>
    rename_i p ps s Γ
    cases p with
    | x => exact .cons trivial ih
    | r xs => exact .cons trivial ih
    | s sl =>
      cases sl with
      | v d =>
        have a : s = .v d := a
        subst a
        exact .cons rfl ih
      | no => exact .cons trivial ih
      | o _ => exact .cons trivial ih
      | m _ _ => exact .cons trivial ih
      | i _ _ _ _ => exact .cons trivial ih
end
structure Fd where
  r : List Int
  p : Int
  n : Int
  fo : List (List Int)
  sw : List (List Int)
def eF (f : Fd) : D := .ins "Field" nsF [vD f.r, .int f.p, .int f.n, .lst (f.fo.map vD), .lst (f.sw.map vD)]
theorem ntD_eF (f : Fd) : ntD (eF f) = true := by
  rw [eF, ntD_ins]
  have h : twB nsF = false := twB_r _
  rw [h]
  simp only [ntA_cons, ntD_vD, ntD_int, ntD_lst, ntA_mp ntD_vD, ntA, Bool.and_self, Bool.not_false]
end Ty
namespace Ty
open PySem Rg
section
variable {α : Type} {ps ps' : List SP} {m : Env → R (BV × Env)} {d : D} {i j : Nat} {Γ : Env} {r0 : R α} {Q : α → Fl → Prop} {c : Env → R Fl}
end
end Ty
namespace Ty
open PySem Rg
inductive AskL (kn : List Str) (lt : List LamB) (z : Cells) (ms : List (Env → R (BV × Env))) (ps : List SP) : List D → List (R (D × D)) → Prop
  | nil : AskL kn lt z ms ps [] []
  | cons {k : Nat} {m : Env → R (BV × Env)} {F : R (D × D)} {ds : List D} {Fs : List (R (D × D))} : ms[k]? = some m → (∀ Γ, Rep ps Γ → Sim F (mPair kn m Γ) (fun p q => q = p)) → AskL kn lt z ms ps ds Fs → AskL kn lt z ms ps (.fn k (lt.getD k default) z :: ds) (F :: Fs)
theorem AskL.len {kn : List Str} {lt : List LamB} {z : Cells} {ms : List (Env → R (BV × Env))} {ps : List SP} {ds : List D} {Fs : List (R (D × D))} (h : AskL kn lt z ms ps ds Fs) : ds.length = Fs.length := by
  induction h with
  | nil => rfl
  | cons _ _ _ ih => simp [ih]
section
variable {α γ δ : Type} {ps ps' : List SP} {Γ : Env} {mi : Env → R (List D × Env)} {kn : List Str} {lt : List LamB} {z : Cells} {ms : List (Env → R (BV × Env))} {w : Nat} {f0 : D × D → D} {ds : List D} {Fs : List (R (D × D))} {R0 : List D → R δ} {K : BV × Env → R γ} {Q : δ → γ → Prop}
end
section
variable {α : Type} {ps ps' : List SP} {Γ : Env} {m : Env → R (BV × Env)} {i : Nat} {xs ys zs v : List D} {r0 : R α} {Q : α → Fl → Prop} {c : Env → R Fl}
end
section
variable {α γ : Type} {ps : List SP} {Γ : Env} {ma mb mc : Env → R (BV × Env)} {p q : Int → Int → Bool} {a b : Int} {K : BV × Env → R γ} {r0 R1 R2 : R α} {Q : α → γ → Prop}
end
end Ty
namespace Ty
open PySem Rg Rm Mn
end Ty
namespace Ty
open PySem Rg Rm Mn
section
variable {α β γ : Type} {ps : List SP} {m : Env → R (BV × Env)} {Q : β → γ → Prop} {mm : R γ}
end
section
variable {α β : Type} {ps : List SP} {Γ : Env} {Q : β → Fl → Prop} {c : Env → R Fl}
end
section
variable {α β γ : Type} {ps : List SP} {bs : List BS} {ds : List D} {Γ : Env} {Q : α → γ → Prop} {ma : Env → R (List BV × Env)} {r0 : R α}
end
section
variable {α β γ : Type} {ps : List SP} {Γ : Env} {Q : α → γ → Prop} {mi : Env → R (List D × Env)} {m : Env → R (BV × Env)} {r0 : R α} {f : D → Env → Option Env} {t : Env → R (Bool × Env)} {el : Env → R (BV × Env)} {vs : List Nat}
end
end Ty
namespace Ty
open PySem Rg Rm Mn
end Ty
namespace Ty
open PySem Rg Rm Mn
section
variable {α β γ δ : Type} {f : D → Env → Option Env} {mt : Env → R (Bool × Env)} {me : Env → R (BV × Env)} {mi : Env → R (List D × Env)} {vs : List Nat} {ps ps' p0 : List SP} {Γ : Env}
end
section
variable {α β γ : Type} {ps : List SP} {Γ : Env} {Q : β → γ → Prop} {r0 : R β} {i : Nat} {xs : List D} {d : D} {m : Env → R (BV × Env)}
end
end Ty
namespace Ty
open PySem Rg Rm Mn
section
variable {α β γ : Type} {ps : List SP} {Q : β → γ → Prop} {mm : R γ}
end
section
variable {α γ : Type} {ps ps' : List SP} {bs : List BS} {Γ : Env} {Q : α → γ → Prop} {r0 : R α} {ma : Env → R (List BV × Env)}
end
section
variable {ps ps' ps2 : List SP} {m : Env → R (BV × Env)} {ma mb : Env → R (List BV × Env)} {bs cs : List BS} {d : D} {i : Nat} {xs : List D}
end
end Ty
namespace Ty
open PySem Rg Rm Mn
section
variable {β γ : Type}
end
section
variable {α β γ : Type} {ps : List SP} {i : Nat} {mi me : Env → R (BV × Env)} {c : Env → R Fl} {Γ : Env} {Q : β → Fl → Prop}
end
end Ty
namespace Ty
open PySem Rg Rm Mn
section
variable {ps : List SP} {mo : Env → R (BV × Env)} {ma : Env → R (List BV × Env)} {b : BS} {bs : List BS} {d : D} {ds : List D}
end
end Ty
namespace Ty
open Rg
section
variable {α : Type} {ps ps' : List SP} {Γ : Env} {ma : Env → R (List BV × Env)} {i j l : Nat} {r0 : R α} {Q : α → Fl → Prop} {c : Env → R Fl} {d d2 d3 : D}
end
end Ty
namespace Ty
open PySem Rg
section
variable {α : Type} {ps ps' : List SP} {Γ : Env} {ma : Env → R (List BV × Env)} {r0 : R α} {Q : α → Fl → Prop} {c : Env → R Fl} {c0 : Str} {ks : List Str}
end
end Ty
namespace Ty
open PySem Rg Rm Mn
end Ty
namespace Ty
open PySem Rg Rm Mn
end Ty
namespace Ty
open PySem Rg Rm Mn
section
variable {α β γ : Type} {ps : List SP} {Γ : Env} {ma mb : Env → R (BV × Env)} {r0 : R α} {Q : α → γ → Prop} {vs : List BV} {bs : List BS}
end
end Ty
namespace Ty
open PySem Rg Rm Mn
section
variable {α β γ : Type} {ps : List SP} {Γ : Env} {ma mb : Env → R (BV × Env)} {r0 : R α} {Q : α → γ → Prop} {vs : List BV} {bs : List BS}
end
end Ty
namespace Ty
open PySem Rg Rm Mn
theorem txts_map : ∀ l : List Str, txts (l.map D.str) = some l
  | [] => rfl
  | s :: l => by
    rw [List.map_cons, txts, txts_map l]; rfl
end Ty
namespace Ty
open PySem Rg Rm Mn
theorem o_lenS {a : Str} (h : a.length ≤ SZ) : fLenS [.str a] = some (.v (.int a.length)) := if_pos h
theorem o_mulS {a : Str} {n : Int} (h : MulOk a n) : fMulS [.str a, .int n] = some (.v (.str (Txt.mul a n))) := if_pos h
theorem o_slHS {a : Str} {i : Int} (h : a.length ≤ SZ) : fSlHS [.str a, .int i] = some (.v (.str (L2.cutS a none (some i)))) := if_pos h
theorem o_slLS {a : Str} {i : Int} (h : a.length ≤ SZ) : fSlLS [.str a, .int i] = some (.v (.str (L2.cutS a (some i) none))) := if_pos h
theorem eqD_str (a b : Str) : eqD (.str a) (.str b) = decide (a = b) := by
  show (PyData.eqv (.str a) (.str b)) = _
  unfold PyData.eqv
  by_cases h : a = b
  · rw [h]; simp
  · rw [decide_eq_false h]; simpa using h
theorem q_str {a b : Str} (h : PyData.strOk a = true ∧ PyData.strOk b = true) : fEq [.str a, .str b] = some (.v (.bl (decide (a = b)))) := by
  simp [fEq, shp_str h.1, shp_str h.2, eqD_str]
theorem n_str {a b : Str} (h : PyData.strOk a = true ∧ PyData.strOk b = true) : fNe [.str a, .str b] = some (.v (.bl (!decide (a = b)))) := by
  simp [fNe, shp_str h.1, shp_str h.2, eqD_str]
section
variable {α β γ : Type} {ps : List SP} {mo : Env → R (BV × Env)} {ma : Env → R (List BV × Env)} {b : BS} {bs : List BS} {d : D} {ds : List D} {r0 : R α} {Q : α → γ → Prop} {Γ : Env}
end
section
variable {ps ps' : List SP} {m : Env → R (BV × Env)}
end
end Ty
namespace Tg
open PySem Rg
inductive Q4 where
  | part | behind | power | figures
deriving DecidableEq
def stp (q : Q4) (d : Nat) (w : Str) : Option (Q4 × Nat) := match q with
  | .part => if (nameW w || numB w) = true then some (.behind, d) else if w = "(" then some (.part, d + 1) else none
  | .behind => if w = "+" ∨ w = "-" ∨ w = "*" ∨ w = "/" then some (.part, d) else if w = ")" ∧ 0 < d then some (.behind, d - 1) else if w = "^" then some (.power, d) else if w = "'" then some (.behind, d) else none
  | .power => if w = "-" then some (.figures, d) else if numB w = true then some (.behind, d) else none
  | .figures => if numB w = true then some (.behind, d) else none
inductive Run (f : Nat → Str) : Q4 → Nat → Nat → Q4 → Nat → Nat → Prop where
  | refl {q d i} : Run f q d i q d i
  | step {q d i q' d' q2 d2 j} : stp q d (f i) = some (q', d') → Run f q' d' (i + 1) q2 d2 j → Run f q d i q2 d2 j
section
variable {f : Nat → Str}
theorem Run.trans {q1 q2 q3 : Q4} {d1 d2 d3 i j k : Nat} (h : Run f q1 d1 i q2 d2 j) (g : Run f q2 d2 j q3 d3 k) : Run f q1 d1 i q3 d3 k := by
  induction h with
  | refl => exact g
  | step s _ ih => exact .step s (ih g)
def Good (f : Nat → Str) (p : PR) (q : Q4) (d i : Nat) (C : Str → Prop) : Prop := match p with
  | none => True
  | some (.error j) => ∃ q' d', Run f q d i q' d' j ∧ stp q' d' (f j) = none ∧ (q' = .behind → 0 < d')
  | some (.ok (_, j)) => Run f q d i .behind d j ∧ C (f j)
theorem Good.from {p : PR} {q q1 : Q4} {d i i1 : Nat} {C : Str → Prop} (h : Good f p q d i C) (r : Run f q1 d i1 q d i) : Good f p q1 d i1 C := by
  unfold Good at *
  split at h
  · trivial
  · obtain ⟨q', d', a, b, c⟩ := h
    exact ⟨q', d', r.trans a, b, c⟩
  · exact ⟨r.trans h.1, h.2⟩
theorem Good.imp {p : PR} {q : Q4} {d i : Nat} {C C' : Str → Prop} (h : Good f p q d i C) (k : ∀ w, C w → C' w) : Good f p q d i C' := by
  unfold Good at *
  split at h
  · trivial
  · exact h
  · exact ⟨h.1, k _ h.2⟩
theorem Good.then {p : PR} {k : Tr → Nat → PR} {q : Q4} {d i : Nat} {C C' : Str → Prop} (h : Good f p q d i C) (hk : ∀ t j, C (f j) → Good f (k t j) .behind d j C') : Good f (then' p k) q d i C' := by
  unfold then'
  split
  · trivial
  · exact h
  · rename_i t j
    exact (hk t j h.2).from h.1
theorem num_some {w : Str} (h : numB w = true) : ∃ v, numW w = some v := by
  unfold numW
  rw [if_pos h]
  have hf : figs w = true := (Bool.and_eq_true_iff.mp h).1
  unfold figs at hf
  simp only [Bool.and_eq_true, decide_eq_true_eq] at hf
  have hs : signs "0123456789" = [48, 49, 50, 51, 52, 53, 54, 55, 56, 57] := by decide +kernel
  refine ⟨_, intText_digits (x := w) (fun c hc => ?_) (fun z => ?_) (by omega)⟩
  · have := List.all_eq_true.mp hf.2 c hc
    rw [hs] at this
    have := of_decide_eq_true this
    simp only [List.mem_cons, List.not_mem_nil, or_false] at this
    omega
  · have e : w.cps.toList.length = w.length := Array.length_toList
    rw [z] at e
    have := hf.1.1
    simp at e
    omega
theorem n_e : numW "" = none := by decide +kernel
abbrev CP : Str → Prop := fun w => w ≠ "'" ∧ w ≠ "^"
abbrev CQ : Str → Prop := fun w => (CP w ∧ lkS kP w = none) ∧ lkS kS w = none
end
section
variable {b : Bt} (hb : ∀ x ∈ b, x.1 ≠ ("" : Str))
theorem hd_lt {i : Nat} (h : i < b.length) : hd b i = (b[i]).1 := by
  unfold hd
  rw [List.getElem?_eq_getElem h]; rfl
theorem wr_lt {e : Int} {i : Nat} (h : i < b.length) : wr b e i = (b[i]).2 := by
  unfold wr
  rw [List.getElem?_eq_getElem h]; rfl
theorem hd_ge {i : Nat} (h : b.length ≤ i) : hd b i = "" := by
  unfold hd
  rw [List.getElem?_eq_none h]; rfl
theorem wr_ge {e : Int} {i : Nat} (h : b.length ≤ i) : wr b e i = e := by
  unfold wr
  rw [List.getElem?_eq_none h]; rfl
theorem lt_of_ne {i : Nat} (h : hd b i ≠ "") : i < b.length := Decidable.byContradiction fun z => h (hd_ge (by omega))
def cb (b : Bt) (i : Nat) : Nat := (b.drop i).countP fun x => decide (x.1 = ("(" : Str))
theorem cb_le {i j : Nat} (h : i ≤ j) : cb b j ≤ cb b i := by
  unfold cb
  rw [show j = i + (j - i) by omega, ← List.drop_drop]
  exact (List.drop_sublist _ _).countP_le
theorem cb_at {i : Nat} (h : hd b i = "(") : cb b i = cb b (i + 1) + 1 := by
  have hl : i < b.length := lt_of_ne fun z => by rw [z] at h; revert h; decide +kernel
  unfold cb
  rw [List.drop_eq_getElem_cons hl, List.countP_cons_of_pos]
  rw [hd_lt hl] at h
  exact decide_eq_true h
def Tot (b : Bt) (i0 : Nat) (pa : Nat → PR) : Prop := ∀ i, i0 ≤ i → i ≤ b.length → ∃ r, pa i = some r ∧ ∀ t j, r = .ok (t, j) → i < j ∧ j ≤ b.length
theorem t_powL : ∀ (n : Nat) (t : Tr) (i : Nat), i ≤ b.length → b.length < n + i → ∃ r, pPowL (hd b) n t i = some r ∧ ∀ t' j, r = .ok (t', j) → i ≤ j ∧ j ≤ b.length
  | 0, t, i, h, h2 => by omega
  | n + 1, t, i, h, h2 => by
    unfold pPowL
    split
    · rename_i hq
      have hl : i < b.length := lt_of_ne fun z => by rw [z] at hq; revert hq; decide +kernel
      obtain ⟨r, e, k⟩ := t_powL n (.turned t) (i + 1) hl (by omega)
      exact ⟨r, e, fun t' j z => by have := k t' j z; omega⟩
    · split
      · rename_i hq
        have hl : i < b.length := lt_of_ne fun z => by rw [z] at hq; revert hq; decide +kernel
        cases hn : neg (hd b) (i + 1) with
        | true =>
          show ∃ r, (match numW (hd b (i + 1 + 1)) with | some v => pPowL (hd b) n _ (i + 1 + 1 + 1) | none => _) = some r ∧ _
          cases hv : numW (hd b (i + 1 + 1)) with
          | none => exact ⟨_, rfl, fun t' j z => by cases z⟩
          | some v =>
            have h3 : i + 1 + 1 < b.length := lt_of_ne fun z => by rw [z, n_e] at hv; cases hv
            obtain ⟨r, e, k⟩ := t_powL n (.power t (0 - v)) (i + 1 + 1 + 1) h3 (by omega)
            exact ⟨r, e, fun t' j z => by have := k t' j z; omega⟩
        | false =>
          show ∃ r, (match numW (hd b (i + 1)) with | some v => pPowL (hd b) n _ (i + 1 + 1) | none => _) = some r ∧ _
          cases hv : numW (hd b (i + 1)) with
          | none => exact ⟨_, rfl, fun t' j z => by cases z⟩
          | some v =>
            have h3 : i + 1 < b.length := lt_of_ne fun z => by rw [z, n_e] at hv; cases hv
            obtain ⟨r, e, k⟩ := t_powL n (.power t v) (i + 1 + 1) h3 (by omega)
            exact ⟨r, e, fun t' j z => by have := k t' j z; omega⟩
      · exact ⟨_, rfl, fun t' j z => by cases z; exact ⟨Nat.le_refl _, h⟩⟩
theorem lk_ne {kvs : List (Str × Str)} (hk : lkS kvs "" = none) {i : Nat} {w : Str} (h : lkS kvs (hd b i) = some w) : i < b.length := lt_of_ne fun z => by rw [z, hk] at h; cases h
theorem t_ops {kvs : List (Str × Str)} {p : Nat → PR} {i0 : Nat} (hk : lkS kvs "" = none) (hp : Tot b i0 p) : ∀ (n : Nat) (t : Tr) (i : Nat), i0 ≤ i → i ≤ b.length → b.length < n + i → ∃ r, ops kvs (hd b) p n t i = some r ∧ ∀ t' j, r = .ok (t', j) → i ≤ j ∧ j ≤ b.length
  | 0, t, i, _, h, h2 => by omega
  | n + 1, t, i, h0, h, h2 => by
    unfold ops
    cases hv : lkS kvs (hd b i) with
    | none => exact ⟨_, rfl, fun t' j z => by cases z; exact ⟨Nat.le_refl _, h⟩⟩
    | some w =>
      have hl := lk_ne hk hv
      obtain ⟨r, e, k⟩ := hp (i + 1) (by omega) hl
      dsimp only
      rw [e]
      cases r with
      | error j => exact ⟨_, rfl, fun t' j z => by cases z⟩
      | ok z =>
        obtain ⟨u, j⟩ := z
        obtain ⟨k1, k2⟩ := k u j rfl
        obtain ⟨r, e2, k'⟩ := t_ops hk hp n (.bin w t u) j (by omega) k2 (by omega)
        exact ⟨r, e2, fun t' j' z => by have := k' t' j' z; omega⟩
theorem Tot.then {p : Nat → PR} {k : Tr → Nat → PR} {i0 : Nat} (hp : Tot b i0 p) (hk : ∀ t i, i0 ≤ i → i ≤ b.length → ∃ r, k t i = some r ∧ ∀ t' j, r = .ok (t', j) → i ≤ j ∧ j ≤ b.length) : Tot b i0 fun i => then' (p i) k := fun i h0 h => by
  obtain ⟨r, e, g⟩ := hp i h0 h
  show ∃ r, then' (p i) k = some r ∧ _
  rw [e]
  cases r with
  | error j => exact ⟨_, rfl, fun t' j z => by cases z⟩
  | ok z =>
    obtain ⟨t, j⟩ := z
    obtain ⟨g1, g2⟩ := g t j rfl
    obtain ⟨r, e2, g'⟩ := hk t j (by omega) g2
    exact ⟨r, e2, fun t' j' z => by have := g' t' j' z; omega⟩
theorem t_sum {pa : Nat → PR} {N i0 : Nat} (hN : b.length < N) (hp : Tot b i0 pa) : Tot b i0 (pSum (hd b) N pa) := by
  have h1 : Tot b i0 (pPow (hd b) N pa) := hp.then fun t i _ h => t_powL N t i h (by omega)
  have h2 : Tot b i0 (pProd (hd b) N pa) := h1.then fun t i h0 h => t_ops (by decide +kernel) h1 N t i h0 h (by omega)
  exact h2.then fun t i h0 h => t_ops (by decide +kernel) h2 N t i h0 h (by omega)
theorem t_atom {N : Nat} (hN : b.length < N) : ∀ (k i : Nat), i ≤ b.length → cb b i < k → ∃ r, pAtom (hd b) N k i = some r ∧ ∀ t j, r = .ok (t, j) → i < j ∧ j ≤ b.length
  | 0, i, h, h2 => by omega
  | k + 1, i, h, h2 => by
    unfold pAtom
    split
    · rename_i hw
      have hl : i < b.length := lt_of_ne fun z => by rw [z] at hw; revert hw; decide +kernel
      exact ⟨_, rfl, fun t j z => by cases z; omega⟩
    · split
      · rename_i hq
        have hl : i < b.length := lt_of_ne fun z => by rw [z] at hq; revert hq; decide +kernel
        have hc := cb_at hq
        have g : Tot b (i + 1) (pAtom (hd b) N k) := fun i' h0 h' => t_atom hN k i' h' (by have := cb_le (b := b) h0; omega)
        obtain ⟨r, e, gg⟩ := t_sum hN g (i + 1) (Nat.le_refl _) hl
        rw [e]
        cases r with
        | error j => exact ⟨_, rfl, fun t' j z => by cases z⟩
        | ok z =>
          obtain ⟨t, j⟩ := z
          obtain ⟨g1, g2⟩ := gg t j rfl
          show ∃ r, (if hd b j = ")" then _ else _) = some r ∧ _
          split
          · rename_i hj
            have hl : j < b.length := lt_of_ne fun z => by rw [z] at hj; revert hj; decide +kernel
            exact ⟨_, rfl, fun t' j' z => by cases z; omega⟩
          · exact ⟨_, rfl, fun t' j' z => by cases z⟩
      · cases hv : numW (hd b i) with
        | none => exact ⟨_, rfl, fun t' j z => by cases z⟩
        | some v =>
          have hl : i < b.length := lt_of_ne fun z => by rw [z, n_e] at hv; cases hv
          exact ⟨_, rfl, fun t' j z => by cases z; omega⟩
theorem t_read {N K : Nat} (hN : b.length < N) (hK : cb b 0 < K) : ∃ r, pRead (hd b) N K = some r := by
  have g : Tot b 0 (pAtom (hd b) N K) := fun i _ h => t_atom hN K i h (by have := cb_le (b := b) (Nat.zero_le i); omega)
  obtain ⟨r, e, _⟩ := t_sum hN g 0 (Nat.le_refl _) (Nat.zero_le _)
  unfold pRead
  rw [e]
  cases r with
  | error j => exact ⟨_, rfl⟩
  | ok z =>
    obtain ⟨t, j⟩ := z
    show ∃ r, (if hd b j = "" then _ else _) = some r
    split
    · exact ⟨_, rfl⟩
    · exact ⟨_, rfl⟩
end
end Tg
namespace Tg
open PySem Rg
def al (c : Nat) : Bool := Txt.isalnum ⟨#[c]⟩
def mk (cs : List Nat) : Str := ⟨cs.toArray⟩
theorem al_sp : al 32 = false := by decide +kernel
theorem tw_take {p : Nat → Bool} : ∀ r : List Nat, r.take (r.takeWhile p).length = r.takeWhile p
  | [] => rfl
  | c :: r => by
    rw [List.takeWhile_cons]
    cases p c with
    | false => rfl
    | true => simp only [if_true, List.length_cons, List.take_succ_cons, tw_take r]
def runL (c : Nat) (r : List Nat) : Nat := if al c = true then (r.takeWhile al).length else 0
theorem runL_le (c : Nat) (r : List Nat) : runL c r ≤ r.length := by
  unfold runL
  split
  · exact (List.takeWhile_sublist al).length_le
  · omega
def bitsF : Nat → List Nat → Nat → Bt
  | 0, _, _ => []
  | _ + 1, [], _ => []
  | n + 1, c :: r, a => (if c = 32 then [] else [(mk (c :: r.take (runL c r)), (a : Int))]) ++ bitsF n (r.drop (runL c r)) (a + 1 + runL c r)
def bitsL (cs : List Nat) : Bt := bitsF (cs.length + 1) cs 0
def lawF : List Nat → Bool → Nat → Bt → Bt
  | [], _, _, acc => acc
  | c :: r, p, a, acc => if c = 32 then lawF r false (a + 1) acc else if (al c && p) = true then lawF r true (a + 1) (acc.dropLast ++ [(((acc.getLast?.getD ("", 0)).1 ++ mk [c] : Str), (acc.getLast?.getD ("", 0)).2)]) else lawF r (al c) (a + 1) (acc ++ [(mk [c], (a : Int))])
theorem mk_app (a b : List Nat) : mk a ++ mk b = mk (a ++ b) := by
  show (⟨a.toArray ++ b.toArray⟩ : Str) = ⟨(a ++ b).toArray⟩
  rw [List.append_toArray]
theorem lawF_run : ∀ (run rest : List Nat) (a : Nat) (acc : Bt) (w : List Nat) (at0 : Int), (∀ c ∈ run, al c = true) → lawF (run ++ rest) true a (acc ++ [(mk w, at0)]) = lawF rest true (a + run.length) (acc ++ [(mk (w ++ run), at0)])
  | [], rest, a, acc, w, at0, _ => by simp
  | c :: run, rest, a, acc, w, at0, h => by
    have hc := h c (List.mem_cons_self ..)
    have h32 : c ≠ 32 := fun z => by rw [z, al_sp] at hc; cases hc
    show (if c = 32 then _ else if (al c && true) = true then lawF (run ++ rest) true (a + 1) _ else _) = _
    rw [if_neg h32, hc, if_pos (by decide)]
    rw [List.dropLast_concat, List.getLast?_concat]
    show lawF (run ++ rest) true (a + 1) (acc ++ [(mk w ++ mk [c], at0)]) = _
    rw [mk_app, lawF_run run rest (a + 1) acc (w ++ [c]) at0 fun x hx => h x (List.mem_cons_of_mem _ hx)]
    simp only [List.length_cons, List.append_assoc, List.singleton_append]
    congr 1; omega
theorem lawF_off {rest : List Nat} (h : ∀ c, rest.head? = some c → al c = false) (a : Nat) (acc : Bt) : lawF rest true a acc = lawF rest false a acc := by
  cases rest with
  | nil => rfl
  | cons c r =>
    have hc := h c rfl
    unfold lawF
    rw [hc, Bool.false_and, Bool.false_and]
theorem tw_off {p : Nat → Bool} : ∀ (r : List Nat) (c : Nat), (r.drop (r.takeWhile p).length).head? = some c → p c = false
  | [], c, h => by cases h
  | x :: r, c, h => by
    rw [List.takeWhile_cons] at h
    cases hx : p x with
    | false => rw [hx] at h; cases h; exact hx
    | true =>
      rw [hx] at h
      simp only [if_true, List.length_cons, List.drop_succ_cons] at h
      exact tw_off r c h
theorem lawF_bits : ∀ (n : Nat) (cs : List Nat) (a : Nat) (acc : Bt), cs.length < n → lawF cs false a acc = acc ++ bitsF n cs a
  | 0, _, _, _, h => by omega
  | n + 1, [], a, acc, _ => by
    show acc = acc ++ []
    rw [List.append_nil]
  | n + 1, c :: r, a, acc, h => by
    have hr := runL_le c r
    have hl : (r.drop (runL c r)).length < n := by rw [List.length_drop]; simp at h; omega
    show (if c = 32 then _ else if (al c && false) = true then _ else lawF r (al c) (a + 1) (acc ++ [(mk [c], (a : Int))])) = acc ++ ((if c = 32 then [] else [(mk (c :: r.take (runL c r)), (a : Int))]) ++ bitsF n (r.drop (runL c r)) (a + 1 + runL c r))
    by_cases h32 : c = 32
    · have h0 : runL c r = 0 := by unfold runL; rw [h32, al_sp]; rfl
      rw [if_pos h32, if_pos h32, h0]
      exact lawF_bits n r (a + 1) acc (by simp at h; omega)
    · rw [if_neg h32, if_neg h32, Bool.and_false, if_neg (by decide)]
      cases hc : al c with
      | false =>
        have h0 : runL c r = 0 := by unfold runL; rw [hc]; rfl
        rw [h0, lawF_bits n r (a + 1) _ (by simp at h; omega)]
        simp
      | true =>
        have h0 : runL c r = (r.takeWhile al).length := by unfold runL; rw [hc]; rfl
        rw [h0, tw_take]
        have e := lawF_run (r.takeWhile al) (r.drop (r.takeWhile al).length) (a + 1) acc [c] a (fun x hx => by
          have := List.all_takeWhile (p := al) (l := r)
          exact List.all_eq_true.mp this x hx)
        rw [show r.takeWhile al ++ r.drop (r.takeWhile al).length = r by
          conv => lhs; lhs; rw [← tw_take r]
          exact List.take_append_drop _ r] at e
        rw [e, lawF_off (tw_off r), lawF_bits n _ _ _ (by rw [← h0]; exact hl)]
        simp
theorem lawF_eq (cs : List Nat) : lawF cs false 0 [] = bitsL cs := by rw [lawF_bits _ _ _ _ (Nat.lt_succ_self _)]; rfl
theorem bitsF_in : ∀ (n : Nat) (cs : List Nat) (a : Nat), ∀ x ∈ bitsF n cs a, (∀ c ∈ signs x.1, c ∈ cs) ∧ x.1 ≠ "" ∧ x.1.length ≤ cs.length
  | 0, _, _, x, h => by cases h
  | n + 1, [], _, x, h => by cases h
  | n + 1, c :: r, a, x, h => by
    rcases List.mem_append.mp h with h | h
    · split at h
      · cases h
      · rw [List.mem_singleton.mp h]
        refine ⟨fun y hy => ?_, fun z => ?_, ?_⟩
        · have hy : y ∈ c :: r.take (runL c r) := by simpa [signs, mk] using hy
          rcases List.mem_cons.mp hy with q | q
          · exact List.mem_cons.mpr (.inl q)
          · exact List.mem_cons_of_mem _ (List.mem_of_mem_take q)
        · have : (mk (c :: r.take (runL c r))).cps.toList = ("" : Str).cps.toList := congrArg (fun s : Str => s.cps.toList) z
          rw [show ("" : Str).cps.toList = [] by decide +kernel] at this
          simp [mk] at this
        · show (c :: r.take (runL c r)).toArray.size ≤ _
          simp
          omega
    · obtain ⟨h1, h2, h3⟩ := bitsF_in n _ _ x h
      refine ⟨fun y hy => List.mem_cons_of_mem _ (List.mem_of_mem_drop (h1 y hy)), h2, ?_⟩
      rw [List.length_drop] at h3
      simp; omega
theorem bits_len : ∀ (n : Nat) (cs : List Nat) (a : Nat), (bitsF n cs a).length ≤ cs.length
  | 0, _, _ => Nat.zero_le _
  | n + 1, [], _ => Nat.le_refl _
  | n + 1, c :: r, a => by
    have := bits_len n (r.drop (runL c r)) (a + 1 + runL c r)
    rw [List.length_drop] at this
    show ((if c = 32 then [] else [(mk (c :: r.take (runL c r)), (a : Int))]) ++ bitsF n _ _).length ≤ _
    rw [List.length_append]
    split <;> simp <;> omega
theorem bits_cb : ∀ (n : Nat) (cs : List Nat) (a : Nat), ((bitsF n cs a).countP fun x => decide (x.1 = ("(" : Str))) ≤ cs.count 40
  | 0, _, _ => Nat.zero_le _
  | n + 1, [], _ => Nat.le_refl _
  | n + 1, c :: r, a => by
    have h1 := bits_cb n (r.drop (runL c r)) (a + 1 + runL c r)
    have h2 : (r.drop (runL c r)).count 40 ≤ r.count 40 := (List.drop_sublist _ _).count_le 40
    show ((if c = 32 then [] else [(mk (c :: r.take (runL c r)), (a : Int))]) ++ bitsF n _ _).countP _ ≤ _
    rw [List.countP_append, List.count_cons]
    have h3 : ((if c = 32 then [] else [(mk (c :: r.take (runL c r)), (a : Int))]) : Bt).countP (fun x => decide (x.1 = ("(" : Str))) ≤ if c == 40 then 1 else 0 := by
      split
      · exact Nat.zero_le _
      · rw [List.countP_cons, List.countP_nil]
        split
        · rename_i hq
          have hq := of_decide_eq_true hq
          have hq : (mk (c :: r.take (runL c r))).cps.toList = ("(" : Str).cps.toList := congrArg (fun s : Str => s.cps.toList) hq
          rw [show ("(" : Str).cps.toList = [40] by decide +kernel] at hq
          have hq : c :: r.take (runL c r) = [40] := by simpa [mk] using hq
          have := (List.cons.inj hq).1
          subst this
          simp
        · exact Nat.zero_le _
    omega
end Tg
namespace K53
open PySem Rg Rm Mn Tg
def WOk (w : Str) : Prop := PyData.strOk w = true ∧ w.length ≤ 1000
theorem lenS {w : Str} (h : WOk w) : fLenS [.str w] = some (.v (.int w.length)) := Ty.o_lenS (Nat.le_trans h.2 (by unfold SZ; decide))
theorem inS1 {c : Nat} {L : Str} : fInS false [.str ⟨#[c]⟩, .str L] = some (.v (.bl (decide (c ∈ signs L)))) := by
  show some (Nw.v (.bl (false ^^ decide (c ∈ signs L)))) = _
  rw [Bool.false_xor]
theorem dnn (a b : Nat) : decide ((a : Int) ≤ (b : Int)) = decide (a ≤ b) := by simp
theorem e_is_name {w : Str} (h : WOk w) : M_is_name [.str w] = .ok (.v (.bl (nameW w))) := by
  have ha := all_sg (k := 1) (em := Le_is_name_1) (g := fun c => decide (c ∈ signs "abcdefghijklmnopqrstuvwxyz")) (Γ := [.v (.str w), .no]) (w := w) (mi := mIc (mN 0)) rfl rfl h.2 (fun c => by
    simp only [evE, Le_is_name_1, inS1])
  have d1 : decide ((1 : Int) ≤ (w.length : Int)) = decide (1 ≤ w.length) := dnn 1 _
  have d2 : decide ((w.length : Int) ≤ (8 : Int)) = decide (w.length ≤ 8) := dnn _ 8
  have hc : mCh (fun i j => decide (i ≤ j)) (fun i j => decide (i ≤ j)) (mK (.int 1)) (mB fLenS (mA1 (mN 0) mA0)) (mK (.int 8)) [.v (.str w), .no] = .ok (.v (.bl (decide (1 ≤ w.length) && decide (w.length ≤ 8))), [.v (.str w), .no]) := by
    simp only [evE, lenS h, d1, d2]
    cases decide (1 ≤ w.length) <;> rfl
  unfold M_is_name B_is_name nameW fin mRet mAndV mT
  show R.bind (R.bind (R.bind (R.bind (mCh _ _ _ _ _ [.v (.str w), .no]) _) _) _) _ = _
  rw [hc]
  cases hq : (decide (1 ≤ w.length) && decide (w.length ≤ 8)) with
  | false => rw [Bool.false_and]; rfl
  | true =>
    rw [Bool.true_and]
    show R.bind (R.bind (mB fAll (mA1 (mLc (mIc (mN 0)) (gN 1) mYes Le_is_name_1 [1]) mA0) [.v (.str w), .no]) _) _ = _
    rw [ha]; rfl
theorem e_number_in {w : Str} (h : WOk w) : M_number_in [.str w, .int 6] = .ok (.v (match numW w with | some v => .int v | none => .non)) := by
  have ha := all_sg (k := 2) (em := Le_number_in_1) (g := fun c => decide (c ∈ signs "0123456789")) (Γ := [.v (.str w), .v (.int 6), .no]) (w := w) (mi := mIc (mN 0)) rfl rfl h.2 (fun c => by
    simp only [evE, Le_number_in_1, inS1])
  have d1 : decide ((1 : Int) ≤ (w.length : Int)) = decide (1 ≤ w.length) := dnn 1 _
  have d2 : decide ((w.length : Int) ≤ (6 : Int)) = decide (w.length ≤ 6) := dnn _ 6
  have hc : mCh (fun i j => decide (i ≤ j)) (fun i j => decide (i ≤ j)) (mK (.int 1)) (mB fLenS (mA1 (mN 0) mA0)) (mN 1) [.v (.str w), .v (.int 6), .no] = .ok (.v (.bl (decide (1 ≤ w.length) && decide (w.length ≤ 6))), [.v (.str w), .v (.int 6), .no]) := by
    simp only [evE, lenS h, d1, d2]
    cases decide (1 ≤ w.length) <;> rfl
  have z0 : PyData.strOk ("0" : Str) = true := by decide +kernel
  have hn := fun hq : numB w = true => num_some hq
  have hn2 : numW w = if numB w = true then intText? w else none := rfl
  have e0 : w.cps.toList.length = w.length := Array.length_toList
  have hf : figs w = (decide (1 ≤ w.length) && decide (w.length ≤ 6) && w.cps.toList.all fun c => decide (c ∈ signs "0123456789")) := rfl
  have hB : numB w = (figs w && (decide (w = "0") || !decide ((signs w).head? = some 48))) := rfl
  cases hq : figs w with
  | false =>
    rw [hq, Bool.false_and] at hB
    rw [hn2, hB]
    rw [hf] at hq
    simp only [M_number_in, B_number_in, fin, mSeq, mIf, mOr, mNot, mT, List.length_cons, List.length_nil, List.map_cons, List.map_nil, List.cons_append, List.nil_append, List.replicate, if_true, hc, ha, R.bind]
    cases q1 : (decide (1 ≤ w.length) && decide (w.length ≤ 6)) with
    | false => rfl
    | true =>
      rw [q1, Bool.true_and] at hq
      simp only [ha, hq, R.bind]
      rfl
  | true =>
    rw [hq, Bool.true_and] at hB
    rw [hf] at hq
    obtain ⟨q1, q2⟩ := Bool.and_eq_true_iff.mp hq
    have hb := q1
    simp only [Bool.and_eq_true, decide_eq_true_eq] at hb
    obtain ⟨c, r, hcr⟩ : ∃ c r, w.cps.toList = c :: r := by
      cases hw : w.cps.toList with
      | nil => rw [hw] at e0; simp at e0; omega
      | cons c r => exact ⟨c, r, rfl⟩
    have hz : w.length ≤ 1000000 := Nat.le_trans h.2 (by decide)
    have hI : L2.atI w.cps.toList 0 = some c := by rw [hcr]; unfold L2.atI L2.ixN; simp
    have hc0 : PyData.strOk ⟨#[c]⟩ = true := by
      have := h.1
      unfold PyData.strOk at this
      rw [← Array.all_toList, hcr] at this
      unfold PyData.strOk
      simp at this ⊢
      exact this.1
    have hE : fEq [.str w, .str "0"] = some (.v (.bl (decide (w = "0")))) := Ty.q_str ⟨h.1, z0⟩
    have hN : fNe [.str ⟨#[c]⟩, .str "0"] = some (.v (.bl (!decide (c = 48)))) := by
      rw [Ty.n_str ⟨hc0, z0⟩]
      have : decide ((⟨#[c]⟩ : Str) = "0") = decide (c = 48) := by
        rw [show ("0" : Str) = ⟨#[48]⟩ by decide +kernel]
        simp
      rw [this]
    have hI6 : fIntS [.str w] = (intText? w).map fun n => .v (.int n) := if_pos (by omega)
    have hS : signs w = c :: r := hcr
    rw [hS, List.head?_cons] at hB
    have hB : numB w = (decide (w = "0") || !decide (c = 48)) := by rw [hB]; simp
    have pre : ∀ (m : En → R Fl), mSeq (mIf (mOr (mNot (mT (mCh (fun i j => decide (i ≤ j)) (fun i j => decide (i ≤ j)) (mK (.int 1)) (mB fLenS (mA1 (mN 0) mA0)) (mN 1)))) (mNot (mT (mB fAll (mA1 (mLc (mIc (mN 0)) (gN 2) mYes Le_number_in_1 [2]) mA0))))) (mRet (mK .non)) mNx) m [.v (.str w), .v (.int 6), .no] = m [.v (.str w), .v (.int 6), .no] := fun m => by
      simp only [mSeq, mIf, mOr, mNot, mT, hc, q1, ha, q2, R.bind, mNx, Bool.not_true, Bool.false_eq_true, if_false]
    have fin2 : M_number_in [.str w, .int 6] = (B_number_in [.v (.str w), .v (.int 6), .no]).bind (fun f => match f with | .nx _ => .ok (.v .non) | .rt w _ => .ok w | _ => .bad) := rfl
    rw [fin2, B_number_in, pre]
    cases hn3 : numB w with
    | true =>
      obtain ⟨v, hv⟩ := num_some hn3
      rw [hv]
      rw [hn2, hn3, if_pos rfl] at hv
      rw [hv] at hI6
      rw [hB] at hn3
      cases d0 : decide (w = "0") with
      | true => rw [d0] at hE; simp only [evE, hE, hI6, hz, hI, Option.map_some]
      | false =>
        rw [d0] at hE hn3
        have hn3 : (!decide (c = 48)) = true := by simpa using hn3
        rw [hn3] at hN
        simp only [evE, hE, hI6, hz, hI, hN, Option.map_some]
    | false =>
      rw [hn2, hn3]
      rw [hB] at hn3
      obtain ⟨d0, d1⟩ := Bool.or_eq_false_iff.mp hn3
      rw [d0] at hE
      rw [d1] at hN
      simp only [evE, hE, hz, hI, hN]
theorem at_b {b : Bt} {i : Nat} (h : i < b.length) : L2.atI (b.map fun x => D.tup [D.str x.1, D.int x.2]) (i : Int) = some (.tup [.str (b[i]).1, .int (b[i]).2]) := L2.atI_nat (by rw [List.getElem?_map, List.getElem?_eq_getElem h]; rfl)
theorem own_S {b : Bt} {i : Nat} {e : Int} : ownd (S b i e) = true := rfl
theorem e_ahead (b : Bt) (i : Nat) (e : Int) : M_Reader_ahead (S b i e) [] = .ok (.v (.str (hd b i)), S b i e) := by
  by_cases h : i < b.length
  · have d : decide ((i : Int) < (b.length : Int)) = true := by simpa using h
    simp only [evE, M_Reader_ahead, B_Reader_ahead, finS, rg_s, rg_b, bD, List.length_map, at_b h, at2_0, d, own_S, hd_lt h]
  · have d : decide ((i : Int) < (b.length : Int)) = false := by simpa using h
    simp only [evE, M_Reader_ahead, B_Reader_ahead, finS, rg_s, rg_b, bD, List.length_map, d, own_S, hd_ge (Nat.le_of_not_lt h)]
theorem e_wrong (b : Bt) (i : Nat) (e : Int) : M_Reader_wrong (S b i e) [] = .ok (.v (.int (wr b e i)), S b i e) := by
  by_cases h : i < b.length
  · have d : decide ((i : Int) < (b.length : Int)) = true := by simpa using h
    simp only [evE, M_Reader_wrong, B_Reader_wrong, finS, rg_s, rg_b, rg_e, bD, List.length_map, at_b h, at2_1, d, own_S, wr_lt h]
  · have d : decide ((i : Int) < (b.length : Int)) = false := by simpa using h
    simp only [evE, M_Reader_wrong, B_Reader_wrong, finS, rg_s, rg_b, rg_e, bD, List.length_map, d, own_S, wr_ge (Nat.le_of_not_lt h)]
theorem e_taken (b : Bt) (i : Nat) (e : Int) : M_Reader_taken (S b i e) [] = .ok (.v (.str (hd b i)), S b (i + 1) e) := by
  simp only [evE, M_Reader_taken, B_Reader_taken, finS, mt_ahead, mv_0 (e_ahead b i e), ra_1, own_S]
def BOk (b : Bt) : Prop := ∀ x ∈ b, WOk x.1
theorem wok_e : WOk "" := ⟨by decide +kernel, by decide +kernel⟩
theorem BOk.hd {b : Bt} (h : BOk b) (i : Nat) : WOk (hd b i) := by
  by_cases hl : i < b.length
  · rw [hd_lt hl]; exact h _ (List.getElem_mem hl)
  · rw [hd_ge (Nat.le_of_not_lt hl)]; exact wok_e
theorem e_number {b : Bt} (hb : BOk b) (i : Nat) (e : Int) : M_Reader_number (S b i e) [] = (match numW (hd b i) with | some v => .ok (.v (.int v), S b (i + 1) e) | none => .exc "BadText" (xB (wr b e i))) := by
  cases hv : numW (hd b i) with
  | none =>
    have hn := e_number_in (hb.hd i)
    rw [hv] at hn
    simp only [evE, M_Reader_number, B_Reader_number, finS, mt_ahead, mt_wrong, mv_0 (e_ahead b i e), mv_0 (e_wrong b i e), hn, own_S]
    rfl
  | some v =>
    have hn := e_number_in (hb.hd i)
    rw [hv] at hn
    simp only [evE, M_Reader_number, B_Reader_number, finS, mt_ahead, mt_wrong, mv_0 (e_ahead b i e), mv_0 (e_wrong b i e), hn, own_S, ra_1]
theorem inP (w : Str) : fInW false [.str w, .tup [.str "^", .str "'"]] = some (.v (.bl (decide (w = "'") || decide (w = "^")))) := by
  show some (Nw.v (.bl ((["^", "'"] : List Str).contains w))) = _
  congr 3
  simp only [List.contains_cons, List.contains_nil, Bool.or_false]
  rw [Bool.or_comm]
  rfl
theorem sq1 : PyData.strOk ("'" : Str) = true ∧ PyData.strOk ("-" : Str) = true ∧ PyData.strOk ("(" : Str) = true ∧ PyData.strOk (")" : Str) = true ∧ PyData.strOk ("" : Str) = true := by decide +kernel
section
variable {b : Bt} {e : Int}
theorem wc_pow (hb : BOk b) (i : Nat) (x y z : Sl) : Wc_Reader_power_1 [S b i e, x, y, z] = .ok (decide (hd b i = "'") || decide (hd b i = "^"), [S b i e, x, y, z]) := by
  simp only [evE, Wc_Reader_power_1, mt_ahead, mv_0 (e_ahead b i e), inP]
theorem e_powL (hb : BOk b) : ∀ (n : Nat) (t : Tr) (i : Nat) (x y : Sl), Ends2 b e (pPowL (hd b) n t i) (mWh Wc_Reader_power_1 Wb_Reader_power_1 n [S b i e, .v (eT t), x, y])
  | 0, _, _, _, _ => trivial
  | n + 1, t, i, x, y => by
    have hc := wc_pow (e := e) hb i (.v (eT t)) x y
    have hq : fEq [.str (hd b i), .str "'"] = some (.v (.bl (decide (hd b i = "'")))) := Ty.q_str ⟨(hb.hd i).1, sq1.1⟩
    have hm : fEq [.str (hd b (i + 1)), .str "-"] = some (.v (.bl (neg (hd b) (i + 1)))) := Ty.q_str ⟨(hb.hd (i + 1)).1, sq1.2.1⟩
    unfold pPowL
    by_cases h1 : hd b i = "'"
    · rw [if_pos h1]
      rw [decide_eq_true h1, Bool.true_or] at hc
      rw [decide_eq_true h1] at hq
      rw [wh_1 n hc (Γ2 := [S b (i + 1) e, .v (eT (.turned t)), x, y])]
      · exact e_powL hb n (.turned t) (i + 1) x y
      · simp only [evE, Wb_Reader_power_1, mt_taken, mv_0 (e_taken b i e), hq, eT]
    · rw [if_neg h1]
      rw [decide_eq_false h1] at hq
      by_cases h2 : hd b i = "^"
      · rw [if_pos h2]
        rw [decide_eq_true h2, Bool.or_true] at hc
        have w0 : ∀ r : R Fl, (mSeq (mSet 2 (mB (two fEq) (mA1 (mMthS "Reader" 0 "ahead" M_Reader_ahead) (mA1 (mK (.str "-")) mA0)))) (mSeq (mRa "Reader" 0 "spot" (mB fInt (mA1 (mN 2) mA0))) (mSeq (mSet 3 (mMthS "Reader" 0 "number" M_Reader_number))
            (mSet 1 (mTup (mA1 (mK (.str "power")) (mA1 (mN 1) (mA1 (mIfE (mT (mN 2)) (mB (two fSub) (mA1 (mK (.int 0)) (mA1 (mN 3) mA0))) (mN 3)) mA0)))))))) [S b (i + 1) e, .v (eT t), x, y] = r → Wb_Reader_power_1 [S b i e, .v (eT t), x, y] = r := fun r hr => by
          refine (if_0 (Γ1 := [S b (i + 1) e, .v (eT t), x, y]) ?_).trans hr
          simp only [evE, mt_taken, mv_0 (e_taken b i e), hq]
        cases hn : neg (hd b) (i + 1) with
        | true =>
          rw [hn] at hm
          have w1 : Wb_Reader_power_1 [S b i e, .v (eT t), x, y] = (mSeq (mSet 3 (mMthS "Reader" 0 "number" M_Reader_number))
            (mSet 1 (mTup (mA1 (mK (.str "power")) (mA1 (mN 1) (mA1 (mIfE (mT (mN 2)) (mB (two fSub) (mA1 (mK (.int 0)) (mA1 (mN 3) mA0))) (mN 3)) mA0)))))) [S b (i + 1 + 1) e, .v (eT t), .v (.bl true), y] := by
            refine w0 _ ?_
            refine (seq_n (Γ1 := [S b (i + 1) e, .v (eT t), .v (.bl true), y]) (by simp only [evE, mt_ahead, mv_0 (e_ahead b (i + 1) e), hm])).trans ?_
            exact seq_n (ra_n (n := 1) rfl)
          show Ends2 b e (match numW (hd b (i + 1 + 1)) with | some v => pPowL (hd b) n (.power t (0 - v)) (i + 1 + 1 + 1) | none => some (.error (i + 1 + 1))) _
          have en := e_number hb (i + 1 + 1) e
          cases hv : numW (hd b (i + 1 + 1)) with
          | none =>
            rw [hv] at en
            exact wh_x n hc (w1.trans (seq_x (set_x ((mt_number).trans (mv_x en)))))
          | some v =>
            rw [hv] at en
            rw [wh_1 n hc (w1.trans (?_ : _ = R.ok (Fl.nx [S b (i + 1 + 1 + 1) e, .v (eT (.power t (0 - v))), .v (.bl true), .v (.int v)])))]
            · exact e_powL hb n (.power t (0 - v)) (i + 1 + 1 + 1) _ _
            · simp only [evE, mt_number, mv_0 en, eT]
        | false =>
          rw [hn] at hm
          have w1 : Wb_Reader_power_1 [S b i e, .v (eT t), x, y] = (mSeq (mSet 3 (mMthS "Reader" 0 "number" M_Reader_number))
            (mSet 1 (mTup (mA1 (mK (.str "power")) (mA1 (mN 1) (mA1 (mIfE (mT (mN 2)) (mB (two fSub) (mA1 (mK (.int 0)) (mA1 (mN 3) mA0))) (mN 3)) mA0)))))) [S b (i + 1) e, .v (eT t), .v (.bl false), y] := by
            refine w0 _ ?_
            refine (seq_n (Γ1 := [S b (i + 1) e, .v (eT t), .v (.bl false), y]) (by simp only [evE, mt_ahead, mv_0 (e_ahead b (i + 1) e), hm])).trans ?_
            exact seq_n (ra_n (n := 0) rfl)
          show Ends2 b e (match numW (hd b (i + 1)) with | some v => pPowL (hd b) n (.power t v) (i + 1 + 1) | none => some (.error (i + 1))) _
          have en := e_number hb (i + 1) e
          cases hv : numW (hd b (i + 1)) with
          | none =>
            rw [hv] at en
            exact wh_x n hc (w1.trans (seq_x (set_x ((mt_number).trans (mv_x en)))))
          | some v =>
            rw [hv] at en
            rw [wh_1 n hc (w1.trans (?_ : _ = R.ok (Fl.nx [S b (i + 1 + 1) e, .v (eT (.power t v)), .v (.bl false), .v (.int v)])))]
            · exact e_powL hb n (.power t v) (i + 1 + 1) _ _
            · simp only [evE, mt_number, mv_0 en, eT]
      · rw [if_neg h2]
        rw [decide_eq_false h1, decide_eq_false h2, Bool.or_false] at hc
        exact ⟨x, y, wh_0 n hc⟩
theorem wc_products (i : Nat) (x y : Sl) : Wc_Reader_products_1 [S b i e, x, y] = .ok ((lkS kP (hd b i)).isSome, [S b i e, x, y]) := by
  have h : fDcI [("*", "times"), ("/", "over")] [.str (hd b i)] = some (.v (.bl (lkS kP (hd b i)).isSome)) := rfl
  simp only [evE, Wc_Reader_products_1, mt_ahead, mv_0 (e_ahead b i e), h]
theorem e_productsL {MA : Sl → List D → R (Nw × Sl)} {p : Nat → PR} (hp : ∀ i, Tells b e (p i) (Mq_Reader_power MA (S b i e) [])) : ∀ (n : Nat) (t : Tr) (i : Nat) (x : Sl), Ends1 b e (ops kP (hd b) p n t i) (mWh Wc_Reader_products_1 (Wb_Reader_products_1 MA) n [S b i e, .v (eT t), x])
  | 0, _, _, _ => trivial
  | n + 1, t, i, x => by
    have hc := wc_products (b := b) (e := e) i (.v (eT t)) x
    unfold ops
    cases hv : lkS kP (hd b i) with
    | none =>
      rw [hv] at hc
      exact ⟨x, wh_0 n hc⟩
    | some w =>
      rw [hv] at hc
      have hd1 : fDc [("*", "times"), ("/", "over")] [.str (hd b i)] = some (.v (.str w)) := by
        show (lkS kP (hd b i)).map _ = _
        rw [hv]; rfl
      have w1 : ∀ r, mSet 1 (mTup (mA1 (mN 2) (mA1 (mN 1) (mA1 (mMthS "Reader" 0 "power" (Mq_Reader_power MA)) mA0)))) [S b (i + 1) e, .v (eT t), .v (.str w)] = r → Wb_Reader_products_1 MA [S b i e, .v (eT t), x] = r := fun r hr => by
        refine (seq_n (Γ1 := [S b (i + 1) e, .v (eT t), .v (.str w)]) ?_).trans hr
        simp only [evE, mt_taken, mv_0 (e_taken b i e), hd1]
      have h2 := hp (i + 1)
      dsimp only
      cases q : p (i + 1) with
      | none => trivial
      | some r =>
        rw [q] at h2
        cases r with
        | error j =>
          have h2 : Mq_Reader_power MA (S b (i + 1) e) [] = .exc "BadText" (xB (wr b e j)) := h2
          refine wh_x n hc (w1 _ ?_)
          simp only [evE, mt_power, mv_x h2]
        | ok z =>
          obtain ⟨u, j⟩ := z
          have h2 : Mq_Reader_power MA (S b (i + 1) e) [] = .ok (.v (eT u), S b j e) := h2
          show Ends1 b e (ops kP (hd b) p n (.bin w t u) j) _
          rw [wh_1 n hc (w1 _ (?_ : _ = R.ok (Fl.nx [S b j e, .v (eT (.bin w t u)), .v (.str w)])))]
          · exact e_productsL hp n (.bin w t u) j _
          · simp only [evE, mt_power, mv_0 h2, eT]
theorem e_products {MA : Sl → List D → R (Nw × Sl)} {p : Nat → PR} (hp : ∀ i, Tells b e (p i) (Mq_Reader_power MA (S b i e) [])) (i : Nat) : Tells b e (then' (p i) (ops kP (hd b) p FUEL)) (Mq_Reader_products MA (S b i e) []) := by
  have h := hp i
  unfold then'
  cases q : p i with
  | none => trivial
  | some r =>
    rw [q] at h
    cases r with
    | error j =>
      have h : Mq_Reader_power MA (S b i e) [] = .exc "BadText" (xB (wr b e j)) := h
      exact fin_Sx (seq_x (set_x ((mt_power).trans (mv_x h))))
    | ok z =>
      obtain ⟨t, j⟩ := z
      have h : Mq_Reader_power MA (S b i e) [] = .ok (.v (eT t), S b j e) := h
      have hs : mSet 1 (mMthS "Reader" 0 "power" (Mq_Reader_power MA)) [S b i e, .no, .no] = .ok (.nx [S b j e, .v (eT t), .no]) := by
        simp only [evE, mt_power, mv_0 h]
      have hl := e_productsL hp FUEL t j .no
      show Tells b e (ops kP (hd b) p FUEL t j) _
      cases q2 : ops kP (hd b) p FUEL t j with
      | none => trivial
      | some r =>
        rw [q2] at hl
        cases r with
        | error k => exact fin_Sx ((seq_n hs).trans (seq_x hl))
        | ok z =>
          obtain ⟨u, k⟩ := z
          obtain ⟨x, hl⟩ := hl
          exact fin_S ((seq_n hs).trans ((seq_n hl).trans rfl))
theorem wc_sums (i : Nat) (x y : Sl) : Wc_Reader_sums_1 [S b i e, x, y] = .ok ((lkS kS (hd b i)).isSome, [S b i e, x, y]) := by
  have h : fDcI [("+", "plus"), ("-", "minus")] [.str (hd b i)] = some (.v (.bl (lkS kS (hd b i)).isSome)) := rfl
  simp only [evE, Wc_Reader_sums_1, mt_ahead, mv_0 (e_ahead b i e), h]
theorem e_sumsL {MA : Sl → List D → R (Nw × Sl)} {p : Nat → PR} (hp : ∀ i, Tells b e (p i) (Mq_Reader_products MA (S b i e) [])) : ∀ (n : Nat) (t : Tr) (i : Nat) (x : Sl), Ends1 b e (ops kS (hd b) p n t i) (mWh Wc_Reader_sums_1 (Wb_Reader_sums_1 MA) n [S b i e, .v (eT t), x])
  | 0, _, _, _ => trivial
  | n + 1, t, i, x => by
    have hc := wc_sums (b := b) (e := e) i (.v (eT t)) x
    unfold ops
    cases hv : lkS kS (hd b i) with
    | none =>
      rw [hv] at hc
      exact ⟨x, wh_0 n hc⟩
    | some w =>
      rw [hv] at hc
      have hd1 : fDc [("+", "plus"), ("-", "minus")] [.str (hd b i)] = some (.v (.str w)) := by
        show (lkS kS (hd b i)).map _ = _
        rw [hv]; rfl
      have w1 : ∀ r, mSet 1 (mTup (mA1 (mN 2) (mA1 (mN 1) (mA1 (mMthS "Reader" 0 "products" (Mq_Reader_products MA)) mA0)))) [S b (i + 1) e, .v (eT t), .v (.str w)] = r → Wb_Reader_sums_1 MA [S b i e, .v (eT t), x] = r := fun r hr => by
        refine (seq_n (Γ1 := [S b (i + 1) e, .v (eT t), .v (.str w)]) ?_).trans hr
        simp only [evE, mt_taken, mv_0 (e_taken b i e), hd1]
      have h2 := hp (i + 1)
      dsimp only
      cases q : p (i + 1) with
      | none => trivial
      | some r =>
        rw [q] at h2
        cases r with
        | error j =>
          have h2 : Mq_Reader_products MA (S b (i + 1) e) [] = .exc "BadText" (xB (wr b e j)) := h2
          refine wh_x n hc (w1 _ ?_)
          simp only [evE, mt_products, mv_x h2]
        | ok z =>
          obtain ⟨u, j⟩ := z
          have h2 : Mq_Reader_products MA (S b (i + 1) e) [] = .ok (.v (eT u), S b j e) := h2
          show Ends1 b e (ops kS (hd b) p n (.bin w t u) j) _
          rw [wh_1 n hc (w1 _ (?_ : _ = R.ok (Fl.nx [S b j e, .v (eT (.bin w t u)), .v (.str w)])))]
          · exact e_sumsL hp n (.bin w t u) j _
          · simp only [evE, mt_products, mv_0 h2, eT]
theorem e_sums {MA : Sl → List D → R (Nw × Sl)} {p : Nat → PR} (hp : ∀ i, Tells b e (p i) (Mq_Reader_products MA (S b i e) [])) (i : Nat) : Tells b e (then' (p i) (ops kS (hd b) p FUEL)) (Mq_Reader_sums MA (S b i e) []) := by
  have h := hp i
  unfold then'
  cases q : p i with
  | none => trivial
  | some r =>
    rw [q] at h
    cases r with
    | error j =>
      have h : Mq_Reader_products MA (S b i e) [] = .exc "BadText" (xB (wr b e j)) := h
      exact fin_Sx (seq_x (set_x ((mt_products).trans (mv_x h))))
    | ok z =>
      obtain ⟨t, j⟩ := z
      have h : Mq_Reader_products MA (S b i e) [] = .ok (.v (eT t), S b j e) := h
      have hs : mSet 1 (mMthS "Reader" 0 "products" (Mq_Reader_products MA)) [S b i e, .no, .no] = .ok (.nx [S b j e, .v (eT t), .no]) := by
        simp only [evE, mt_products, mv_0 h]
      have hl := e_sumsL hp FUEL t j .no
      show Tells b e (ops kS (hd b) p FUEL t j) _
      cases q2 : ops kS (hd b) p FUEL t j with
      | none => trivial
      | some r =>
        rw [q2] at hl
        cases r with
        | error k => exact fin_Sx ((seq_n hs).trans (seq_x hl))
        | ok z =>
          obtain ⟨u, k⟩ := z
          obtain ⟨x, hl⟩ := hl
          exact fin_S ((seq_n hs).trans ((seq_n hl).trans rfl))
theorem e_power (hb : BOk b) {MA : Sl → List D → R (Nw × Sl)} {pa : Nat → PR} (hp : ∀ i, Tells b e (pa i) (MA (S b i e) [])) (i : Nat) : Tells b e (pPow (hd b) FUEL pa i) (Mq_Reader_power MA (S b i e) []) := by
  have h := hp i
  unfold pPow then'
  cases q : pa i with
  | none => trivial
  | some r =>
    rw [q] at h
    cases r with
    | error j =>
      have h : MA (S b i e) [] = .exc "BadText" (xB (wr b e j)) := h
      exact fin_Sx (seq_x (set_x ((mt_atom).trans (mv_x h))))
    | ok z =>
      obtain ⟨t, j⟩ := z
      have h : MA (S b i e) [] = .ok (.v (eT t), S b j e) := h
      have hs : mSet 1 (mMthS "Reader" 0 "atom" MA) [S b i e, .no, .no, .no] = .ok (.nx [S b j e, .v (eT t), .no, .no]) := by
        simp only [evE, mt_atom, mv_0 h]
      have hl := e_powL hb FUEL t j (e := e) .no .no
      show Tells b e (pPowL (hd b) FUEL t j) _
      cases q2 : pPowL (hd b) FUEL t j with
      | none => trivial
      | some r =>
        rw [q2] at hl
        cases r with
        | error k => exact fin_Sx ((seq_n hs).trans (seq_x hl))
        | ok z =>
          obtain ⟨u, k⟩ := z
          obtain ⟨x, y, hl⟩ := hl
          exact fin_S ((seq_n hs).trans ((seq_n hl).trans rfl))
theorem e_sum (hb : BOk b) {MA : Sl → List D → R (Nw × Sl)} {pa : Nat → PR} (hp : ∀ i, Tells b e (pa i) (MA (S b i e) [])) (i : Nat) : Tells b e (pSum (hd b) FUEL pa i) (Mq_Reader_sums MA (S b i e) []) :=
  e_sums (p := pProd (hd b) FUEL pa) (e_products (e_power hb hp)) i
theorem e_atom (hb : BOk b) : ∀ (k i : Nat), Tells b e (pAtom (hd b) FUEL k i) (M_Reader_atom_ k (S b i e) [])
  | 0, _ => trivial
  | k + 1, i => by
    have hw := hb.hd i
    have e1 := e_is_name hw
    have hs0 : mSet 1 (mMthS "Reader" 0 "ahead" M_Reader_ahead) [S b i e, .no, .no] = .ok (.nx [S b i e, .v (.str (hd b i)), .no]) := by
      simp only [evE, mt_ahead, mv_0 (e_ahead b i e)]
    have hq : fNe [.str (hd b i), .str "("] = some (.v (.bl (!decide (hd b i = "(")))) := Ty.n_str ⟨hw.1, sq1.2.2.1⟩
    unfold pAtom
    by_cases h1 : nameW (hd b i) = true
    · rw [if_pos h1]
      rw [h1] at e1
      show M_Reader_atom_ (k + 1) (S b i e) [] = _
      refine fin_S (Γ := [.v (.str (hd b i)), .no]) ((seq_n hs0).trans (seq_r ?_))
      simp only [evE, e1, mt_taken, mv_0 (e_taken b i e), eT]
    · have h1' := Bool.eq_false_iff.mpr h1
      rw [if_neg h1]
      rw [h1'] at e1
      have hs1 : ∀ (m : En → R Fl) (a : En → R Fl), mSeq (mIf (mT (mCall M_is_name (mA1 (mN 1) mA0))) a mNx) m [S b i e, .v (.str (hd b i)), .no] = m [S b i e, .v (.str (hd b i)), .no] := fun m a => by
        refine seq_n ?_
        simp only [evE, e1]
      by_cases h2 : hd b i = "("
      · rw [if_pos h2]
        rw [decide_eq_true h2, Bool.not_true] at hq
        have hs2 : ∀ (m : En → R Fl) (a : En → R Fl), mSeq (mIf (mT (mB (two fNe) (mA1 (mN 1) (mA1 (mK (.str "(")) mA0)))) a mNx) m [S b i e, .v (.str (hd b i)), .no] = m [S b i e, .v (.str (hd b i)), .no] := fun m a => by
          refine seq_n ?_
          simp only [evE, hq]
        have hh := e_sum hb (e := e) (e_atom hb k) (i + 1)
        unfold then'
        cases q : pSum (hd b) FUEL (pAtom (hd b) FUEL k) (i + 1) with
        | none => trivial
        | some r =>
          rw [q] at hh
          cases r with
          | error j =>
            have hh : Mq_Reader_sums (M_Reader_atom_ k) (S b (i + 1) e) [] = .exc "BadText" (xB (wr b e j)) := hh
            show M_Reader_atom_ (k + 1) (S b i e) [] = _
            exact fin_Sx ((seq_n hs0).trans ((hs1 _ _).trans ((hs2 _ _).trans ((seq_n ra_1).trans (seq_x (set_x ((mt_sums).trans (mv_x hh))))))))
          | ok z =>
            obtain ⟨t, j⟩ := z
            have hh : Mq_Reader_sums (M_Reader_atom_ k) (S b (i + 1) e) [] = .ok (.v (eT t), S b j e) := hh
            have hs3 : mSet 2 (mMthS "Reader" 0 "sums" (Mq_Reader_sums (M_Reader_atom_ k))) [S b (i + 1) e, .v (.str (hd b i)), .no] = .ok (.nx [S b j e, .v (.str (hd b i)), .v (eT t)]) := by
              simp only [evE, mt_sums, mv_0 hh]
            have hq2 : fNe [.str (hd b j), .str ")"] = some (.v (.bl (!decide (hd b j = ")")))) := Ty.n_str ⟨(hb.hd j).1, sq1.2.2.2.1⟩
            show Tells b e (if hd b j = ")" then some (.ok (t, j + 1)) else some (.error j)) (M_Reader_atom_ (k + 1) (S b i e) [])
            by_cases h3 : hd b j = ")"
            · rw [if_pos h3]
              rw [decide_eq_true h3, Bool.not_true] at hq2
              refine fin_S (Γ := [.v (.str (hd b i)), .v (eT t)]) ((seq_n hs0).trans ((hs1 _ _).trans ((hs2 _ _).trans ((seq_n ra_1).trans ((seq_n hs3).trans ((seq_n (Γ1 := [S b j e, .v (.str (hd b i)), .v (eT t)]) ?_).trans ((seq_n ra_1).trans rfl)))))))
              simp only [evE, mt_ahead, mv_0 (e_ahead b j e), hq2]
            · rw [if_neg h3]
              rw [decide_eq_false h3, Bool.not_false] at hq2
              refine fin_Sx ((seq_n hs0).trans ((hs1 _ _).trans ((hs2 _ _).trans ((seq_n ra_1).trans ((seq_n hs3).trans (seq_x ?_))))))
              simp only [evE, mt_ahead, mt_wrong, mv_0 (e_ahead b j e), mv_0 (e_wrong b j e), hq2]
              rfl
      · rw [if_neg h2]
        rw [decide_eq_false h2, Bool.not_false] at hq
        have en := e_number hb i e
        cases hv : numW (hd b i) with
        | none =>
          rw [hv] at en
          show M_Reader_atom_ (k + 1) (S b i e) [] = _
          refine fin_Sx ((seq_n hs0).trans ((hs1 _ _).trans (seq_x ?_)))
          simp only [evE, hq, mt_number, mv_x en]
        | some v =>
          rw [hv] at en
          show M_Reader_atom_ (k + 1) (S b i e) [] = _
          refine fin_S (Γ := [.v (.str (hd b i)), .no]) ((seq_n hs0).trans ((hs1 _ _).trans (seq_r ?_)))
          simp only [evE, hq, mt_number, mv_0 en, eT]
end
theorem at_s {t : Str} {i c : Nat} (h : (signs t)[i]? = some c) : L2.atI t.cps.toList (i : Int) = some c := L2.atI_nat h
theorem cut_mk {t : Str} {a b : Nat} (ha : a ≤ t.length) (hb : b ≤ t.length) : L2.cutS t (some (a : Int)) (some (b : Int)) = mk (((signs t).drop a).take (b - a)) := by
  have e : t.cps.toList.length = t.length := Array.length_toList
  unfold L2.cutS
  rw [HT.sIx_nat, HT.sIx_nat]
  simp only [e, Nat.min_eq_left ha, Nat.min_eq_left hb]
  rfl
theorem wh_end {t : Str} (hz : t.length ≤ 1000000) (xs : List D) {a c : Nat} (hc : (signs t)[a]? = some c) : ∀ (n j : Nat), j ≤ t.length → t.length < n + j →
    mWh Wc_bits_of_2 Wb_bits_of_2 n [.v (.str t), .o xs, .v (.int a), .v (.int j)] = .ok (.nx [.v (.str t), .o xs, .v (.int a), .v (.int (j + (if al c = true then (((signs t).drop j).takeWhile al).length else 0) : Nat))])
  | 0, j, h1, h2 => by omega
  | n + 1, j, h1, h2 => by
    have e0 : (signs t).length = t.length := Array.length_toList
    have hI := at_s hc
    cases q : al c with
    | false =>
      have q' : Txt.isalnum ⟨#[c]⟩ = false := q
      rw [wh_0 n (Γ1 := [.v (.str t), .o xs, .v (.int a), .v (.int j)])]
      · rfl
      · simp only [evE, Wc_bits_of_2, mBm, tyOk, beq_self_eq_true, fAlnum, hz, hI, q']
    | true =>
      have q' : Txt.isalnum ⟨#[c]⟩ = true := q
      by_cases hl : j < t.length
      · have d : decide ((j : Int) < (t.length : Int)) = true := by simpa using hl
        obtain ⟨x, hx⟩ : ∃ x, (signs t)[j]? = some x := ⟨_, List.getElem?_eq_getElem (by rw [e0]; exact hl)⟩
        have hx2 := at_s hx
        have hd : (signs t).drop j = x :: (signs t).drop (j + 1) := by
          have hj : j < (signs t).length := by rw [e0]; exact hl
          rw [List.drop_eq_getElem_cons hj]
          rw [List.getElem?_eq_getElem hj] at hx
          rw [Option.some.inj hx]
        rw [hd, List.takeWhile_cons]
        cases p : al x with
        | false =>
          have p' : Txt.isalnum ⟨#[x]⟩ = false := p
          rw [wh_0 n (Γ1 := [.v (.str t), .o xs, .v (.int a), .v (.int j)])]
          · rfl
          · simp only [evE, Wc_bits_of_2, mBm, tyOk, beq_self_eq_true, fAlnum, fLenS, hz, hI, q', d, hx2, p']
        | true =>
          have p' : Txt.isalnum ⟨#[x]⟩ = true := p
          have ih := wh_end hz xs hc n (j + 1) hl (by omega)
          rw [q] at ih
          rw [wh_1 n (Γ1 := [.v (.str t), .o xs, .v (.int a), .v (.int j)]) (Γ2 := [.v (.str t), .o xs, .v (.int a), .v (.int ((j + 1 : Nat) : Int))]), ih]
          · rw [if_pos rfl, if_pos rfl, if_pos rfl, List.length_cons, show j + ((List.takeWhile al ((signs t).drop (j + 1))).length + 1) = j + 1 + (List.takeWhile al ((signs t).drop (j + 1))).length by omega]
          · simp only [evE, Wc_bits_of_2, mBm, tyOk, beq_self_eq_true, fAlnum, fLenS, hz, hI, q', d, hx2, p']
          · simp only [evE, Wb_bits_of_2]
            rfl
      · have d : decide ((j : Int) < (t.length : Int)) = false := by simpa using hl
        have hj : (signs t).drop j = [] := List.drop_eq_nil_of_le (by omega)
        rw [hj]
        rw [wh_0 n (Γ1 := [.v (.str t), .o xs, .v (.int a), .v (.int j)])]
        · rfl
        · simp only [evE, Wc_bits_of_2, mBm, tyOk, beq_self_eq_true, fAlnum, fLenS, hz, hI, q', d]
def dB (x : Str × Int) : D := .tup [.str x.1, .int x.2]
theorem ok_sign {t : Str} (h : PyData.strOk t = true) {c : Nat} (hc : c ∈ signs t) : PyData.strOk ⟨#[c]⟩ = true := by
  unfold PyData.strOk at h ⊢
  rw [← Array.all_toList, List.all_eq_true] at h
  simpa using h c hc
theorem ne_sp {t : Str} (h : PyData.strOk t = true) {c : Nat} (hc : c ∈ signs t) : fNe [.str ⟨#[c]⟩, .str " "] = some (.v (.bl (!decide (c = 32)))) := by
  rw [Ty.n_str ⟨ok_sign h hc, by decide +kernel⟩]
  have : decide ((⟨#[c]⟩ : Str) = " ") = decide (c = 32) := by
    rw [show (" " : Str) = ⟨#[32]⟩ by decide +kernel]
    simp
  rw [this]
theorem wh_bits {t : Str} (hs : PyData.strOk t = true) (hz : t.length ≤ 1000000) : ∀ (n m a : Nat) (xs : List D) (s3 : Sl), a ≤ t.length → t.length < n + a → t.length < m + a → xs.length ≤ a →
    ∃ s2 s3', mWh Wc_bits_of_1 Wb_bits_of_1 n [.v (.str t), .o xs, .v (.int a), s3] = .ok (.nx [.v (.str t), .o (xs ++ (bitsF m ((signs t).drop a) a).map dB), s2, s3'])
  | 0, m, a, xs, s3, h1, h2, h3, h4 => by omega
  | n + 1, 0, a, xs, s3, h1, h2, h3, h4 => by omega
  | n + 1, m + 1, a, xs, s3, h1, h2, h3, h4 => by
    have e0 : (signs t).length = t.length := Array.length_toList
    by_cases hl : a < t.length
    · have d : decide ((a : Int) < (t.length : Int)) = true := by simpa using hl
      have hj : a < (signs t).length := by rw [e0]; exact hl
      have hx : (signs t)[a]? = some (signs t)[a] := List.getElem?_eq_getElem hj
      have hm : (signs t)[a] ∈ signs t := List.getElem_mem hj
      rw [List.drop_eq_getElem_cons hj]
      generalize (signs t)[a] = c at *
      have hI := at_s hx
      have hn := ne_sp hs hm
      have hr := runL_le c ((signs t).drop (a + 1))
      rw [List.length_drop, e0] at hr
      have hw := wh_end hz xs hx FUEL (a + 1) hl (by unfold FUEL; omega)
      rw [show (if al c = true then (((signs t).drop (a + 1)).takeWhile al).length else 0) = runL c ((signs t).drop (a + 1)) from rfl] at hw
      have hcut := cut_mk (t := t) (a := a) (b := a + 1 + runL c ((signs t).drop (a + 1))) h1 (by omega)
      rw [show a + 1 + runL c ((signs t).drop (a + 1)) - a = runL c ((signs t).drop (a + 1)) + 1 by omega, List.drop_eq_getElem_cons hj, List.take_succ_cons] at hcut
      have hcc : (signs t)[a] = c := by
        rw [List.getElem?_eq_getElem hj] at hx
        exact Option.some.inj hx
      rw [hcc] at hcut
      show ∃ s2 s3', mWh Wc_bits_of_1 Wb_bits_of_1 (n + 1) [.v (.str t), .o xs, .v (.int a), s3] = .ok (.nx [.v (.str t), .o (xs ++ ((if c = 32 then [] else [(mk (c :: ((signs t).drop (a + 1)).take (runL c ((signs t).drop (a + 1)))), (a : Int))]) ++ bitsF m (((signs t).drop (a + 1)).drop (runL c ((signs t).drop (a + 1)))) (a + 1 + runL c ((signs t).drop (a + 1)))).map dB), s2, s3'])
      rw [List.drop_drop]
      generalize hk : runL c ((signs t).drop (a + 1)) = k at *
      have hc1 : Wc_bits_of_1 [.v (.str t), .o xs, .v (.int a), s3] = .ok (true, [.v (.str t), .o xs, .v (.int a), s3]) := by
        simp only [evE, Wc_bits_of_1, fLenS, hz, d]
      have hb1 : mSet 3 (mB (two fAdd) (mA1 (mN 2) (mA1 (mK (.int 1)) mA0))) [.v (.str t), .o xs, .v (.int a), s3] = .ok (.nx [.v (.str t), .o xs, .v (.int a), .v (.int ((a + 1 : Nat) : Int))]) := by
        simp only [evE, fAdd]; rfl
      by_cases h32 : c = 32
      · rw [decide_eq_true h32, Bool.not_true] at hn
        rw [if_pos h32, List.nil_append]
        obtain ⟨s2, s3', ih⟩ := wh_bits hs hz n m (a + 1 + k) xs (.v (.int ((a + 1 + k : Nat) : Int))) (by omega) (by omega) (by omega) (by omega)
        refine ⟨s2, s3', ?_⟩
        rw [wh_1 n hc1 (Γ2 := [.v (.str t), .o xs, .v (.int ((a + 1 + k : Nat) : Int)), .v (.int ((a + 1 + k : Nat) : Int))]), ih]
        refine (seq_n hb1).trans ((seq_n hw).trans ((seq_n (Γ1 := [.v (.str t), .o xs, .v (.int a), .v (.int ((a + 1 + k : Nat) : Int))]) ?_).trans ?_))
        · simp only [evE, hz, hI, hn]
        · simp only [evE]
      · rw [decide_eq_false h32, Bool.not_false] at hn
        rw [if_neg h32]
        obtain ⟨s2, s3', ih⟩ := wh_bits hs hz n m (a + 1 + k) (xs ++ [dB (mk (c :: ((signs t).drop (a + 1)).take k), (a : Int))]) (.v (.int ((a + 1 + k : Nat) : Int))) (by omega) (by omega) (by omega) (by simp; omega)
        refine ⟨s2, s3', ?_⟩
        rw [wh_1 n hc1 (Γ2 := [.v (.str t), .o (xs ++ [dB (mk (c :: ((signs t).drop (a + 1)).take k), (a : Int))]), .v (.int ((a + 1 + k : Nat) : Int)), .v (.int ((a + 1 + k : Nat) : Int))]), ih]
        · rw [List.map_append, List.append_assoc]; rfl
        · have hxs : xs.length < 1000000 := by omega
          refine (seq_n hb1).trans ((seq_n hw).trans ((seq_n (Γ1 := [.v (.str t), .o (xs ++ [dB (mk (c :: ((signs t).drop (a + 1)).take k), (a : Int))]), .v (.int a), .v (.int ((a + 1 + k : Nat) : Int))]) ?_).trans ?_))
          · simp only [evE, hz, hI, hn, mSlB, hcut, fApp, hxs, dB]
          · simp only [evE]
    · have d : decide ((a : Int) < (t.length : Int)) = false := by simpa using hl
      refine ⟨.v (.int a), s3, ?_⟩
      rw [List.drop_eq_nil_of_le (show (signs t).length ≤ a by omega)]
      rw [wh_0 n (Γ1 := [.v (.str t), .o xs, .v (.int a), s3])]
      · show _ = R.ok (Fl.nx [.v (.str t), .o (xs ++ []), .v (.int a), s3])
        rw [List.append_nil]
      · simp only [evE, Wc_bits_of_1, fLenS, hz, d]
theorem e_bits {t : Str} (hs : PyData.strOk t = true) (hz : t.length ≤ 1000000) : M_bits_of [.str t] = .ok (.o ((bitsL (signs t)).map dB)) := by
  have e0 : (signs t).length = t.length := Array.length_toList
  obtain ⟨s2, s3, h⟩ := wh_bits hs hz FUEL ((signs t).length + 1) 0 [] .no (Nat.zero_le _) (by unfold FUEL; omega) (by omega) (Nat.zero_le _)
  have hb : B_bits_of [.v (.str t), .no, .no, .no] = .ok (.rt (.o ((bitsL (signs t)).map dB)) [.v (.str t), .no, s2, s3]) := by
    refine (seq_n (Γ1 := [.v (.str t), .o [], .no, .no]) (by simp only [evE])).trans ((seq_n (Γ1 := [.v (.str t), .o [], .v (.int ((0 : Nat) : Int)), .no]) (by simp only [evE]; rfl)).trans ((seq_n h).trans ?_))
    rfl
  show R.bind (B_bits_of [.v (.str t), .no, .no, .no]) _ = _
  rw [hb]; rfl
def bt (t : Str) : Bt := bitsL (signs t)
theorem e_init {t : Str} (hs : PyData.strOk t = true) (hz : t.length ≤ 1000000) : M_Reader___init__ (.m (.r "Reader" []) []) [.str t] = .ok (.v .non, S (bt t) 0 t.length) := by
  have h1 : mRp "Reader" 0 "bits" (mCall M_bits_of (mA1 (mN 1) mA0)) [.m (.r "Reader" []) [], .v (.str t)] = .ok (.nx [.m (.r "Reader" ["bits"]) [bD (bt t)], .v (.str t)]) := by
    unfold mRp
    rw [show mFz1 (mCall M_bits_of (mA1 (mN 1) mA0)) [.m (.r "Reader" []) [], .v (.str t)] = .ok (bD (bt t), [.m (.r "Reader" []) [], .v (.str t)]) by
      simp only [evE, e_bits hs hz]; rfl]
    rfl
  have h2 : mRp "Reader" 0 "spot" (mK (.int 0)) [.m (.r "Reader" ["bits"]) [bD (bt t)], .v (.str t)] = .ok (.nx [.m (.r "Reader" ["bits", "spot"]) [bD (bt t), .int 0], .v (.str t)]) := rfl
  have h3 : mRp "Reader" 0 "end" (mB fLenS (mA1 (mN 1) mA0)) [.m (.r "Reader" ["bits", "spot"]) [bD (bt t), .int 0], .v (.str t)] = .ok (.nx [S (bt t) 0 t.length, .v (.str t)]) := by
    unfold mRp
    rw [show mFz1 (mB fLenS (mA1 (mN 1) mA0)) [.m (.r "Reader" ["bits", "spot"]) [bD (bt t), .int 0], .v (.str t)] = .ok (.int t.length, [.m (.r "Reader" ["bits", "spot"]) [bD (bt t), .int 0], .v (.str t)]) by
      simp only [evE, fLenS, hz]]
    rfl
  show R.bind (B_Reader___init__ [.m (.r "Reader" []) [], .v (.str t)]) _ = _
  rw [show B_Reader___init__ [.m (.r "Reader" []) [], .v (.str t)] = _ from (seq_n h1).trans ((seq_n h2).trans h3)]
  rfl
theorem bt_ok {t : Str} (hs : PyData.strOk t = true) (hz : t.length ≤ 1000) : BOk (bt t) := fun x hx => by
  obtain ⟨h1, _, h3⟩ := bitsF_in _ _ _ x hx
  have e0 : (signs t).length = t.length := Array.length_toList
  refine ⟨?_, by omega⟩
  unfold PyData.strOk at hs ⊢
  rw [← Array.all_toList, List.all_eq_true] at hs ⊢
  exact fun c hc => hs c (h1 c hc)
theorem e_read {t : Str} (hs : PyData.strOk t = true) (hz : t.length ≤ 1000) {r : Except Nat Tr} (h : pRead (hd (bt t)) FUEL 40 = some r) :
    M_read [.str t] = (match r with | .ok u => .ok (.v (eT u)) | .error j => .exc "BadText" (xB (wr (bt t) t.length j))) := by
  have hb := bt_ok hs hz
  have hi := e_init hs (Nat.le_trans hz (by decide))
  have h1 : mSetD 1 (mRm "Reader" M_Reader___init__ (mA1 (mN 0) mA0)) [.v (.str t), .no, .no] = .ok (.nx [.v (.str t), S (bt t) 0 t.length, .no]) := by
    unfold mSetD mRm
    show R.bind (R.bind (R.ok ([BV.v (.str t)], [Sl.v (.str t), .no, .no])) _) _ = _
    show R.bind (match M_Reader___init__ (.m (.r "Reader" []) []) [.str t] with | .ok (.v .non, .m k xs) => R.ok ((k, xs), [Sl.v (.str t), .no, .no]) | .exc c fs => .exc c fs | _ => .bad) _ = _
    rw [hi]
    rfl
  have hm := e_sum hb (e := t.length) (e_atom hb 40) 0
  unfold pRead at h
  show R.bind (B_read [.v (.str t), .no, .no]) _ = _
  cases q : pSum (hd (bt t)) FUEL (pAtom (hd (bt t)) FUEL 40) 0 with
  | none => rw [q] at h; cases h
  | some v =>
    rw [q] at h hm
    cases v with
    | error j =>
      cases h
      have hm : M_Reader_sums (S (bt t) 0 t.length) [] = .exc "BadText" (xB (wr (bt t) t.length j)) := hm
      rw [show B_read [.v (.str t), .no, .no] = _ from (seq_n h1).trans (seq_x (set_x ((mu_sums).trans (mw_x hm))))]
      rfl
    | ok z =>
      obtain ⟨u, j⟩ := z
      have hm : M_Reader_sums (S (bt t) 0 t.length) [] = .ok (.v (eT u), S (bt t) j t.length) := hm
      have h2 : mSet 2 (mMthS "Reader" 1 "sums" M_Reader_sums) [.v (.str t), S (bt t) 0 t.length, .no] = .ok (.nx [.v (.str t), S (bt t) j t.length, .v (eT u)]) := by
        simp only [evE, mu_sums, mw_0 hm]
      have hq : fNe [.str (hd (bt t) j), .str ""] = some (.v (.bl (!decide (hd (bt t) j = "")))) := Ty.n_str ⟨(hb.hd j).1, sq1.2.2.2.2⟩
      dsimp only at h
      by_cases h0 : hd (bt t) j = ""
      · rw [if_pos h0] at h
        cases h
        rw [decide_eq_true h0, Bool.not_true] at hq
        rw [show B_read [.v (.str t), .no, .no] = _ from (seq_n h1).trans ((seq_n h2).trans ((seq_n (Γ1 := [.v (.str t), S (bt t) j t.length, .v (eT u)]) (by simp only [evE, mu_ahead, mw_0 (e_ahead (bt t) j t.length), hq])).trans rfl))]
        rfl
      · rw [if_neg h0] at h
        cases h
        rw [decide_eq_false h0, Bool.not_false] at hq
        have hx : mRaise "BadText" ["at"] (mA1 (mMthS "Reader" 1 "wrong" M_Reader_wrong) mA0) [.v (.str t), S (bt t) j t.length, .v (eT u)] = .exc "BadText" (xB (wr (bt t) t.length j)) := by
          simp only [evE, mu_wrong, mw_0 (e_wrong (bt t) j t.length)]
          rfl
        rw [show B_read [.v (.str t), .no, .no] = _ from (seq_n h1).trans ((seq_n h2).trans (seq_x ((if_1 (Γ1 := [.v (.str t), S (bt t) j t.length, .v (eT u)]) (by simp only [evE, mu_ahead, mw_0 (e_ahead (bt t) j t.length), hq])).trans hx)))]
        rfl
end K53
namespace Tg
open PySem Rg
def two4 : List Str := ["plus", "minus", "times", "over"]
def two2 : List Str := ["plus", "minus"]
def kd : Tr → Str
  | .name _ => "name"
  | .num _ => "number"
  | .turned _ => "turned"
  | .power _ _ => "power"
  | .bin w _ _ => w
def sg (w : Str) : Str := if w = "plus" then " + " else if w = "minus" then " - " else if w = "times" then " * " else " / "
def numT (n : Int) : Str := (toString n : String)
def sht (ks : List Str) (t : Tr) (s : Str) : Str := if kd t ∈ ks then (("(" : Str) ++ s) ++ (")" : Str) else s
def txt : Tr → Str
  | .name s => s
  | .num n => numT n
  | .turned t => sht two4 t (txt t) ++ ("'" : Str)
  | .power t n => (sht two4 t (txt t) ++ ("^" : Str)) ++ numT n
  | .bin w a b => if w ∈ two2 then (txt a ++ sg w) ++ sht two2 b (txt b) else (sht two2 a (txt a) ++ sg w) ++ sht two4 b (txt b)
def WT (ns : List Str) : Tr → Prop
  | .name s => s ∈ ns
  | .num n => 0 ≤ n ∧ n < 1000000
  | .turned t => WT ns t
  | .power t n => WT ns t ∧ -999999 ≤ n ∧ n ≤ 999999
  | .bin w a b => w ∈ two4 ∧ WT ns a ∧ WT ns b
def dp : Tr → Nat
  | .name _ => 0
  | .num _ => 0
  | .turned t => dp t + 1
  | .power t _ => dp t + 1
  | .bin _ a b => max (dp a) (dp b) + 1
theorem sg_app (a b : Str) : signs (a ++ b) = signs a ++ signs b := by
  show (a.cps ++ b.cps).toList = a.cps.toList ++ b.cps.toList
  simp
theorem len_sg (a : Str) : a.length = (signs a).length := (Array.length_toList).symm
theorem len_app (a b : Str) : (a ++ b).length = a.length + b.length := by rw [len_sg, sg_app, List.length_append, ← len_sg, ← len_sg]
theorem ok_sg {a : Str} : PyData.strOk a = true ↔ ∀ c ∈ signs a, c < 0x110000 := by
  unfold PyData.strOk signs
  rw [← Array.all_toList, List.all_eq_true]
  simp
def Nice (s : Str) (L C : Nat) : Prop := PyData.strOk s = true ∧ s.length ≤ L ∧ (signs s).count 40 ≤ C
theorem Nice.app {a b : Str} {L C L' C' : Nat} (h : Nice a L C) (g : Nice b L' C') : Nice (a ++ b) (L + L') (C + C') := by
  refine ⟨ok_sg.mpr fun c hc => ?_, by rw [len_app]; have := h.2.1; have := g.2.1; omega, by rw [sg_app, List.count_append]; have := h.2.2; have := g.2.2; omega⟩
  rw [sg_app] at hc
  rcases List.mem_append.mp hc with q | q
  · exact ok_sg.mp h.1 c q
  · exact ok_sg.mp g.1 c q
theorem Nice.mono {a : Str} {L C L' C' : Nat} (h : Nice a L C) (h1 : L ≤ L') (h2 : C ≤ C') : Nice a L' C' := ⟨h.1, Nat.le_trans h.2.1 h1, Nat.le_trans h.2.2 h2⟩
theorem num_nat (m : Nat) : ∀ c ∈ signs (numT (m : Int)), 48 ≤ c ∧ c ≤ 57 := fun c hc => by
  have hc : c ∈ (PySem.Str.ofString (toString ((m : Nat) : Int))).cps.toList := hc
  rw [PySem.W.KIN.signs_num] at hc
  obtain ⟨ch, hch, e⟩ := List.mem_map.mp hc
  rw [← e]
  exact PyProof.Rows.digit_range (Nat.isDigit_of_mem_toDigits (by decide) (by decide) hch)
theorem num_neg (m : Nat) : signs (numT (-((m + 1 : Nat) : Int))) = 45 :: signs (numT ((m + 1 : Nat) : Int)) := by
  show (PySem.Str.ofString ("-" ++ toString (m + 1))).cps.toList = 45 :: (PySem.Str.ofString (toString (m + 1))).cps.toList
  rw [PyProof.Rows.signs_ofString, PyProof.Rows.signs_ofString, String.toList_append, List.map_append]
  rfl
theorem num_nice {n : Int} (h : -1000000 ≤ n ∧ n ≤ 1000000) : Nice (numT n) 11 0 := by
  have nn : ∀ m : Nat, m ≤ 1000000 → Nice (numT (m : Int)) 10 0 := fun m hm => by
    refine ⟨ok_sg.mpr fun c hc => by have := num_nat m c hc; omega, PySem.W.KT.len_num (by omega) (by omega), ?_⟩
    rw [List.count_eq_zero.mpr fun z => by have := num_nat m 40 z; omega]
    exact Nat.le_refl _
  by_cases h0 : 0 ≤ n
  · obtain ⟨m, rfl⟩ := Int.eq_ofNat_of_zero_le h0
    exact (nn m (by omega)).mono (by omega) (by omega)
  · obtain ⟨m, hm⟩ : ∃ m : Nat, n = -((m + 1 : Nat) : Int) := ⟨(-n - 1).toNat, by omega⟩
    subst hm
    obtain ⟨h1, h2, h3⟩ := nn (m + 1) (by omega)
    have e := num_neg m
    refine ⟨ok_sg.mpr fun c hc => ?_, by rw [len_sg, e, List.length_cons, ← len_sg]; omega, ?_⟩
    · rw [e] at hc
      rcases List.mem_cons.mp hc with q | q
      · omega
      · exact ok_sg.mp h1 c q
    · rw [e, List.count_cons]
      simpa using h3
def lB : Nat → Nat
  | 0 => 11
  | d + 1 => 2 * lB d + 20
def cB : Nat → Nat
  | 0 => 0
  | d + 1 => 2 * cB d + 2
theorem lB_le {a b : Nat} (h : a ≤ b) : lB a ≤ lB b := by
  induction h with
  | refl => exact Nat.le_refl _
  | step _ ih => exact Nat.le_trans ih (by rename_i m _; show lB m ≤ 2 * lB m + 20; omega)
theorem cB_le {a b : Nat} (h : a ≤ b) : cB a ≤ cB b := by
  induction h with
  | refl => exact Nat.le_refl _
  | step _ ih => exact Nat.le_trans ih (by rename_i m _; show cB m ≤ 2 * cB m + 2; omega)
theorem n_one : Nice ("(" : Str) 1 1 ∧ Nice (")" : Str) 1 0 ∧ Nice ("'" : Str) 1 0 ∧ Nice ("^" : Str) 1 0 := by unfold Nice; decide +kernel
theorem sg_nice (w : Str) : Nice (sg w) 3 0 := by
  unfold sg
  split
  · unfold Nice; decide +kernel
  · split
    · unfold Nice; decide +kernel
    · split
      · unfold Nice; decide +kernel
      · unfold Nice; decide +kernel
theorem sht_nice {ks : List Str} {t : Tr} {s : Str} {L C : Nat} (h : Nice s L C) : Nice (sht ks t s) (L + 2) (C + 1) := by
  unfold sht
  split
  · exact ((n_one.1.app h).app n_one.2.1).mono (by omega) (by omega)
  · exact h.mono (by omega) (by omega)
theorem txt_nice {ns : List Str} (hn : ∀ s ∈ ns, Nice s 11 0) : ∀ t, WT ns t → Nice (txt t) (lB (dp t)) (cB (dp t))
  | .name s, h => hn s h
  | .num n, h => num_nice ⟨by have := h.1; omega, by have := h.2; omega⟩
  | .turned t, h => ((sht_nice (ks := two4) (t := t) (txt_nice hn t h)).app n_one.2.2.1).mono (by show _ ≤ 2 * lB (dp t) + 20; omega) (by show _ ≤ 2 * cB (dp t) + 2; omega)
  | .power t n, h => by
    obtain ⟨h1, h2, h3⟩ := h
    exact (((sht_nice (ks := two4) (t := t) (txt_nice hn t h1)).app n_one.2.2.2).app (num_nice ⟨by omega, by omega⟩)).mono (by show _ ≤ 2 * lB (dp t) + 20; omega) (by show _ ≤ 2 * cB (dp t) + 2; omega)
  | .bin w a b, h => by
    obtain ⟨_, h1, h2⟩ := h
    have la := lB_le (Nat.le_max_left (dp a) (dp b))
    have lb := lB_le (Nat.le_max_right (dp a) (dp b))
    have ca := cB_le (Nat.le_max_left (dp a) (dp b))
    have cb := cB_le (Nat.le_max_right (dp a) (dp b))
    have e1 : lB (dp (.bin w a b)) = 2 * lB (max (dp a) (dp b)) + 20 := rfl
    have e2 : cB (dp (.bin w a b)) = 2 * cB (max (dp a) (dp b)) + 2 := rfl
    unfold txt
    split
    · exact (((txt_nice hn a h1).app (sg_nice w)).app (sht_nice (txt_nice hn b h2))).mono (by omega) (by omega)
    · exact (((sht_nice (txt_nice hn a h1)).app (sg_nice w)).app (sht_nice (txt_nice hn b h2))).mono (by omega) (by omega)
end Tg
namespace Tg
open PySem Rg
def wd (s : Str) : List Str := (bitsL (signs s)).map (·.1)
theorem lawF_app : ∀ (a b : List Nat) (p : Bool) (at0 : Nat) (acc : Bt), lawF (a ++ b) p at0 acc = lawF b ((a.getLast?.map al).getD p) (at0 + a.length) (lawF a p at0 acc)
  | [], b, p, at0, acc => rfl
  | c :: r, b, p, at0, acc => by
    have ih := lawF_app r b
    have hl : ∀ q, (((c :: r).getLast?).map al).getD q = ((r.getLast?).map al).getD (al c) := fun q => by
      rw [List.getLast?_cons]
      cases r.getLast? <;> rfl
    show (if c = 32 then lawF (r ++ b) false (at0 + 1) acc else if (al c && p) = true then lawF (r ++ b) true (at0 + 1) _ else lawF (r ++ b) (al c) (at0 + 1) _) = lawF b _ (at0 + (r.length + 1)) (if c = 32 then lawF r false (at0 + 1) acc else if (al c && p) = true then lawF r true (at0 + 1) _ else lawF r (al c) (at0 + 1) _)
    rw [hl]
    have e1 : at0 + 1 + r.length = at0 + (r.length + 1) := by omega
    split
    · rename_i h
      rw [ih, e1, h, al_sp]
    · split
      · rename_i h
        have hc : al c = true := (Bool.and_eq_true_iff.mp h).1
        rw [ih, e1, hc]
      · rw [ih, e1]
theorem bitsF_shift : ∀ (n : Nat) (cs : List Nat) (a b : Nat), (bitsF n cs a).map (·.1) = (bitsF n cs b).map (·.1)
  | 0, _, _, _ => rfl
  | n + 1, [], _, _ => rfl
  | n + 1, c :: r, a, b => by
    show ((if c = 32 then [] else [(mk (c :: r.take (runL c r)), (a : Int))]) ++ bitsF n _ _).map _ = ((if c = 32 then [] else [(mk (c :: r.take (runL c r)), (b : Int))]) ++ bitsF n _ _).map _
    rw [List.map_append, List.map_append, bitsF_shift n _ _ (b + 1 + runL c r)]
    split <;> rfl
def NS (s : Str) : Prop := ∀ c, (signs s).head? = some c → al c = false
def NE (s : Str) : Prop := ∀ c, (signs s).getLast? = some c → al c = false
theorem wd_app {a b : Str} (h : NE a ∨ NS b) : wd (a ++ b) = wd a ++ wd b := by
  unfold wd
  rw [← lawF_eq (signs (a ++ b)), sg_app, lawF_app, lawF_eq (signs a), Nat.zero_add]
  have e : lawF (signs b) (((signs a).getLast?.map al).getD false) (signs a).length (bitsL (signs a)) = lawF (signs b) false (signs a).length (bitsL (signs a)) := by
    cases hp : ((signs a).getLast?.map al).getD false with
    | false => rfl
    | true =>
      rcases h with h | h
      · cases hl : (signs a).getLast? with
        | none => rw [hl] at hp; cases hp
        | some c =>
          rw [hl] at hp
          have := h c hl
          have hp : al c = true := hp
          rw [this] at hp; cases hp
      · exact lawF_off h _ _
  rw [e, lawF_bits _ _ _ _ (Nat.lt_succ_self _), List.map_append]
  congr 1
  exact bitsF_shift _ _ _ _
theorem wd_al {s : Str} (h0 : signs s ≠ []) (h : ∀ c ∈ signs s, al c = true) : wd s = [s] := by
  unfold wd bitsL
  cases hs : signs s with
  | nil => exact absurd hs h0
  | cons c r =>
    rw [hs] at h
    have hc := h c (List.mem_cons_self ..)
    have h32 : c ≠ 32 := fun z => by rw [z, al_sp] at hc; cases hc
    have ht : r.takeWhile al = r := by
      exact NumText.takeWhile_all fun x hx => h x (List.mem_cons_of_mem _ hx)
    have hr : runL c r = r.length := by
      unfold runL
      rw [if_pos hc, ht]
    show ((if c = 32 then [] else [(mk (c :: r.take (runL c r)), ((0 : Nat) : Int))]) ++ bitsF (r.length + 1) (r.drop (runL c r)) _).map _ = _
    rw [hr, List.take_length, List.drop_length, if_neg h32]
    show [mk (c :: r)] = [s]
    rw [← hs, mk_sg']
where
  mk_sg' {s : Str} : mk (signs s) = s := by
    obtain ⟨a⟩ := s
    rfl
inductive Wr : Nat → Tr → List Str → Prop where
  | name {s} : nameW s = true → Wr 0 (.name s) [s]
  | num {w n} : nameW w = false → w ≠ "(" → numW w = some n → Wr 0 (.num n) [w]
  | par {t l} : Wr 3 t l → Wr 0 t (((("(" : Str)) :: l) ++ [(")" : Str)])
  | up {k t l} : Wr k t l → k < 3 → Wr (k + 1) t l
  | turned {t l} : Wr 1 t l → Wr 1 (.turned t) (l ++ [("'" : Str)])
  | pow {t l w n} : Wr 1 t l → numW w = some n → w ≠ "-" → Wr 1 (.power t n) (l ++ [("^" : Str), w])
  | pon {t l w n} : Wr 1 t l → numW w = some n → Wr 1 (.power t (0 - n)) (l ++ [("^" : Str), ("-" : Str), w])
  | prod {a b l r o w} : Wr 2 a l → Wr 1 b r → lkS kP o = some w → Wr 2 (.bin w a b) ((l ++ [o]) ++ r)
  | sum {a b l r o w} : Wr 3 a l → Wr 2 b r → lkS kS o = some w → Wr 3 (.bin w a b) ((l ++ [o]) ++ r)
def At (f : Nat → Str) (i : Nat) (l : List Str) : Prop := ∀ k (h : k < l.length), f (i + k) = l[k]
section
variable {f : Nat → Str}
theorem At.left {i : Nat} {a b : List Str} (h : At f i (a ++ b)) : At f i a := fun k hk => by
  rw [h k (by rw [List.length_append]; omega), List.getElem_append_left hk]
theorem At.right {i : Nat} {a b : List Str} (h : At f i (a ++ b)) : At f (i + a.length) b := fun k hk => by
  have := h (a.length + k) (by rw [List.length_append]; omega)
  rw [Nat.add_assoc, this, List.getElem_append_right (by omega)]
  congr 1; omega
theorem At.head {i : Nat} {w : Str} {l : List Str} (h : At f i (w :: l)) : f i = w := h 0 (by simp)
theorem At.tail {i : Nat} {w : Str} {l : List Str} (h : At f i (w :: l)) : At f (i + 1) l := At.right (a := [w]) h
theorem kP_vals : ∀ o w, lkS kP o = some w → CP o ∧ (o = "*" ∧ w = "times" ∨ o = "/" ∧ w = "over") := fun o w h => by
  unfold lkS kP at h
  simp only [List.find?_cons, List.find?_nil] at h
  by_cases h1 : ("*" : Str) = o
  · rw [decide_eq_true h1] at h
    cases h
    subst h1
    exact ⟨by decide +kernel, .inl ⟨rfl, rfl⟩⟩
  · rw [decide_eq_false h1] at h
    by_cases h2 : ("/" : Str) = o
    · rw [decide_eq_true h2] at h
      cases h
      subst h2
      exact ⟨by decide +kernel, .inr ⟨rfl, rfl⟩⟩
    · rw [decide_eq_false h2] at h; cases h
theorem kS_vals : ∀ o w, lkS kS o = some w → (CP o ∧ lkS kP o = none) ∧ (o = "+" ∧ w = "plus" ∨ o = "-" ∧ w = "minus") := fun o w h => by
  unfold lkS kS at h
  simp only [List.find?_cons, List.find?_nil] at h
  by_cases h1 : ("+" : Str) = o
  · rw [decide_eq_true h1] at h
    cases h
    subst h1
    exact ⟨by decide +kernel, .inl ⟨rfl, rfl⟩⟩
  · rw [decide_eq_false h1] at h
    by_cases h2 : ("-" : Str) = o
    · rw [decide_eq_true h2] at h
      cases h
      subst h2
      exact ⟨by decide +kernel, .inr ⟨rfl, rfl⟩⟩
    · rw [decide_eq_false h2] at h; cases h
theorem powL_end {n : Nat} {t : Tr} {i : Nat} (h : CP (f i)) : pPowL f (n + 1) t i = some (.ok (t, i)) := by
  rw [pPowL, if_neg h.1, if_neg h.2]
theorem ops_end {kvs : List (Str × Str)} {p : Nat → PR} {n : Nat} {t : Tr} {i : Nat} (h : lkS kvs (f i) = none) : ops kvs f p (n + 1) t i = some (.ok (t, i)) := by
  rw [ops, h]
def Reads (f : Nat → Str) (N K : Nat) (k : Nat) (t : Tr) (l : List Str) (i : Nat) : Prop := match k with
  | 0 => pAtom f N K i = some (.ok (t, i + l.length))
  | 1 => ∃ c, c ≤ l.length ∧ ∀ m, then' (pAtom f N K i) (pPowL f (m + c)) = pPowL f m t (i + l.length)
  | 2 => CP (f (i + l.length)) → ∃ c, c ≤ l.length ∧ ∀ m, then' (pPow f N (pAtom f N K) i) (ops kP f (pPow f N (pAtom f N K)) (m + c)) = ops kP f (pPow f N (pAtom f N K)) m t (i + l.length)
  | _ => CP (f (i + l.length)) ∧ lkS kP (f (i + l.length)) = none → ∃ c, c ≤ l.length ∧ ∀ m, then' (pProd f N (pAtom f N K) i) (ops kS f (pProd f N (pAtom f N K)) (m + c)) = ops kS f (pProd f N (pAtom f N K)) m t (i + l.length)
theorem r1 {N K : Nat} {t : Tr} {l : List Str} {i : Nat} (hN : l.length < N) (h : Reads f N K 1 t l i) (hc : CP (f (i + l.length))) : pPow f N (pAtom f N K) i = some (.ok (t, i + l.length)) := by
  obtain ⟨c, hc1, h⟩ := h
  obtain ⟨m, rfl⟩ : ∃ m, N = (m + 1) + c := ⟨N - c - 1, by omega⟩
  unfold pPow
  rw [h (m + 1), powL_end hc]
theorem r2 {N K : Nat} {t : Tr} {l : List Str} {i : Nat} (hN : l.length < N) (h : Reads f N K 2 t l i) (hc : CP (f (i + l.length))) (hp : lkS kP (f (i + l.length)) = none) : pProd f N (pAtom f N K) i = some (.ok (t, i + l.length)) := by
  obtain ⟨c, hc1, h⟩ := h hc
  obtain ⟨m, rfl⟩ : ∃ m, N = (m + 1) + c := ⟨N - c - 1, by omega⟩
  unfold pProd
  rw [h (m + 1), ops_end hp]
theorem r3 {N K : Nat} {t : Tr} {l : List Str} {i : Nat} (hN : l.length < N) (h : Reads f N K 3 t l i) (hc : CQ (f (i + l.length))) : pSum f N (pAtom f N K) i = some (.ok (t, i + l.length)) := by
  obtain ⟨c, hc1, h⟩ := h hc.1
  obtain ⟨m, rfl⟩ : ∃ m, N = (m + 1) + c := ⟨N - c - 1, by omega⟩
  unfold pSum
  rw [h (m + 1), ops_end hc.2]
theorem cq_p : CQ (")" : Str) ∧ CQ ("" : Str) := by decide +kernel
theorem reads {N : Nat} : ∀ {k t l}, Wr k t l → ∀ (K i : Nat), l.length < N → l.count ("(" : Str) < K → At f i l → Reads f N K k t l i := by
  intro k t l h
  induction h with
  | @name s hs =>
    intro K i _ hK ha
    obtain ⟨K, rfl⟩ : ∃ j, K = j + 1 := ⟨K - 1, by omega⟩
    show pAtom f N (K + 1) i = _
    rw [pAtom, ha.head, if_pos hs]; rfl
  | @num w n h1 h2 h3 =>
    intro K i _ hK ha
    obtain ⟨K, rfl⟩ : ∃ j, K = j + 1 := ⟨K - 1, by omega⟩
    show pAtom f N (K + 1) i = _
    rw [pAtom, ha.head, if_neg (by rw [h1]; decide), if_neg h2, h3]; rfl
  | @par t l _ ih =>
    intro K i hN hK ha
    rw [List.length_append, List.length_cons] at hN
    have hcn : (((("(" : Str)) :: l) ++ [(")" : Str)]).count ("(" : Str) = l.count ("(" : Str) + 1 := by
      rw [List.count_append, List.count_cons, List.count_singleton]
      rw [show ((")" : Str) == "(") = false by decide +kernel, show (("(" : Str) == "(") = true by decide +kernel]
      rfl
    rw [hcn] at hK
    obtain ⟨K, rfl⟩ : ∃ j, K = j + 1 := ⟨K - 1, by omega⟩
    have h1 : f i = "(" := ha.left.head
    have h2 := ih K (i + 1) (by omega) (by omega) ha.left.tail
    have h3 : f (i + 1 + l.length) = ")" := by
      have := ha.right.head
      rw [List.length_cons] at this
      rw [show i + 1 + l.length = i + (l.length + 1) by omega]; exact this
    have h4 := r3 (by omega) h2 (by rw [h3]; exact cq_p.1)
    show pAtom f N (K + 1) i = _
    rw [pAtom, h1, if_neg (by decide +kernel), if_pos rfl, h4]
    show (if f (i + 1 + l.length) = ")" then _ else _) = _
    rw [if_pos h3]
    congr 3
    rw [List.length_append, List.length_cons]
    show i + 1 + l.length + 1 = i + (l.length + 1 + 1)
    omega
  | @up k t l _ hk ih =>
    intro K i hN hK ha
    have h := ih K i hN hK ha
    match k, hk, h with
    | 0, _, h =>
      have h : pAtom f N K i = some (.ok (t, i + l.length)) := h
      exact ⟨0, Nat.zero_le _, fun m => by rw [h]; rfl⟩
    | 1, _, h => exact fun hc => ⟨0, Nat.zero_le _, fun m => by rw [r1 hN h hc]; rfl⟩
    | 2, _, h => exact fun hc => ⟨0, Nat.zero_le _, fun m => by rw [r2 hN h hc.1 hc.2]; rfl⟩
  | @turned t l _ ih =>
    intro K i hN hK ha
    rw [List.length_append] at hN
    rw [List.count_append] at hK
    obtain ⟨c, hc, h⟩ := ih K i (by omega) (by omega) ha.left
    have h1 : f (i + l.length) = "'" := ha.right.head
    refine ⟨c + 1, by rw [List.length_append]; simpa using hc, fun m => ?_⟩
    rw [show m + (c + 1) = (m + 1) + c by omega, h (m + 1), pPowL, if_pos h1, List.length_append]
    rfl
  | @pow t l w n _ hn hw ih =>
    intro K i hN hK ha
    rw [List.length_append] at hN
    rw [List.count_append] at hK
    obtain ⟨c, hc, h⟩ := ih K i (by omega) (by omega) ha.left
    have h1 : f (i + l.length) = "^" := ha.right.head
    have h2 : f (i + l.length + 1) = w := ha.right.tail.head
    refine ⟨c + 1, by rw [List.length_append]; simp; omega, fun m => ?_⟩
    have hne : neg f (i + l.length + 1) = false := by unfold neg; rw [h2]; exact decide_eq_false hw
    rw [show m + (c + 1) = (m + 1) + c by omega, h (m + 1), pPowL, if_neg (by rw [h1]; decide +kernel), if_pos h1, hne]
    show (match numW (f (i + l.length + 1)) with | some v => _ | none => _) = _
    rw [h2, hn, List.length_append]
    rfl
  | @pon t l w n _ hn ih =>
    intro K i hN hK ha
    rw [List.length_append] at hN
    rw [List.count_append] at hK
    obtain ⟨c, hc, h⟩ := ih K i (by omega) (by omega) ha.left
    have h1 : f (i + l.length) = "^" := ha.right.head
    have h2 : f (i + l.length + 1) = "-" := ha.right.tail.head
    have h3 : f (i + l.length + 1 + 1) = w := ha.right.tail.tail.head
    refine ⟨c + 1, by rw [List.length_append]; simp; omega, fun m => ?_⟩
    have hne : neg f (i + l.length + 1) = true := by unfold neg; rw [h2]; exact decide_eq_true rfl
    rw [show m + (c + 1) = (m + 1) + c by omega, h (m + 1), pPowL, if_neg (by rw [h1]; decide +kernel), if_pos h1, hne]
    show (match numW (f (i + l.length + 1 + 1)) with | some v => _ | none => _) = _
    rw [h3, hn, List.length_append]
    rfl
  | @prod a b l r o w _ _ ho ih1 ih2 =>
    intro K i hN hK ha hcp
    rw [List.length_append, List.length_append] at hN
    rw [List.count_append, List.count_append] at hK
    obtain ⟨co, _⟩ := kP_vals o w ho
    have h1 : f (i + l.length) = o := ha.left.right.head
    obtain ⟨c, hc, h⟩ := ih1 K i (by omega) (by omega) ha.left.left (by rw [h1]; exact co)
    have hr := ha.right
    rw [List.length_append] at hr
    have h2 := ih2 K (i + l.length + 1) (by omega) (by omega) hr
    have hlen : i + ((l ++ [o]) ++ r).length = i + l.length + 1 + r.length := by
      rw [List.length_append, List.length_append]; show i + (l.length + 1 + r.length) = _; omega
    rw [hlen] at hcp ⊢
    have h3 := r1 (by omega) h2 hcp
    refine ⟨c + 1, by rw [List.length_append, List.length_append]; simp; omega, fun m => ?_⟩
    rw [show m + (c + 1) = (m + 1) + c by omega, h (m + 1), ops, h1, ho]
    dsimp only
    rw [h3]
  | @sum a b l r o w _ _ ho ih1 ih2 =>
    intro K i hN hK ha hcp
    rw [List.length_append, List.length_append] at hN
    rw [List.count_append, List.count_append] at hK
    obtain ⟨co, _⟩ := kS_vals o w ho
    have h1 : f (i + l.length) = o := ha.left.right.head
    obtain ⟨c, hc, h⟩ := ih1 K i (by omega) (by omega) ha.left.left (by rw [h1]; exact co)
    have hr := ha.right
    rw [List.length_append] at hr
    have h2 := ih2 K (i + l.length + 1) (by omega) (by omega) hr
    have hlen : i + ((l ++ [o]) ++ r).length = i + l.length + 1 + r.length := by
      rw [List.length_append, List.length_append]; show i + (l.length + 1 + r.length) = _; omega
    rw [hlen] at hcp ⊢
    have h3 := r2 (by omega) h2 hcp.1 hcp.2
    refine ⟨c + 1, by rw [List.length_append, List.length_append]; simp; omega, fun m => ?_⟩
    rw [show m + (c + 1) = (m + 1) + c by omega, h (m + 1), ops, h1, ho]
    dsimp only
    rw [h3]
end
theorem read_wr {s : Str} {t : Tr} {N K : Nat} (h : Wr 3 t (wd s)) (hN : (wd s).length < N) (hK : (wd s).count ("(" : Str) < K) : pRead (hd (bitsL (signs s))) N K = some (.ok t) := by
  have ha : At (hd (bitsL (signs s))) 0 (wd s) := fun k hk => by
    unfold wd at hk ⊢
    rw [List.length_map] at hk
    rw [Nat.zero_add, List.getElem_map, hd_lt hk]
  have hl : hd (bitsL (signs s)) (0 + (wd s).length) = "" := hd_ge (by unfold wd; rw [List.length_map, Nat.zero_add]; exact Nat.le_refl _)
  have h3 := r3 hN (reads h K 0 hN hK ha) (by rw [hl]; exact cq_p.2)
  unfold pRead
  rw [h3]
  show (if hd (bitsL (signs s)) (0 + (wd s).length) = "" then _ else _) = _
  rw [if_pos hl]
end Tg
namespace Tg
open PySem Rg
theorem dg_head : ∀ n : Nat, 0 < n → ∀ c, (Nat.toDigits 10 n).head? = some c → c ≠ '0' := by
  intro n
  induction n using Nat.strongRecOn with
  | _ n ih =>
    intro h0 c hc
    by_cases h : n < 10
    · rw [Nat.toDigits_of_lt_base h] at hc
      have hc : Nat.digitChar n = c := by simpa using hc
      rw [← hc]
      have : n = 1 ∨ n = 2 ∨ n = 3 ∨ n = 4 ∨ n = 5 ∨ n = 6 ∨ n = 7 ∨ n = 8 ∨ n = 9 := by omega
      rcases this with rfl | rfl | rfl | rfl | rfl | rfl | rfl | rfl | rfl <;> decide
    · have t : Nat.toDigits 10 (n / 10) ++ Nat.toDigits 10 (n % 10) = Nat.toDigits 10 (10 * (n / 10) + n % 10) := Nat.toDigits_append_toDigits (by decide) (by omega) (Nat.mod_lt _ (by decide))
      rw [Nat.div_add_mod] at t
      rw [← t] at hc
      refine ih (n / 10) (Nat.div_lt_self h0 (by decide)) (by omega) c ?_
      rw [List.head?_append] at hc
      cases hq : (Nat.toDigits 10 (n / 10)).head? with
      | none =>
        have := Nat.toDigits_ne_nil (n := n / 10) (b := 10)
        rw [List.head?_eq_none_iff] at hq
        exact absurd hq this
      | some d => rw [hq] at hc; exact hc
theorem al_dg : ∀ c, 48 ≤ c ∧ c ≤ 57 → al c = true := fun c h => by
  have k : ∀ c ∈ [48, 49, 50, 51, 52, 53, 54, 55, 56, 57], al c = true := by decide +kernel
  exact k c (by simp only [List.mem_cons, List.not_mem_nil, or_false]; omega)
theorem al_lt : ∀ c ∈ signs "abcdefghijklmnopqrstuvwxyz", al c = true := by decide +kernel
theorem dg_fig : signs "0123456789" = [48, 49, 50, 51, 52, 53, 54, 55, 56, 57] := by decide +kernel
theorem num_ne (m : Nat) : signs (numT (m : Int)) ≠ [] := fun z => by
  have z : (PySem.Str.ofString (toString ((m : Nat) : Int))).cps.toList = [] := z
  rw [PySem.W.KIN.signs_num, List.map_eq_nil_iff] at z
  exact Nat.toDigits_ne_nil z
theorem num_wd {n : Int} (h0 : 0 ≤ n) : wd (numT n) = [numT n] := by
  obtain ⟨m, rfl⟩ := Int.eq_ofNat_of_zero_le h0
  exact wd_al (num_ne m) fun c hc => al_dg c (num_nat m c hc)
theorem num_w {n : Int} (h0 : 0 ≤ n) (h1 : n < 1000000) : nameW (numT n) = false ∧ numT n ≠ "(" ∧ numT n ≠ "-" ∧ numW (numT n) = some n := by
  obtain ⟨m, rfl⟩ := Int.eq_ofNat_of_zero_le h0
  have hd := num_nat m
  have hne := num_ne m
  obtain ⟨c, r, hcr⟩ : ∃ c r, signs (numT (m : Int)) = c :: r := by
    cases q : signs (numT (m : Int)) with
    | nil => exact absurd q hne
    | cons c r => exact ⟨c, r, rfl⟩
  have hc := hd c (by rw [hcr]; exact List.mem_cons_self ..)
  have other : ∀ (w : Str) (d : Nat), signs w = [d] → d < 48 → numT (m : Int) ≠ w := fun w d hw hd z => by
    rw [z, hw] at hcr
    have := (List.cons.inj hcr).1
    omega
  refine ⟨?_, other _ 40 (by decide +kernel) (by decide), other _ 45 (by decide +kernel) (by decide), ?_⟩
  · unfold nameW
    have : (signs (numT (m : Int))).all (fun c => decide (c ∈ signs "abcdefghijklmnopqrstuvwxyz")) = false := by
      rw [hcr, List.all_cons]
      have : decide (c ∈ signs "abcdefghijklmnopqrstuvwxyz") = false := decide_eq_false fun z => by
        have k : ∀ c ∈ signs "abcdefghijklmnopqrstuvwxyz", 97 ≤ c := by decide +kernel
        have := k c z
        omega
      rw [this, Bool.false_and]
    rw [this, Bool.and_false]
  · have hlen : (numT (m : Int)).length ≤ 6 := PyProof.Rows.toString_length_le (by omega) (by decide) (by omega)
    have hl1 : 1 ≤ (numT (m : Int)).length := by rw [len_sg, hcr]; simp
    have hf : figs (numT (m : Int)) = true := by
      unfold figs
      rw [decide_eq_true hl1, decide_eq_true hlen]
      refine List.all_eq_true.mpr fun x hx => decide_eq_true ?_
      rw [dg_fig]
      have := hd x hx
      simp only [List.mem_cons, List.not_mem_nil, or_false]
      omega
    have hb : numB (numT (m : Int)) = true := by
      unfold numB
      rw [hf, Bool.true_and]
      by_cases h2 : m = 0
      · subst h2
        rw [show decide (numT ((0 : Nat) : Int) = "0") = true by decide +kernel, Bool.true_or]
      · have : decide ((signs (numT (m : Int))).head? = some 48) = false := decide_eq_false fun z => by
          have z : ((PySem.Str.ofString (toString ((m : Nat) : Int))).cps.toList).head? = some 48 := z
          rw [PySem.W.KIN.signs_num, List.head?_map] at z
          cases q : (Nat.toDigits 10 m).head? with
          | none => rw [q] at z; cases z
          | some ch =>
            rw [q] at z
            have e : ch.toNat = 48 := Option.some.inj z
            refine dg_head m (by omega) ch q ?_
            exact Char.ext (UInt32.toNat_inj.mp e)
        rw [this, Bool.not_false, Bool.or_true]
    unfold numW
    rw [if_pos hb]
    exact PySem.W.KIN.num_reads (by omega) (by omega)
theorem name_sg {s : Str} (h : nameW s = true) : signs s ≠ [] ∧ ∀ c ∈ signs s, c ∈ signs "abcdefghijklmnopqrstuvwxyz" := by
  unfold nameW at h
  simp only [Bool.and_eq_true, decide_eq_true_eq] at h
  obtain ⟨⟨h1, h2⟩, h3⟩ := h
  refine ⟨fun z => ?_, fun c hc => of_decide_eq_true (List.all_eq_true.mp h3 c hc)⟩
  rw [len_sg, z] at h1
  simp at h1
theorem name_wd {s : Str} (h : nameW s = true) : wd s = [s] := wd_al (name_sg h).1 fun c hc => al_lt c ((name_sg h).2 c hc)
theorem w_l : wd "(" = [("(" : Str)] ∧ wd ")" = [(")" : Str)] ∧ wd "'" = [("'" : Str)] ∧ wd "^" = [("^" : Str)] ∧ wd "-" = [("-" : Str)] := by decide +kernel
theorem ne_of {s : Str} {c : Nat} (h : signs s = [c]) (ha : al c = false) : NE s ∧ NS s := by
  refine ⟨fun x hx => ?_, fun x hx => ?_⟩
  · rw [h] at hx
    have : c = x := by simpa using hx
    rw [← this]; exact ha
  · rw [h] at hx
    have : c = x := by simpa using hx
    rw [← this]; exact ha
theorem b_l : (NE "(" ∧ NS "(") ∧ (NE ")" ∧ NS ")") ∧ (NE "'" ∧ NS "'") ∧ (NE "^" ∧ NS "^") ∧ (NE "-" ∧ NS "-") :=
  ⟨ne_of (c := 40) (by decide +kernel) (by decide +kernel), ne_of (c := 41) (by decide +kernel) (by decide +kernel), ne_of (c := 39) (by decide +kernel) (by decide +kernel), ne_of (c := 94) (by decide +kernel) (by decide +kernel), ne_of (c := 45) (by decide +kernel) (by decide +kernel)⟩
theorem NE.app {a b : Str} (h : signs b ≠ []) (hb : NE b) : NE (a ++ b) := fun c hc => by
  rw [sg_app, List.getLast?_append] at hc
  cases q : (signs b).getLast? with
  | none => rw [List.getLast?_eq_none_iff] at q; exact absurd q h
  | some d =>
    rw [q] at hc
    have hc : d = c := by simpa using hc
    exact hc ▸ hb d q
theorem wd_par (s : Str) : wd ((("(" : Str) ++ s) ++ (")" : Str)) = (("(" : Str) :: wd s) ++ [(")" : Str)] := by
  rw [wd_app (.inr b_l.2.1.2), wd_app (.inl b_l.1.1), w_l.1, w_l.2.1]
  rfl
def lev : Tr → Nat
  | .name _ => 0
  | .num _ => 0
  | .turned _ => 1
  | .power _ _ => 1
  | .bin w _ _ => if w ∈ two2 then 3 else 2
theorem lev_le (t : Tr) : lev t ≤ 3 := by
  cases t with
  | name _ => exact Nat.zero_le _
  | num _ => exact Nat.zero_le _
  | turned _ => show 1 ≤ 3; omega
  | power _ _ => show 1 ≤ 3; omega
  | bin w _ _ =>
    show (if w ∈ two2 then 3 else 2) ≤ 3
    split <;> omega
theorem Wr.lift {j : Nat} {t : Tr} {l : List Str} (h : Wr j t l) : ∀ {k : Nat}, j ≤ k → k ≤ 3 → Wr k t l := by
  intro k hj
  induction hj with
  | refl => intro _; exact h
  | step hm ih => intro hk; exact (ih (by omega)).up (by omega)
theorem kd_lev {ns : List Str} {t : Tr} (h : WT ns t) : (kd t ∉ two4 → lev t ≤ 1) ∧ (kd t ∉ two2 → lev t ≤ 2) := by
  cases t with
  | name s => exact ⟨fun _ => Nat.zero_le _, fun _ => Nat.zero_le _⟩
  | num n => exact ⟨fun _ => Nat.zero_le _, fun _ => Nat.zero_le _⟩
  | turned t => exact ⟨fun _ => Nat.le_refl _, fun _ => by show 1 ≤ 2; omega⟩
  | power t n => exact ⟨fun _ => Nat.le_refl _, fun _ => by show 1 ≤ 2; omega⟩
  | bin w a b =>
    refine ⟨fun z => absurd h.1 z, fun z => ?_⟩
    have z : w ∉ two2 := z
    show (if w ∈ two2 then 3 else 2) ≤ 2
    rw [if_neg z]; omega
theorem wr_sht {t : Tr} {s : Str} {ks : List Str} {j : Nat} (h : Wr (lev t) t (wd s)) (hj : kd t ∉ ks → lev t ≤ j) (hj3 : j ≤ 3) : Wr j t (wd (sht ks t s)) := by
  unfold sht
  split
  · rw [wd_par]
    exact (Wr.par (h.lift (lev_le t) (Nat.le_refl _))).lift (Nat.zero_le _) hj3
  · rename_i hk
    exact h.lift (hj hk) hj3
theorem op_of {w : Str} (h : w ∈ two4) : (w ∈ two2 → ∃ o : Str, lkS kS o = some w ∧ wd (sg w) = [o] ∧ NE (sg w) ∧ NS (sg w)) ∧ (w ∉ two2 → ∃ o : Str, lkS kP o = some w ∧ wd (sg w) = [o] ∧ NE (sg w) ∧ NS (sg w)) := by
  have hs : ∀ s : Str, ∀ c : Nat, signs s = [32, c, 32] → NE s ∧ NS s := fun s c hc => by
    refine ⟨fun x hx => ?_, fun x hx => ?_⟩
    · rw [hc] at hx
      have : 32 = x := by simpa using hx
      rw [← this]; exact al_sp
    · rw [hc] at hx
      have : 32 = x := by simpa using hx
      rw [← this]; exact al_sp
  simp only [two4, List.mem_cons, List.not_mem_nil, or_false] at h
  rcases h with rfl | rfl | rfl | rfl
  · have := hs (sg "plus") 43 (by decide +kernel)
    exact ⟨fun _ => ⟨"+", by decide +kernel, by decide +kernel, this.1, this.2⟩, fun z => absurd (by decide +kernel) z⟩
  · have := hs (sg "minus") 45 (by decide +kernel)
    exact ⟨fun _ => ⟨"-", by decide +kernel, by decide +kernel, this.1, this.2⟩, fun z => absurd (by decide +kernel) z⟩
  · have := hs (sg "times") 42 (by decide +kernel)
    exact ⟨fun z => absurd z (by decide +kernel), fun _ => ⟨"*", by decide +kernel, by decide +kernel, this.1, this.2⟩⟩
  · have := hs (sg "over") 47 (by decide +kernel)
    exact ⟨fun z => absurd z (by decide +kernel), fun _ => ⟨"/", by decide +kernel, by decide +kernel, this.1, this.2⟩⟩
theorem num_str {n : Int} (h : n < 0) : numT n = ("-" : Str) ++ numT (0 - n) := by
  obtain ⟨m, hm⟩ : ∃ m : Nat, n = -((m + 1 : Nat) : Int) := ⟨(-n - 1).toNat, by omega⟩
  subst hm
  have e : (0 : Int) - -((m + 1 : Nat) : Int) = ((m + 1 : Nat) : Int) := by omega
  rw [e]
  have k : signs (numT (-((m + 1 : Nat) : Int))) = signs (("-" : Str) ++ numT ((m + 1 : Nat) : Int)) := by
    rw [num_neg, sg_app, show signs ("-" : Str) = [45] by decide +kernel]; rfl
  have back : ∀ s : Str, (⟨(signs s).toArray⟩ : Str) = s := fun s => by obtain ⟨a⟩ := s; rfl
  rw [← back (numT (-((m + 1 : Nat) : Int))), k, back]
theorem wr_txt {ns : List Str} (hn : ∀ s ∈ ns, nameW s = true) : ∀ t, WT ns t → Wr (lev t) t (wd (txt t))
  | .name s, h => by
    show Wr 0 _ (wd s)
    rw [name_wd (hn s h)]
    exact .name (hn s h)
  | .num n, h => by
    obtain ⟨h1, h2, _, h4⟩ := num_w h.1 h.2
    show Wr 0 _ (wd (numT n))
    rw [num_wd h.1]
    exact .num h1 h2 h4
  | .turned t, h => by
    have h : WT ns t := h
    have g := wr_sht (j := 1) (ks := two4) (wr_txt hn t h) (kd_lev h).1 (by decide)
    show Wr 1 _ (wd (sht two4 t (txt t) ++ ("'" : Str)))
    rw [wd_app (.inr b_l.2.2.1.2), w_l.2.2.1]
    exact .turned g
  | .power t n, h => by
    obtain ⟨h1, h2, h3⟩ := h
    have g := wr_sht (j := 1) (ks := two4) (wr_txt hn t h1) (kd_lev h1).1 (by decide)
    show Wr 1 _ (wd ((sht two4 t (txt t) ++ ("^" : Str)) ++ numT n))
    have hne : NE (sht two4 t (txt t) ++ ("^" : Str)) := NE.app (by decide +kernel) b_l.2.2.2.1.1
    rw [wd_app (.inl hne), wd_app (.inr b_l.2.2.2.1.2), w_l.2.2.2.1, List.append_assoc]
    by_cases h0 : 0 ≤ n
    · obtain ⟨_, _, g3, g4⟩ := num_w h0 (by omega)
      rw [num_wd h0]
      exact .pow g g4 g3
    · obtain ⟨_, _, g3, g4⟩ := num_w (n := 0 - n) (by omega) (by omega)
      rw [num_str (by omega), wd_app (.inl b_l.2.2.2.2.1), w_l.2.2.2.2, num_wd (by omega)]
      have e : n = 0 - (0 - n) := by omega
      have := Wr.pon g g4
      rw [← e] at this
      exact this
  | .bin w a b, h => by
    obtain ⟨h0, h1, h2⟩ := h
    have ga := wr_txt hn a h1
    have gb := wr_txt hn b h2
    obtain ⟨o1, o2⟩ := op_of h0
    have lv : lev (.bin w a b) = if w ∈ two2 then 3 else 2 := rfl
    rw [lv]
    unfold txt
    by_cases hw : w ∈ two2
    · obtain ⟨o, e1, e2, e3, e4⟩ := o1 hw
      rw [if_pos hw, if_pos hw, wd_app (.inl (NE.app (fun z => by
        have k : ∀ w ∈ two4, (signs (sg w)).length = 3 := by decide +kernel
        have k := k w h0
        rw [z] at k; cases k) e3)), wd_app (.inr e4), e2]
      exact .sum (ga.lift (lev_le a) (Nat.le_refl _)) (wr_sht gb (kd_lev h2).2 (by decide)) e1
    · obtain ⟨o, e1, e2, e3, e4⟩ := o2 hw
      rw [if_neg hw, if_neg hw, wd_app (.inl (NE.app (fun z => by
        have k : ∀ w ∈ two4, (signs (sg w)).length = 3 := by decide +kernel
        have k := k w h0
        rw [z] at k; cases k) e3)), wd_app (.inr e4), e2]
      exact .prod (wr_sht ga (kd_lev h1).2 (by decide)) (wr_sht gb (kd_lev h2).1 (by decide)) e1
theorem wd_count (s : Str) : (wd s).count ("(" : Str) ≤ (signs s).count 40 := by
  have h := bits_cb ((signs s).length + 1) (signs s) 0
  unfold wd List.count
  rw [List.countP_map]
  refine Nat.le_trans (Nat.le_of_eq ?_) h
  unfold bitsL
  refine congrArg (fun p => List.countP p _) (funext fun x => ?_)
  show (x.1 == ("(" : Str)) = decide (x.1 = ("(" : Str))
  by_cases hx : x.1 = ("(" : Str)
  · rw [decide_eq_true hx, hx]; decide +kernel
  · rw [decide_eq_false hx]; exact beq_eq_false_iff_ne.mpr hx
theorem wd_len (s : Str) : (wd s).length ≤ s.length := by
  unfold wd
  rw [List.length_map, len_sg]
  exact bits_len _ _ _
end Tg
namespace Tg
open PySem Rg
def pb (j : Nat) (t : Tr) : Nat := if j < lev t then 1 else 0
def cw : Tr → Nat
  | .name _ => 0
  | .num _ => 0
  | .turned t => cw t + pb 1 t
  | .power t _ => cw t + pb 1 t
  | .bin w a b => if w ∈ two2 then cw a + (cw b + pb 2 b) else (cw a + pb 2 a) + (cw b + pb 1 b)
def Bw : Tr → Prop
  | .name _ => True
  | .num _ => True
  | .turned t => Bw t
  | .power t _ => Bw t
  | .bin w a b => w ∈ two4 ∧ Bw a ∧ Bw b
theorem bw_wt {ns : List Str} : ∀ t, WT ns t → Bw t
  | .name _, _ => trivial
  | .num _, _ => trivial
  | .turned t, h => bw_wt t h
  | .power t _, h => bw_wt t h.1
  | .bin w a b, h => ⟨h.1, bw_wt a h.2.1, bw_wt b h.2.2⟩
theorem kd_iff {t : Tr} (h : Bw t) : (kd t ∈ two4 ↔ 1 < lev t) ∧ (kd t ∈ two2 ↔ 2 < lev t) := by
  have k : ("name" : Str) ∉ two4 ∧ ("number" : Str) ∉ two4 ∧ ("turned" : Str) ∉ two4 ∧ ("power" : Str) ∉ two4 ∧ ("name" : Str) ∉ two2 ∧ ("number" : Str) ∉ two2 ∧ ("turned" : Str) ∉ two2 ∧ ("power" : Str) ∉ two2 := by decide +kernel
  obtain ⟨k1, k2, k3, k4, k5, k6, k7, k8⟩ := k
  cases t with
  | name s => exact ⟨⟨fun z => absurd z k1, fun z => absurd z (by show ¬ 1 < 0; omega)⟩, ⟨fun z => absurd z k5, fun z => absurd z (by show ¬ 2 < 0; omega)⟩⟩
  | num n => exact ⟨⟨fun z => absurd z k2, fun z => absurd z (by show ¬ 1 < 0; omega)⟩, ⟨fun z => absurd z k6, fun z => absurd z (by show ¬ 2 < 0; omega)⟩⟩
  | turned t => exact ⟨⟨fun z => absurd z k3, fun z => absurd z (by show ¬ 1 < 1; omega)⟩, ⟨fun z => absurd z k7, fun z => absurd z (by show ¬ 2 < 1; omega)⟩⟩
  | power t n => exact ⟨⟨fun z => absurd z k4, fun z => absurd z (by show ¬ 1 < 1; omega)⟩, ⟨fun z => absurd z k8, fun z => absurd z (by show ¬ 2 < 1; omega)⟩⟩
  | bin w a b =>
    have lv : lev (.bin w a b) = if w ∈ two2 then 3 else 2 := rfl
    have hw : w ∈ two4 := h.1
    refine ⟨⟨fun _ => by rw [lv]; split <;> omega, fun _ => hw⟩, ⟨fun z => ?_, fun z => ?_⟩⟩
    · have z : w ∈ two2 := z
      rw [lv, if_pos z]; omega
    · rw [lv] at z
      by_cases q : w ∈ two2
      · exact q
      · rw [if_neg q] at z; omega
theorem ct_sht {ks : List Str} {t : Tr} {s : Str} : (signs (sht ks t s)).count 40 = (signs s).count 40 + if kd t ∈ ks then 1 else 0 := by
  unfold sht
  split
  · rw [sg_app, sg_app, List.count_append, List.count_append]
    have k : (signs ("(" : Str)).count 40 = 1 ∧ (signs (")" : Str)).count 40 = 0 := by decide +kernel
    omega
  · rfl
theorem ct_num {n : Int} (h : -1000000 ≤ n ∧ n ≤ 1000000) : (signs (numT n)).count 40 = 0 := by have := (num_nice h).2.2; omega
theorem ct_txt {ns : List Str} (hn : ∀ s ∈ ns, nameW s = true) : ∀ t, WT ns t → (signs (txt t)).count 40 = cw t
  | .name s, h => by
    obtain ⟨_, h4⟩ := name_sg (hn s h)
    refine List.count_eq_zero.mpr fun z => ?_
    have k : ∀ c ∈ signs "abcdefghijklmnopqrstuvwxyz", c ≠ 40 := by decide +kernel
    exact k 40 (h4 40 z) rfl
  | .num n, h => ct_num ⟨by have := h.1; omega, by have := h.2; omega⟩
  | .turned t, h => by
    have h : WT ns t := h
    show (signs (sht two4 t (txt t) ++ ("'" : Str))).count 40 = cw t + pb 1 t
    rw [sg_app, List.count_append, ct_sht, ct_txt hn t h]
    have k : (signs ("'" : Str)).count 40 = 0 := by decide +kernel
    have e := (kd_iff (bw_wt t h)).1
    unfold pb
    by_cases q : kd t ∈ two4
    · rw [if_pos q, if_pos (e.mp q)]; omega
    · rw [if_neg q, if_neg (fun z => q (e.mpr z))]; omega
  | .power t n, h => by
    obtain ⟨h1, h2, h3⟩ := h
    show (signs ((sht two4 t (txt t) ++ ("^" : Str)) ++ numT n)).count 40 = cw t + pb 1 t
    rw [sg_app, sg_app, List.count_append, List.count_append, ct_sht, ct_txt hn t h1, ct_num ⟨by omega, by omega⟩]
    have k : (signs ("^" : Str)).count 40 = 0 := by decide +kernel
    have e := (kd_iff (bw_wt t h1)).1
    unfold pb
    by_cases q : kd t ∈ two4
    · rw [if_pos q, if_pos (e.mp q)]; omega
    · rw [if_neg q, if_neg (fun z => q (e.mpr z))]; omega
  | .bin w a b, h => by
    obtain ⟨h0, h1, h2⟩ := h
    have ea := kd_iff (bw_wt a h1)
    have eb := kd_iff (bw_wt b h2)
    have ks := (sg_nice w).2.2
    have ia := ct_txt hn a h1
    have ib := ct_txt hn b h2
    unfold txt cw
    by_cases q : w ∈ two2
    · rw [if_pos q, if_pos q, sg_app, sg_app, List.count_append, List.count_append, ct_sht, ia, ib]
      unfold pb
      by_cases q2 : kd b ∈ two2
      · rw [if_pos q2, if_pos (eb.2.mp q2)]; omega
      · rw [if_neg q2, if_neg (fun z => q2 (eb.2.mpr z))]; omega
    · rw [if_neg q, if_neg q, sg_app, sg_app, List.count_append, List.count_append, ct_sht, ct_sht, ia, ib]
      unfold pb
      by_cases q2 : kd a ∈ two2
      · rw [if_pos q2, if_pos (ea.2.mp q2)]
        by_cases q3 : kd b ∈ two4
        · rw [if_pos q3, if_pos (eb.1.mp q3)]; omega
        · rw [if_neg q3, if_neg (fun z => q3 (eb.1.mpr z))]; omega
      · rw [if_neg q2, if_neg (fun z => q2 (ea.2.mpr z))]
        by_cases q3 : kd b ∈ two4
        · rw [if_pos q3, if_pos (eb.1.mp q3)]; omega
        · rw [if_neg q3, if_neg (fun z => q3 (eb.1.mpr z))]; omega
def Cn (f : Nat → Str) : Nat → Nat
  | 0 => 0
  | n + 1 => Cn f n + if f n = "(" then 1 else 0
theorem cn_mono {f : Nat → Str} {i j : Nat} (h : i ≤ j) : Cn f i ≤ Cn f j := by
  induction h with
  | refl => exact Nat.le_refl _
  | step _ ih => exact Nat.le_trans ih (Nat.le_add_right _ _)
def nb (j : Nat) (t : Tr) : Nat := cw t + pb j t
theorem pb_le {j k : Nat} (h : j ≤ k) (t : Tr) : pb k t ≤ pb j t := by
  unfold pb
  split
  · rw [if_pos (by omega)]; exact Nat.le_refl _
  · exact Nat.zero_le _
theorem pb_1 (j : Nat) (t : Tr) : pb j t ≤ 1 := by unfold pb; split <;> omega
theorem pb_3 (t : Tr) : pb 3 t = 0 := by
  have := lev_le t
  unfold pb
  rw [if_neg (by omega)]
section
variable {f : Nat → Str}
def Snd (f : Nat → Str) (k i : Nat) (p : PR) : Prop := ∀ u j, p = some (.ok (u, j)) → i ≤ j ∧ Bw u ∧ Cn f i + nb k u ≤ Cn f j
theorem s_powL : ∀ (n : Nat) (t : Tr) (i0 i : Nat), Bw t → i0 ≤ i → Cn f i0 + nb 1 t ≤ Cn f i → ∀ u j, pPowL f n t i = some (.ok (u, j)) → i0 ≤ j ∧ Bw u ∧ Cn f i0 + nb 1 u ≤ Cn f j
  | 0, _, _, _, _, _, _, _, _, h => by cases h
  | n + 1, t, i0, i, hb, hi, hc, u, j, h => by
    unfold pPowL at h
    split at h
    · refine s_powL n (.turned t) i0 (i + 1) hb (by omega) ?_ u j h
      have e : nb 1 (.turned t) = nb 1 t := rfl
      rw [e]
      exact Nat.le_trans hc (cn_mono (by omega))
    · split at h
      · split at h
        · rename_i v _
          refine s_powL n (.power t (if neg f (i + 1) = true then 0 - v else v)) i0 _ hb ?_ ?_ u j h
          · omega
          · refine Nat.le_trans (Nat.le_of_eq ?_) (Nat.le_trans hc (cn_mono (by omega)))
            rfl
        · cases h
      · cases h
        exact ⟨hi, hb, hc⟩
theorem s_prod {p : Nat → PR} (hp : ∀ i, Snd f 1 i (p i)) : ∀ (n : Nat) (t : Tr) (i0 i : Nat), Bw t → i0 ≤ i → Cn f i0 + nb 2 t ≤ Cn f i → ∀ u j, ops kP f p n t i = some (.ok (u, j)) → i0 ≤ j ∧ Bw u ∧ Cn f i0 + nb 2 u ≤ Cn f j
  | 0, _, _, _, _, _, _, _, _, h => by cases h
  | n + 1, t, i0, i, hb, hi, hc, u, j, h => by
    unfold ops at h
    split at h
    · cases h
      exact ⟨hi, hb, hc⟩
    · rename_i w hw
      have hv := (kP_vals _ _ hw).2
      have h2 : w ∉ two2 ∧ w ∈ two4 := by rcases hv with ⟨_, rfl⟩ | ⟨_, rfl⟩ <;> decide +kernel
      split at h
      · cases h
      · cases h
      · rename_i x k e
        obtain ⟨q1, q2, q3⟩ := hp (i + 1) x k e
        have lv : lev (.bin w t x) = 2 := if_neg h2.1
        have e1 : nb 2 (.bin w t x) = nb 2 t + nb 1 x := by
          unfold nb
          have : pb 2 (.bin w t x) = 0 := by unfold pb; rw [lv]; rfl
          rw [this]
          show (if w ∈ two2 then _ else _) + 0 = _
          rw [if_neg h2.1]
          omega
        refine s_prod hp n (.bin w t x) i0 k ⟨h2.2, hb, q2⟩ (by omega) ?_ u j h
        rw [e1]
        have := cn_mono (f := f) (show i ≤ i + 1 by omega)
        omega
theorem s_sums {p : Nat → PR} (hp : ∀ i, Snd f 2 i (p i)) : ∀ (n : Nat) (t : Tr) (i0 i : Nat), Bw t → i0 ≤ i → Cn f i0 + nb 3 t ≤ Cn f i → ∀ u j, ops kS f p n t i = some (.ok (u, j)) → i0 ≤ j ∧ Bw u ∧ Cn f i0 + nb 3 u ≤ Cn f j
  | 0, _, _, _, _, _, _, _, _, h => by cases h
  | n + 1, t, i0, i, hb, hi, hc, u, j, h => by
    unfold ops at h
    split at h
    · cases h
      exact ⟨hi, hb, hc⟩
    · rename_i w hw
      have hv := (kS_vals _ _ hw).2
      have h2 : w ∈ two2 ∧ w ∈ two4 := by rcases hv with ⟨_, rfl⟩ | ⟨_, rfl⟩ <;> decide +kernel
      split at h
      · cases h
      · cases h
      · rename_i x k e
        obtain ⟨q1, q2, q3⟩ := hp (i + 1) x k e
        have e1 : nb 3 (.bin w t x) = nb 3 t + nb 2 x := by
          unfold nb
          rw [pb_3, pb_3]
          show (if w ∈ two2 then _ else _) + 0 = _
          rw [if_pos h2.1]
          omega
        refine s_sums hp n (.bin w t x) i0 k ⟨h2.2, hb, q2⟩ (by omega) ?_ u j h
        rw [e1]
        have := cn_mono (f := f) (show i ≤ i + 1 by omega)
        omega
theorem s_sum {pa : Nat → PR} (N : Nat) (hp : ∀ i, Snd f 0 i (pa i)) (i : Nat) : Snd f 3 i (pSum f N pa i) := by
  have weak : ∀ {k k' : Nat} {u : Tr} {i j : Nat}, k ≤ k' → Cn f i + nb k u ≤ Cn f j → Cn f i + nb k' u ≤ Cn f j := fun {k k' u i j} h q => by
    have := pb_le h u
    unfold nb at *
    omega
  have h1 : ∀ i, Snd f 1 i (pPow f N pa i) := fun i u j h => by
    unfold pPow then' at h
    split at h
    · cases h
    · cases h
    · rename_i t k e
      obtain ⟨q1, q2, q3⟩ := hp i t k e
      exact s_powL N t i k q2 q1 (weak (by omega) q3) u j h
  have h2 : ∀ i, Snd f 2 i (pProd f N pa i) := fun i u j h => by
    unfold pProd then' at h
    split at h
    · cases h
    · cases h
    · rename_i t k e
      obtain ⟨q1, q2, q3⟩ := h1 i t k e
      exact s_prod h1 N t i k q2 q1 (weak (by omega) q3) u j h
  intro u j h
  unfold pSum then' at h
  split at h
  · cases h
  · cases h
  · rename_i t k e
    obtain ⟨q1, q2, q3⟩ := h2 i t k e
    exact s_sums h2 N t i k q2 q1 (weak (by omega) q3) u j h
theorem s_atom (N : Nat) : ∀ (k i : Nat), Snd f 0 i (pAtom f N k i)
  | 0, i => fun u j h => by cases h
  | k + 1, i => fun u j h => by
    unfold pAtom at h
    split at h
    · cases h
      exact ⟨by omega, trivial, cn_mono (by omega)⟩
    · split at h
      · rename_i h2
        unfold then' at h
        split at h
        · cases h
        · cases h
        · rename_i t m e
          obtain ⟨q1, q2, q3⟩ := s_sum N (s_atom N k) (i + 1) t m e
          dsimp only at h
          split at h
          · cases h
            refine ⟨by omega, q2, ?_⟩
            have e1 : Cn f (i + 1) = Cn f i + 1 := by
              show Cn f i + (if f i = "(" then 1 else 0) = _
              rw [if_pos h2]
            have := pb_1 0 u
            have := cn_mono (f := f) (show m ≤ m + 1 by omega)
            unfold nb at *
            omega
          · cases h
      · split at h
        · cases h
          exact ⟨by omega, trivial, cn_mono (by omega)⟩
        · cases h
end
theorem cn_take {b : Bt} : ∀ n, Cn (hd b) n ≤ (b.take n).countP fun x => decide (x.1 = ("(" : Str))
  | 0 => Nat.zero_le _
  | n + 1 => by
    have ih := cn_take (b := b) n
    show Cn (hd b) n + (if hd b n = "(" then 1 else 0) ≤ _
    by_cases hl : n < b.length
    · rw [List.take_succ_eq_append_getElem hl, List.countP_append, hd_lt hl, List.countP_cons, List.countP_nil]
      by_cases q : (b[n]).1 = ("(" : Str)
      · rw [if_pos q, if_pos (decide_eq_true q)]; omega
      · rw [if_neg q]; omega
    · rw [hd_ge (by omega), if_neg (by decide +kernel), List.take_of_length_le (by omega)]
      rw [List.take_of_length_le (by omega)] at ih
      exact ih
theorem read_need {s : Str} {u : Tr} {N K : Nat} (h : pRead (hd (bitsL (signs s))) N K = some (.ok u)) : Bw u ∧ cw u ≤ (signs s).count 40 := by
  unfold pRead at h
  split at h
  · cases h
  · cases h
  · rename_i t j e
    obtain ⟨_, q2, q3⟩ := s_sum N (s_atom (f := hd (bitsL (signs s))) N K) 0 t j e
    split at h
    · cases h
      refine ⟨q2, ?_⟩
      have h1 := cn_take (b := bitsL (signs s)) j
      have h2 := (List.take_sublist j (bitsL (signs s))).countP_le (p := fun x => decide (x.1 = ("(" : Str)))
      have h3 := bits_cb ((signs s).length + 1) (signs s) 0
      have h4 : (bitsL (signs s)).countP (fun x => decide (x.1 = ("(" : Str))) ≤ (signs s).count 40 := h3
      unfold nb at q3
      have : Cn (hd (bitsL (signs s))) 0 = 0 := rfl
      omega
    · cases h
def dl (c : Nat) : Int := (if c = 40 then 1 else 0) - (if c = 41 then 1 else 0)
def sm : List Nat → Int
  | [] => 0
  | c :: r => dl c + sm r
theorem sm_app : ∀ a b : List Nat, sm (a ++ b) = sm a + sm b
  | [], b => by show sm b = 0 + sm b; omega
  | c :: a, b => by
    show dl c + sm (a ++ b) = dl c + sm a + sm b
    rw [sm_app a b]; omega
def Bal (l : List Nat) : Prop := (∀ n, 0 ≤ sm (l.take n)) ∧ sm l = 0
theorem Bal.app {a b : List Nat} (h : Bal a) (g : Bal b) : Bal (a ++ b) := by
  refine ⟨fun n => ?_, by rw [sm_app, h.2, g.2]; rfl⟩
  rw [List.take_append, sm_app]
  have := h.1 n
  have := g.1 (n - a.length)
  omega
theorem bal_flat : ∀ {l : List Nat}, (∀ c ∈ l, c ≠ 40 ∧ c ≠ 41) → Bal l := fun {l} h => by
  have z : ∀ l : List Nat, (∀ c ∈ l, c ≠ 40 ∧ c ≠ 41) → sm l = 0 := fun l => by
    induction l with
    | nil => intro _; rfl
    | cons c r ih =>
      intro h
      obtain ⟨h1, h2⟩ := h c (List.mem_cons_self ..)
      show dl c + sm r = 0
      rw [ih fun x hx => h x (List.mem_cons_of_mem _ hx)]
      unfold dl
      rw [if_neg h1, if_neg h2]; rfl
  exact ⟨fun n => Int.le_of_eq (z _ fun c hc => h c (List.mem_of_mem_take hc)).symm, z l h⟩
theorem Bal.par {l : List Nat} (h : Bal l) : Bal ((40 :: l) ++ [41]) := by
  refine ⟨fun n => ?_, by rw [sm_app]; show (dl 40 + sm l) + (dl 41 + 0) = 0; rw [h.2]; decide⟩
  rw [List.take_append, sm_app]
  cases n with
  | zero => simp [sm]
  | succ n =>
    have h1 := h.1 n
    have e1 : sm ((40 :: l).take (n + 1)) = 1 + sm (l.take n) := by
      show dl 40 + sm (l.take n) = _
      rfl
    have e2 : -1 ≤ sm (([41] : List Nat).take (n + 1 - (40 :: l).length)) := by
      cases n + 1 - (40 :: l).length with
      | zero => simp [sm]
      | succ m => rw [List.take_of_length_le (by simp)]; decide
    omega
theorem bal_sht {ks : List Str} {t : Tr} {s : Str} (h : Bal (signs s)) : Bal (signs (sht ks t s)) := by
  unfold sht
  split
  · rw [sg_app, sg_app, show signs ("(" : Str) = [40] by decide +kernel, show signs (")" : Str) = [41] by decide +kernel]
    exact h.par
  · exact h
theorem bal_num (n : Int) (h : -1000000 ≤ n ∧ n ≤ 1000000) : Bal (signs (numT n)) := by
  have k : ∀ m : Nat, ∀ c ∈ signs (numT (m : Int)), c ≠ 40 ∧ c ≠ 41 := fun m c hc => by have := num_nat m c hc; omega
  by_cases h0 : 0 ≤ n
  · obtain ⟨m, rfl⟩ := Int.eq_ofNat_of_zero_le h0
    exact bal_flat (k m)
  · obtain ⟨m, hm⟩ : ∃ m : Nat, n = -((m + 1 : Nat) : Int) := ⟨(-n - 1).toNat, by omega⟩
    subst hm
    rw [num_neg]
    exact bal_flat fun c hc => by
      rcases List.mem_cons.mp hc with q | q
      · rw [q]; decide
      · exact k (m + 1) c q
theorem bal_txt {ns : List Str} (hn : ∀ s ∈ ns, nameW s = true) : ∀ t, WT ns t → Bal (signs (txt t))
  | .name s, h => by
    obtain ⟨_, h4⟩ := name_sg (hn s h)
    have k : ∀ c ∈ signs "abcdefghijklmnopqrstuvwxyz", c ≠ 40 ∧ c ≠ 41 := by decide +kernel
    exact bal_flat fun c hc => k c (h4 c hc)
  | .num n, h => bal_num n ⟨by have := h.1; omega, by have := h.2; omega⟩
  | .turned t, h => by
    show Bal (signs (sht two4 t (txt t) ++ ("'" : Str)))
    rw [sg_app]
    exact (bal_sht (bal_txt hn t h)).app (bal_flat (by decide +kernel))
  | .power t n, h => by
    show Bal (signs ((sht two4 t (txt t) ++ ("^" : Str)) ++ numT n))
    rw [sg_app, sg_app]
    exact ((bal_sht (bal_txt hn t h.1)).app (bal_flat (by decide +kernel))).app (bal_num n ⟨by have := h.2.1; omega, by have := h.2.2; omega⟩)
  | .bin w a b, h => by
    have ks : Bal (signs (sg w)) := by
      have k : ∀ w ∈ two4, ∀ c ∈ signs (sg w), c ≠ 40 ∧ c ≠ 41 := by decide +kernel
      exact bal_flat (k w h.1)
    have ia := bal_txt hn a h.2.1
    have ib := bal_txt hn b h.2.2
    unfold txt
    split
    · rw [sg_app, sg_app]
      exact (ia.app ks).app (bal_sht ib)
    · rw [sg_app, sg_app]
      exact ((bal_sht ia).app ks).app (bal_sht ib)
def scan : List Nat → Nat → Int → Nat → Int × Nat
  | [], _, d, e => (d, e)
  | c :: r, a, d, e => scan r (a + 1) (d + dl c) (if d + dl c = 0 ∧ e = 0 then a else e)
theorem scan_set : ∀ (l : List Nat) (a : Nat) (d : Int) (e : Nat), 0 < e → (scan l a d e).2 = e
  | [], _, _, _, _ => rfl
  | c :: r, a, d, e, h => by
    show (scan r (a + 1) (d + dl c) (if d + dl c = 0 ∧ e = 0 then a else e)).2 = e
    rw [if_neg (by omega)]
    exact scan_set r _ _ e h
theorem scan_end : ∀ (l : List Nat) (a : Nat) (d : Int), 1 ≤ a → 1 ≤ d → d + sm l ≤ 0 → a ≤ (scan l a d 0).2 ∧ (scan l a d 0).2 < a + l.length
  | [], a, d, _, h1, h2 => by
    have : d + 0 ≤ 0 := h2
    omega
  | c :: r, a, d, ha, h1, h2 => by
    have h2 : d + (dl c + sm r) ≤ 0 := h2
    show a ≤ (scan r (a + 1) (d + dl c) (if d + dl c = 0 ∧ 0 = 0 then a else 0)).2 ∧ (scan r (a + 1) (d + dl c) (if d + dl c = 0 ∧ 0 = 0 then a else 0)).2 < a + (r.length + 1)
    by_cases h0 : d + dl c = 0
    · rw [if_pos ⟨h0, rfl⟩, scan_set r _ _ a (by omega)]
      omega
    · rw [if_neg (fun z => h0 z.1)]
      have hd : -1 ≤ dl c := by unfold dl; split <;> split <;> omega
      have := scan_end r (a + 1) (d + dl c) (by omega) (by omega) (by omega)
      omega
theorem shut_at {l : List Nat} (h : Bal l) {a : Nat} (ha : l[a]? = some 40) : a < (scan (l.drop a) a 0 0).2 ∧ (scan (l.drop a) a 0 0).2 < l.length := by
  have hl : a < l.length := by
    by_cases q : a < l.length
    · exact q
    · rw [List.getElem?_eq_none (by omega)] at ha; cases ha
  have hc : l[a] = 40 := by rw [List.getElem?_eq_getElem hl] at ha; exact Option.some.inj ha
  have hp := h.1 a
  have hs : sm (l.take a) + sm (l.drop a) = 0 := by rw [← sm_app, List.take_append_drop]; exact h.2
  rw [List.drop_eq_getElem_cons hl, hc] at hs ⊢
  have e1 : sm (40 :: l.drop (a + 1)) = 1 + sm (l.drop (a + 1)) := rfl
  have e2 : scan (40 :: l.drop (a + 1)) a 0 0 = scan (l.drop (a + 1)) (a + 1) 1 0 := rfl
  rw [e2]
  have := scan_end (l.drop (a + 1)) (a + 1) 1 (by omega) (by omega) (by omega)
  rw [List.length_drop] at this
  omega
theorem bare_ct {l : List Nat} {a e : Nat} (ha : l[a]? = some 40) (he : a < e) : (l.take a ++ (l.drop (a + 1)).take (e - (a + 1)) ++ l.drop (e + 1)).count 40 + 1 ≤ l.count 40 := by
  have hl : a < l.length := by
    by_cases q : a < l.length
    · exact q
    · rw [List.getElem?_eq_none (by omega)] at ha; cases ha
  have hc : l[a] = 40 := by rw [List.getElem?_eq_getElem hl] at ha; exact Option.some.inj ha
  have e1 : l.count 40 = (l.take a).count 40 + (1 + (l.drop (a + 1)).count 40) := by
    conv => lhs; rw [← List.take_append_drop a l]
    rw [List.count_append, List.drop_eq_getElem_cons hl, hc, List.count_cons]
    simp
    omega
  have e2 : (l.drop (a + 1)).count 40 = ((l.drop (a + 1)).take (e - (a + 1))).count 40 + ((l.drop (a + 1)).drop (e - (a + 1))).count 40 := by
    conv => lhs; rw [← List.take_append_drop (e - (a + 1)) (l.drop (a + 1))]
    rw [List.count_append]
  have e3 : (l.drop (e + 1)).count 40 ≤ ((l.drop (a + 1)).drop (e - (a + 1))).count 40 := by
    rw [List.drop_drop, show a + 1 + (e - (a + 1)) = e by omega, ← List.drop_drop (i := 1)]
    exact (List.drop_sublist _ _).count_le 40
  rw [List.count_append, List.count_append]
  omega
end Tg
namespace K53
open PySem Rg Rm Mn Tg
theorem e_letters : M__law_letters [] = .ok (.v (.str "abcdefghijklmnopqrstuvwxyz")) := by
  simp only [evE, M__law_letters, B__law_letters]
theorem mForL_nx {f : D → En → Option En} {b : En → R Fl} {d : D} {ds : List D} {Γ Γ1 Γ2 : En} (h1 : f d Γ = some Γ1) (h2 : b Γ1 = .ok (.nx Γ2)) : mForL f b (d :: ds) Γ = mForL f b ds Γ2 := by
  rw [mForL, h1]
  dsimp only
  rw [h2]; rfl
theorem e_signs : M__law_signs [] = .ok (.v (.dct [.inr "plus", .inr "minus", .inr "times", .inr "over"] [.str " + ", .str " - ", .str " * ", .str " / "])) := rfl
theorem dg {w : Str} (h : w ∈ two4) : fDg [.dct [.inr "plus", .inr "minus", .inr "times", .inr "over"] [.str " + ", .str " - ", .str " * ", .str " / "], .str w] = some (.v (.str (sg w))) := by
  simp only [two4, List.mem_cons, List.not_mem_nil, or_false] at h
  rcases h with rfl | rfl | rfl | rfl <;> rfl
theorem in_t (w : Str) (ks : List Str) : fInW false [.str w, .tup (ks.map D.str)] = some (.v (.bl (decide (w ∈ ks)))) := by
  show (strsOf (ks.map D.str)).map _ = _
  rw [strsOf_map]
  show some (Nw.v (.bl (ks.contains w))) = _
  rw [List.contains_eq_mem]
theorem in_l (w : Str) (ks : List Str) : fInW false [.str w, .lst (ks.map D.str)] = some (.v (.bl (decide (w ∈ ks)))) := by
  show (strsOf (ks.map D.str)).map _ = _
  rw [strsOf_map]
  show some (Nw.v (.bl (ks.contains w))) = _
  rw [List.contains_eq_mem]
theorem at0 (x : D) (r : List D) : L2.atI (x :: r) 0 = some x := by unfold L2.atI L2.ixN; simp
theorem at1 (x y : D) (r : List D) : L2.atI (x :: y :: r) 1 = some y := L2.atI_nat (j := 1) rfl
theorem at2 (x y z : D) (r : List D) : L2.atI (x :: y :: z :: r) 2 = some z := L2.atI_nat (j := 2) rfl
theorem eT_kd (t : Tr) : ∃ r, eT t = .tup (.str (kd t) :: r) := by cases t <;> exact ⟨_, rfl⟩
theorem nt_e : ∀ t : Tr, ntD (eT t) = true
  | .name _ => rfl
  | .num _ => rfl
  | .turned t => by
    show (true && (ntD (eT t) && true)) = true
    rw [nt_e t]; rfl
  | .power t n => by
    show (true && (ntD (eT t) && (true && true))) = true
    rw [nt_e t]; rfl
  | .bin w a b => by
    show (true && (ntD (eT a) && (ntD (eT b) && true))) = true
    rw [nt_e a, nt_e b]; rfl
theorem nt_4 : ntA (two4.map D.str) = true := rfl
theorem nt_2 : ntA (two2.map D.str) = true := rfl
theorem adS {a b : Str} (h : a.length + b.length ≤ 1000000) : fAdd [.str a, .str b] = some (.v (.str (a ++ b))) := if_pos h
theorem e_ofS (xs : List D) (h : Dr xs) (w : Str) (h0 : 0 < w.length) (hl : w.length ≤ 1000) : ∃ c xs', M__law_of xs [.str w] = .ok (.v (.str ⟨#[c]⟩), xs') ∧ c ∈ signs w ∧ Dr xs' := by
  obtain ⟨r, xs', e, h1, h2, hd⟩ := e__law_take xs h w.length (by omega) (by omega)
  obtain ⟨m, rfl⟩ := Int.eq_ofNat_of_zero_le h1
  have e0 : (signs w).length = w.length := Array.length_toList
  have hm : m < (signs w).length := by omega
  have ha : L2.atI w.cps.toList (m : Int) = some (signs w)[m] := L2.atI_nat (List.getElem?_eq_getElem hm)
  have hz : w.length ≤ 1000000 := by omega
  exact ⟨(signs w)[m], xs', by simp only [evE, M__law_of, B__law_of, hz, e, ha], List.getElem_mem hm, hd⟩
abbrev lets : Str := "abcdefghijklmnopqrstuvwxyz"
theorem fr_loop (tk : Sl) : ∀ (ds : List D) (xs : List D) (acc : List D), Dr xs → acc.length + ds.length ≤ 1000 → ∃ (ws : List Nat) (xs' : List D), mLcL (gN 4) mYes Le__law_fresh_1 [4] ds [.o xs, tk, .no, .no, .no, .no] acc = .ok (acc ++ ws.map (fun c => D.str ⟨#[c]⟩), [.o xs', tk, .no, .no, .no, .no]) ∧ (∀ c ∈ ws, c ∈ signs lets) ∧ ws.length = ds.length ∧ Dr xs'
  | [], xs, acc, d, _ => ⟨[], xs, by rw [List.map_nil, List.append_nil]; rfl, (fun c h => by cases h), rfl, d⟩
  | x :: ds, xs, acc, d, hl => by
    obtain ⟨c, x1, e, hc, d1⟩ := e_ofS xs d lets (by decide +kernel) (by decide +kernel)
    obtain ⟨ws, x2, e2, h2, h3, d2⟩ := fr_loop tk ds x1 (acc ++ [.str ⟨#[c]⟩]) d1 (by simp at hl ⊢; omega)
    refine ⟨c :: ws, x2, ?_, fun y hy => ?_, by rw [List.length_cons, h3, List.length_cons], d2⟩
    · have e1 : nox (mFz1 Le__law_fresh_1 [.o xs, tk, .no, .no, .v x, .no]) = .ok (.str ⟨#[c]⟩, [.o x1, tk, .no, .no, .v x, .no]) := by
        simp only [evE, Le__law_fresh_1, e_letters, e]
      have hl2 : acc.length < SZ := by simp at hl; unfold SZ; omega
      show (nox (mFz1 Le__law_fresh_1 [.o xs, tk, .no, .no, .v x, .no])).bind (fun y => if acc.length < SZ then mLcL (gN 4) mYes Le__law_fresh_1 [4] ds (wipeE y.2 [4]) (acc ++ [y.1]) else .bad) = _
      rw [e1]
      show (if acc.length < SZ then mLcL (gN 4) mYes Le__law_fresh_1 [4] ds [.o x1, tk, .no, .no, .no, .no] (acc ++ [.str ⟨#[c]⟩]) else .bad) = _
      rw [if_pos hl2, e2]
      simp
    · rcases List.mem_cons.mp hy with q | q
      · rw [q]; exact hc
      · exact h2 y q
theorem txts_map : ∀ ws : List Nat, txts (ws.map fun c => D.str ⟨#[c]⟩) = some (ws.map fun c => (⟨#[c]⟩ : Str))
  | [] => rfl
  | c :: ws => by
    show (txts (ws.map fun c => D.str ⟨#[c]⟩)).bind _ = _
    rw [txts_map ws]; rfl
theorem mk_sg (s : Str) : mk (signs s) = s := by
  obtain ⟨a⟩ := s
  rfl
theorem join_mk : ∀ ws : List Nat, Str.join "" (ws.map fun c => (⟨#[c]⟩ : Str)) = mk ws
  | [] => rfl
  | [c] => rfl
  | c :: x :: r => by
    show (⟨#[c]⟩ : Str) ++ ("" : Str) ++ Str.join "" ((x :: r).map fun c => (⟨#[c]⟩ : Str)) = _
    rw [join_mk (x :: r), ← mk_sg ((⟨#[c]⟩ : Str) ++ ("" : Str) ++ mk (x :: r)), sg_app, sg_app]
    rw [show signs ("" : Str) = [] by decide +kernel, List.append_nil]
    show mk ([c] ++ (x :: r).toArray.toList) = _
    rfl
theorem join_e (ws : List Nat) (h : ws.length ≤ 1000) : fJoin [.str "", .lst (ws.map fun c => D.str ⟨#[c]⟩)] = some (.v (.str (mk ws))) := by
  unfold fJoin
  dsimp only
  rw [txts_map]
  have hs : ((ws.map fun c => (⟨#[c]⟩ : Str)).map (·.length)).sum = ws.length := by
    clear h
    induction ws with
    | nil => rfl
    | cons c r ih => rw [List.map_cons, List.map_cons, List.sum_cons, ih, List.length_cons]; show 1 + _ = _; omega
  have h0 : ("" : Str).length = 0 := by decide +kernel
  dsimp only
  rw [hs, h0, if_pos (by omega)]
  show some (Nw.v (.str (Txt.join "" _))) = _
  unfold Txt.join
  rw [StrLaws.glued_eq_join, join_mk]
theorem mulOk2 (c : Nat) : MulOk ⟨#[c]⟩ 2 := by
  have hl : (⟨#[c]⟩ : Str).length = 1 := rfl
  unfold MulOk
  rw [hl]
  decide
theorem nameW_of {ws : List Nat} (h0 : 1 ≤ ws.length) (h8 : ws.length ≤ 8) (h : ∀ c ∈ ws, c ∈ signs lets) : nameW (mk ws) = true := by
  unfold nameW
  have hl : (mk ws).length = ws.length := by rw [len_sg]; rfl
  rw [hl, decide_eq_true h0, decide_eq_true h8]
  show (ws.all fun c => decide (c ∈ signs "abcdefghijklmnopqrstuvwxyz")) = true
  exact List.all_eq_true.mpr fun c hc => decide_eq_true (h c hc)
theorem e_fresh (xs : List D) (h : Dr xs) : ∃ w xs', M__law_fresh xs [.lst []] = .ok (.v (.str w), xs') ∧ nameW w = true ∧ Dr xs' := by
  obtain ⟨d1, x1, e1, h1, dr1⟩ := e__law_of xs h (.lst [.int 1, .int 1, .int 2, .int 5, .int 8]) _ (.inl rfl) (by simp) (by simp)
  obtain ⟨n, rfl, hn1, hn2⟩ : ∃ n : Nat, d1 = .int n ∧ 1 ≤ n ∧ n ≤ 8 := by
    simp only [List.mem_cons, List.not_mem_nil, or_false] at h1
    rcases h1 with rfl | rfl | rfl | rfl | rfl
    · exact ⟨1, rfl, by omega, by omega⟩
    · exact ⟨1, rfl, by omega, by omega⟩
    · exact ⟨2, rfl, by omega, by omega⟩
    · exact ⟨5, rfl, by omega, by omega⟩
    · exact ⟨8, rfl, by omega, by omega⟩
  have hrl : (rngD 0 1 n).length = n := by unfold rngD; simp
  obtain ⟨ws, x2, e2, h2, h3, dr2⟩ := fr_loop (.v (.lst [])) (rngD 0 1 n) x1 [] dr1 (by rw [hrl]; simp; omega)
  rw [hrl] at h3
  rw [List.nil_append] at e2
  have hr : mR1 (mA1 (mCallI M__law_of (mA1 (mN 0) (mA1 (mLst (mA1 (mK (.int 1)) (mA1 (mK (.int 1)) (mA1 (mK (.int 2)) (mA1 (mK (.int 5)) (mA1 (mK (.int 8)) mA0)))))) mA0))) mA0) [.o xs, .v (.lst []), .no, .no, .no, .no] = .ok (rngD 0 1 n, [.o x1, .v (.lst []), .no, .no, .no, .no]) := by
    unfold mR1
    rw [show mFzA (mA1 (mCallI M__law_of (mA1 (mN 0) (mA1 (mLst (mA1 (mK (.int 1)) (mA1 (mK (.int 1)) (mA1 (mK (.int 2)) (mA1 (mK (.int 5)) (mA1 (mK (.int 8)) mA0)))))) mA0))) mA0) [.o xs, .v (.lst []), .no, .no, .no, .no] = .ok ([.int n], [.o x1, .v (.lst []), .no, .no, .no, .no]) by simp only [evE, e1]]
    show @ite _ _ (Classical.propDecidable _) _ _ = _
    rw [if_pos (by omega)]
    rfl
  have s1 : mSet 2 (mBm "str" fJoin (mK (.str "")) (mA1 (mLc (mR1 (mA1 (mCallI M__law_of (mA1 (mN 0) (mA1 (mLst (mA1 (mK (.int 1)) (mA1 (mK (.int 1)) (mA1 (mK (.int 2)) (mA1 (mK (.int 5)) (mA1 (mK (.int 8)) mA0)))))) mA0))) mA0)) (gN 4) mYes Le__law_fresh_1 [4]) mA0)) [.o xs, .v (.lst []), .no, .no, .no, .no] = .ok (.nx [.o x2, .v (.lst []), .v (.str (mk ws)), .no, .no, .no]) := by
    have hlc : mLc (mR1 (mA1 (mCallI M__law_of (mA1 (mN 0) (mA1 (mLst (mA1 (mK (.int 1)) (mA1 (mK (.int 1)) (mA1 (mK (.int 2)) (mA1 (mK (.int 5)) (mA1 (mK (.int 8)) mA0)))))) mA0))) mA0)) (gN 4) mYes Le__law_fresh_1 [4] [.o xs, .v (.lst []), .no, .no, .no, .no] = .ok (.o (ws.map fun c => D.str ⟨#[c]⟩), [.o x2, .v (.lst []), .no, .no, .no, .no]) := by
      unfold mLc
      rw [hr]
      show R.bind (mLcL (gN 4) mYes Le__law_fresh_1 [4] (rngD 0 1 n) [.o x1, .v (.lst []), .no, .no, .no, .no] []) _ = _
      rw [e2]; rfl
    have hma : mA1 (mLc (mR1 (mA1 (mCallI M__law_of (mA1 (mN 0) (mA1 (mLst (mA1 (mK (.int 1)) (mA1 (mK (.int 1)) (mA1 (mK (.int 2)) (mA1 (mK (.int 5)) (mA1 (mK (.int 8)) mA0)))))) mA0))) mA0)) (gN 4) mYes Le__law_fresh_1 [4]) mA0 [.o xs, .v (.lst []), .no, .no, .no, .no] = .ok ([.v (.lst (ws.map fun c => D.str ⟨#[c]⟩))], [.o x2, .v (.lst []), .no, .no, .no, .no]) := by
      exact a1_ok hlc rfl
    unfold mSet mBm
    show R.bind (R.bind (mA1 _ _ [.o xs, .v (.lst []), .no, .no, .no, .no]) _) _ = _
    rw [hma]
    show R.bind (match fJoin [.str "", .lst (ws.map fun c => D.str ⟨#[c]⟩)] with | some nw => R.ok (nw.bv, [Sl.o x2, .v (.lst []), .no, .no, .no, .no]) | none => .bad) _ = _
    rw [join_e ws (by omega)]
    rfl
  have hlets : (sgs lets).length = 26 := by unfold sgs; rw [List.length_map]; decide +kernel
  have s2l : mLc (mIc (mCall M__law_letters mA0)) (gN 5) mYes Le__law_fresh_2 [5] [.o x2, .v (.lst []), .v (.str (mk ws)), .no, .no, .no] = .ok (.o ((sgs lets).map fun d => match d with | .str s => .str (Txt.mul s 2) | d => d), [.o x2, .v (.lst []), .v (.str (mk ws)), .no, .no, .no]) := by
    unfold mLc
    rw [show mIc (mCall M__law_letters mA0) [.o x2, .v (.lst []), .v (.str (mk ws)), .no, .no, .no] = .ok (sgs lets, [.o x2, .v (.lst []), .v (.str (mk ws)), .no, .no, .no]) by simp only [evE, mIc, e_letters]]
    show R.bind (mLcL (gN 5) mYes Le__law_fresh_2 [5] (sgs lets) [.o x2, .v (.lst []), .v (.str (mk ws)), .no, .no, .no] []) _ = _
    rw [mLcL_map (g := fun d => match d with | .str s => .str (Txt.mul s 2) | d => d) rfl (sgs lets) [] (fun d hd => ?_) (by rw [hlets]; decide)]
    · rfl
    · unfold sgs at hd
      obtain ⟨c, _, rfl⟩ := List.mem_map.mp hd
      refine ⟨rfl, ?_⟩
      have hm : fMulS [.str ⟨#[c]⟩, .int 2] = some (.v (.str (Txt.mul ⟨#[c]⟩ 2))) := Ty.o_mulS (mulOk2 c)
      simp only [evE, Le__law_fresh_2, hm]
  generalize hL : ((sgs lets).map fun d => match d with | .str s => D.str (Txt.mul s 2) | d => d) = L at s2l
  have hLl : L.length = 26 := by rw [← hL, List.length_map, hlets]
  have hLs : ∀ d ∈ L, ∃ s, d = .str s := fun d hd => by
    rw [← hL] at hd
    obtain ⟨y, hy, rfl⟩ := List.mem_map.mp hd
    unfold sgs at hy
    obtain ⟨c, _, rfl⟩ := List.mem_map.mp hy
    exact ⟨_, rfl⟩
  have s2 : mSet 3 (mB (two fAdd) (mA1 (mLst (mA1 (mN 2) mA0)) (mA1 (mLc (mIc (mCall M__law_letters mA0)) (gN 5) mYes Le__law_fresh_2 [5]) mA0))) [.o x2, .v (.lst []), .v (.str (mk ws)), .no, .no, .no] = .ok (.nx [.o x2, .v (.lst []), .v (.str (mk ws)), .o (.str (mk ws) :: L), .no, .no]) := by
    have ha : mA1 (mLst (mA1 (mN 2) mA0)) (mA1 (mLc (mIc (mCall M__law_letters mA0)) (gN 5) mYes Le__law_fresh_2 [5]) mA0) [.o x2, .v (.lst []), .v (.str (mk ws)), .no, .no, .no] = .ok ([.v (.lst [.str (mk ws)]), .v (.lst L)], [.o x2, .v (.lst []), .v (.str (mk ws)), .no, .no, .no]) := by
      have h1 : mLst (mA1 (mN 2) mA0) [.o x2, .v (.lst []), .v (.str (mk ws)), .no, .no, .no] = .ok (.o [.str (mk ws)], [.o x2, .v (.lst []), .v (.str (mk ws)), .no, .no, .no]) := by simp only [evE]
      exact a1_ok h1 (a1_ok s2l rfl)
    unfold mSet mB
    rw [ha]
    show R.bind (match fAdd [.lst [.str (mk ws)], .lst L] with | some nw => R.ok (nw.bv, [Sl.o x2, .v (.lst []), .v (.str (mk ws)), .no, .no, .no]) | none => .bad) _ = _
    have hadd : fAdd [.lst [.str (mk ws)], .lst L] = some (.o ([.str (mk ws)] ++ L)) := if_pos (by rw [hLl]; unfold SZ; simp)
    rw [hadd]
    rfl
  refine ⟨mk ws, x2, ?_, nameW_of (by omega) (by omega) h2, dr2⟩
  have s3l : mLc (mIs (mN 3)) (gN 5) Lt__law_fresh_3 Le__law_fresh_3 [5] [.o x2, .v (.lst []), .v (.str (mk ws)), .o (.str (mk ws) :: L), .no, .no] = .ok (.o (.str (mk ws) :: L), [.o x2, .v (.lst []), .v (.str (mk ws)), .v (.lst (.str (mk ws) :: L)), .no, .no]) := by
    unfold mLc
    rw [show mIs (mN 3) [.o x2, .v (.lst []), .v (.str (mk ws)), .o (.str (mk ws) :: L), .no, .no] = .ok (.str (mk ws) :: L, [.o x2, .v (.lst []), .v (.str (mk ws)), .v (.lst (.str (mk ws) :: L)), .no, .no]) by simp only [evE]]
    show R.bind (mLcL (gN 5) Lt__law_fresh_3 Le__law_fresh_3 [5] (.str (mk ws) :: L) [.o x2, .v (.lst []), .v (.str (mk ws)), .v (.lst (.str (mk ws) :: L)), .no, .no] []) _ = _
    rw [mLcL_map (g := id) rfl _ [] (fun d hd => ?_) (by rw [List.length_cons, hLl]; decide)]
    · rw [List.map_id]; rfl
    · obtain ⟨s, rfl⟩ : ∃ s, d = .str s := by
        rcases List.mem_cons.mp hd with q | q
        · exact ⟨_, q⟩
        · exact hLs d q
      have hin : fInW true [.str s, .lst []] = some (.v (.bl true)) := rfl
      exact ⟨by simp only [evE, Lt__law_fresh_3, hin], by simp only [evE, Le__law_fresh_3, id]⟩
  show R.bind (B__law_fresh [.o xs, .v (.lst []), .no, .no, .no, .no]) _ = _
  rw [B__law_fresh, seq_n s1, seq_n s2]
  have hr3 : mA1 (mLc (mIs (mN 3)) (gN 5) Lt__law_fresh_3 Le__law_fresh_3 [5]) (mA1 (mK (.int 0)) mA0) [.o x2, .v (.lst []), .v (.str (mk ws)), .o (.str (mk ws) :: L), .no, .no] = .ok ([.v (.lst (.str (mk ws) :: L)), .v (.int 0)], [.o x2, .v (.lst []), .v (.str (mk ws)), .v (.lst (.str (mk ws) :: L)), .no, .no]) := a1_ok s3l rfl
  unfold mRet mB
  rw [hr3]
  simp only [evE, at0]
theorem e_tree {ns : List Str} (hN : fNe [.lst (ns.map D.str), .lst []] = some (.v (.bl true))) (h0 : 0 < ns.length) (hl : ns.length ≤ 1000) : ∀ (k : Nat) (xs : List D) (d : Nat), Dr xs → d < k → ∃ t xs', M__law_tree_ k xs [.lst (ns.map D.str), .int d] = .ok (.v (eT t), xs') ∧ WT ns t ∧ dp t ≤ d ∧ Dr xs'
  | 0, _, _, _, h => by omega
  | k + 1, xs, d, dr, hk => by
    obtain ⟨f, x1, e1, hf0, hf1, dr1⟩ := e__law_take xs dr 9 (by decide) (by decide)
    have s1 : mSet 3 (mCallI M__law_take (mA1 (mN 0) (mA1 (mK (.int 9)) mA0))) [.o xs, .v (.lst (ns.map D.str)), .v (.int d), .no, .no, .no] = .ok (.nx [.o x1, .v (.lst (ns.map D.str)), .v (.int d), .v (.int f), .no, .no]) := by
      simp only [evE, e1]
    have key : ∀ t x' Γ', B__law_tree (M__law_tree_ k) [.o xs, .v (.lst (ns.map D.str)), .v (.int d), .no, .no, .no] = .ok (.rt (.v (eT t)) (.o x' :: Γ')) → M__law_tree_ (k + 1) xs [.lst (ns.map D.str), .int d] = .ok (.v (eT t), x') := fun t x' Γ' h => by
      show R.bind (B__law_tree (M__law_tree_ k) [.o xs, .v (.lst (ns.map D.str)), .v (.int d), .no, .no, .no]) _ = _
      rw [h]; rfl
    have hd0 : fEq [.int (d : Int), .int 0] = some (.v (.bl (decide (d = 0)))) := by
      rw [fEq_int]
      have : decide ((d : Int) = 0) = decide (d = 0) := by simp
      rw [this]
    have hEf : ∀ j : Int, fEq [.int f, .int j] = some (.v (.bl (decide (f = j)))) := fun j => fEq_int f j
    by_cases hc : d = 0 ∨ f < 2
    · have c1 : mOr (mT (mB (two fEq) (mA1 (mN 2) (mA1 (mK (.int 0)) mA0)))) (mT (mB (two fLt) (mA1 (mN 3) (mA1 (mK (.int 2)) mA0)))) [.o x1, .v (.lst (ns.map D.str)), .v (.int d), .v (.int f), .no, .no] = .ok (true, [.o x1, .v (.lst (ns.map D.str)), .v (.int d), .v (.int f), .no, .no]) := by
        by_cases h1 : d = 0
        · rw [decide_eq_true h1] at hd0
          simp only [evE, hd0]
        · rw [decide_eq_false h1] at hd0
          have h2 : decide (f < 2) = true := decide_eq_true (hc.resolve_left h1)
          simp only [evE, hd0, h2]
      obtain ⟨g, x2, e2, hg0, hg1, dr2⟩ := e__law_take x1 dr1 4 (by decide) (by decide)
      by_cases hg : 0 < g
      · have hgd : decide (0 < g) = true := decide_eq_true hg
        obtain ⟨v, x3, e3, hv, dr3⟩ := e__law_of x2 dr2 (.lst (ns.map D.str)) _ (.inl rfl) (by rw [List.length_map]; exact h0) (by rw [List.length_map]; omega)
        obtain ⟨s, hs, rfl⟩ := List.mem_map.mp hv
        refine ⟨.name s, x3, key (.name s) x3 [.v (.lst (ns.map D.str)), .v (.int d), .v (.int f), .no, .no] ?_, hs, Nat.zero_le _, dr3⟩
        rw [B__law_tree, seq_n s1]
        refine seq_r ((if_1 c1).trans ?_)
        simp only [evE, hN, e2, hgd, e3, eT]
      · have hgd : decide (0 < g) = false := decide_eq_false hg
        obtain ⟨r, x3, e3, hr0, hr1, dr3⟩ := e__law_take x2 dr2 1000000 (by decide) (by decide)
        obtain ⟨v, x4, e4, hv, dr4⟩ := e__law_of x3 dr3 (.lst [.int 0, .int 1, .int 2, .int 97, .int r]) _ (.inl rfl) (by simp) (by simp)
        obtain ⟨n, rfl, hn⟩ : ∃ n : Int, v = .int n ∧ 0 ≤ n ∧ n < 1000000 := by
          simp only [List.mem_cons, List.not_mem_nil, or_false] at hv
          rcases hv with rfl | rfl | rfl | rfl | rfl <;> exact ⟨_, rfl, by omega, by omega⟩
        refine ⟨.num n, x4, key (.num n) x4 [.v (.lst (ns.map D.str)), .v (.int d), .v (.int f), .no, .no] ?_, hn, Nat.zero_le _, dr4⟩
        rw [B__law_tree, seq_n s1]
        refine seq_r ((if_1 c1).trans ?_)
        simp only [evE, hN, e2, hgd, e3, e4, eT]
    · have hd : d ≠ 0 := fun z => hc (.inl z)
      have hf : ¬ f < 2 := fun z => hc (.inr z)
      rw [decide_eq_false hd] at hd0
      have c1 : mOr (mT (mB (two fEq) (mA1 (mN 2) (mA1 (mK (.int 0)) mA0)))) (mT (mB (two fLt) (mA1 (mN 3) (mA1 (mK (.int 2)) mA0)))) [.o x1, .v (.lst (ns.map D.str)), .v (.int d), .v (.int f), .no, .no] = .ok (false, [.o x1, .v (.lst (ns.map D.str)), .v (.int d), .v (.int f), .no, .no]) := by
        have h2 : decide (f < 2) = false := decide_eq_false hf
        simp only [evE, hd0, h2]
      have hd1 : (d : Int) - 1 = ((d - 1 : Nat) : Int) := by omega
      obtain ⟨t1, x2, e2, hw1, hp1, dr2⟩ := e_tree hN h0 hl k x1 (d - 1) dr1 (by omega)
      have s2 : mSet 4 (mCallI (M__law_tree_ k) (mA1 (mN 0) (mA1 (mN 1) (mA1 (mB (two fSub) (mA1 (mN 2) (mA1 (mK (.int 1)) mA0))) mA0)))) [.o x1, .v (.lst (ns.map D.str)), .v (.int d), .v (.int f), .no, .no] = .ok (.nx [.o x2, .v (.lst (ns.map D.str)), .v (.int d), .v (.int f), .v (eT t1), .no]) := by
        simp only [evE, hd1, e2]
      have pre : ∀ m r, m [.o x2, .v (.lst (ns.map D.str)), .v (.int d), .v (.int f), .v (eT t1), .no] = r → ∀ a, (mSeq (mIf (mOr (mT (mB (two fEq) (mA1 (mN 2) (mA1 (mK (.int 0)) mA0)))) (mT (mB (two fLt) (mA1 (mN 3) (mA1 (mK (.int 2)) mA0))))) a mNx) (mSeq (mSet 4 (mCallI (M__law_tree_ k) (mA1 (mN 0) (mA1 (mN 1) (mA1 (mB (two fSub) (mA1 (mN 2) (mA1 (mK (.int 1)) mA0))) mA0))))) m)) [.o x1, .v (.lst (ns.map D.str)), .v (.int d), .v (.int f), .no, .no] = r := fun m r h a =>
        (seq_n (Γ1 := [.o x1, .v (.lst (ns.map D.str)), .v (.int d), .v (.int f), .no, .no]) ((if_0 c1).trans rfl)).trans ((seq_n s2).trans h)
      by_cases h2 : f = 2
      · refine ⟨.turned t1, x2, key (.turned t1) x2 [.v (.lst (ns.map D.str)), .v (.int d), .v (.int f), .v (eT t1), .no] ?_, hw1, by show dp t1 + 1 ≤ d; omega, dr2⟩
        rw [B__law_tree, seq_n s1]
        refine pre _ _ ?_ _
        have q := hEf 2
        rw [decide_eq_true h2] at q
        simp only [evE, q, eT]
      · have q2 := hEf 2
        rw [decide_eq_false h2] at q2
        by_cases h3 : f = 3
        · have q3 := hEf 3
          rw [decide_eq_true h3] at q3
          obtain ⟨r, x3, e3, hr0, hr1, dr3⟩ := e__law_take x2 dr2 15 (by decide) (by decide)
          obtain ⟨v, x4, e4, hv, dr4⟩ := e__law_of x3 dr3 (.lst [.int 0, .int 1, .int 2, .int 3, .int (-1), .int (-2), .int (7 - r), .int 999999, .int (-999999)]) _ (.inl rfl) (by simp) (by simp)
          obtain ⟨n, rfl, hn⟩ : ∃ n : Int, v = .int n ∧ -999999 ≤ n ∧ n ≤ 999999 := by
            simp only [List.mem_cons, List.not_mem_nil, or_false] at hv
            rcases hv with rfl | rfl | rfl | rfl | rfl | rfl | rfl | rfl | rfl <;> exact ⟨_, rfl, by omega, by omega⟩
          refine ⟨.power t1 n, x4, key (.power t1 n) x4 [.v (.lst (ns.map D.str)), .v (.int d), .v (.int f), .v (eT t1), .no] ?_, ⟨hw1, hn⟩, by show dp t1 + 1 ≤ d; omega, dr4⟩
          rw [B__law_tree, seq_n s1]
          refine pre _ _ ?_ _
          simp only [evE, q2, q3, e3, e4, eT]
        · have q3 := hEf 3
          rw [decide_eq_false h3] at q3
          obtain ⟨v, x3, e3, hv, dr3⟩ := e__law_of x2 dr2 (.lst [.str "plus", .str "minus", .str "times", .str "plus", .str "times", .str "over"]) _ (.inl rfl) (by simp) (by simp)
          obtain ⟨w, rfl, hw⟩ : ∃ w : Str, v = .str w ∧ w ∈ two4 := by
            simp only [List.mem_cons, List.not_mem_nil, or_false] at hv
            unfold two4
            rcases hv with rfl | rfl | rfl | rfl | rfl | rfl <;> exact ⟨_, rfl, by simp⟩
          obtain ⟨r, x4, e4, hr0, hr1, dr4⟩ := e__law_take x3 dr3 2 (by decide) (by decide)
          obtain ⟨rn, rfl⟩ := Int.eq_ofNat_of_zero_le hr0
          have hmx : (if ((d - 1 : Nat) : Int) - (rn : Int) > 0 then ((d - 1 : Nat) : Int) - (rn : Int) else 0) = ((d - 1 - rn : Nat) : Int) := by
            split <;> omega
          obtain ⟨t2, x5, e5, hw2, hp2, dr5⟩ := e_tree hN h0 hl k x4 (d - 1 - rn) dr4 (by omega)
          refine ⟨.bin w t1 t2, x5, key (.bin w t1 t2) x5 [.v (.lst (ns.map D.str)), .v (.int d), .v (.int f), .v (eT t1), .v (.str w)] ?_, ⟨hw, hw1, hw2⟩, by show max (dp t1) (dp t2) + 1 ≤ d; omega, dr5⟩
          rw [B__law_tree, seq_n s1]
          refine pre _ _ ?_ _
          simp only [evE, q2, q3, e3, e4, hd1, hmx, e5, eT]
theorem e_shut {M : List D → R Nw} {t : Tr} {s : Str} (hM : M [eT t] = .ok (.v (.str s))) (hl : s.length ≤ 100000) (ks : List Str) : Mq__law_shut M [eT t, .lst (ks.map D.str)] = .ok (.v (.str (sht ks t s))) := by
  obtain ⟨r, hr⟩ := eT_kd t
  rw [hr] at hM ⊢
  have hin := in_l (kd t) ks
  unfold sht
  by_cases h : kd t ∈ ks
  · rw [decide_eq_true h] at hin
    rw [if_pos h]
    have h1 : ("(" : Str).length + s.length ≤ 1000000 := by rw [show ("(" : Str).length = 1 by decide +kernel]; omega
    have h2 : (("(" : Str) ++ s).length + (")" : Str).length ≤ 1000000 := by rw [len_app, show ("(" : Str).length = 1 by decide +kernel, show (")" : Str).length = 1 by decide +kernel]; omega
    simp only [evE, Mq__law_shut, B__law_shut, at0, hin, hM, adS h1, adS h2]
  · rw [decide_eq_false h] at hin
    rw [if_neg h]
    simp only [evE, Mq__law_shut, B__law_shut, at0, hin, hM]
theorem two_cut : cutD (two4.map D.str) none (some 2) = two2.map D.str := rfl
theorem e_text {ns : List Str} (hn : ∀ s ∈ ns, Nice s 11 0) : ∀ (k : Nat) (t : Tr), WT ns t → dp t < k → lB (dp t) ≤ 100000 → M__law_text_ k [eT t] = .ok (.v (.str (txt t)))
  | 0, _, _, h, _ => by omega
  | k + 1, t, hw, hk, hlb => by
    have nn : ∀ u : Tr, WT ns u → dp u < k → lB (dp u) ≤ 100000 → (M__law_text_ k [eT u] = .ok (.v (.str (txt u))) ∧ (txt u).length ≤ 100000) := fun u h1 h2 h3 => ⟨e_text hn k u h1 h2 h3, Nat.le_trans (txt_nice hn u h1).2.1 h3⟩
    have e1 : mSet 1 (mLst (mA1 (mK (.str "plus")) (mA1 (mK (.str "minus")) (mA1 (mK (.str "times")) (mA1 (mK (.str "over")) mA0))))) [.v (eT t), .no] = .ok (.nx [.v (eT t), .o (two4.map D.str)]) := by
      simp only [evE]
      rfl
    show R.bind (B__law_text (M__law_text_ k) [.v (eT t), .no]) _ = _
    rw [B__law_text, seq_n e1]
    have l1 : ∀ ks u s, s.length ≤ 100000 → (sht ks u s).length ≤ 100002 := fun ks u s h => by
      unfold sht
      split
      · rw [len_app, len_app, show ("(" : Str).length = 1 by decide +kernel, show (")" : Str).length = 1 by decide +kernel]; omega
      · omega
    cases t with
    | name s =>
      have h1 := in_t "name" ["name", "number"]
      rw [decide_eq_true (by decide +kernel)] at h1
      simp only [List.map_cons, List.map_nil] at h1
      simp only [evE, eT, at0, at1, h1, fStr, txt]
    | num n =>
      have h1 := in_t "number" ["name", "number"]
      rw [decide_eq_true (by decide +kernel)] at h1
      simp only [List.map_cons, List.map_nil] at h1
      have hn1 : (-1000000 ≤ n ∧ n ≤ 1000000) = True := eq_true ⟨by have := hw.1; omega, by have := hw.2; omega⟩
      simp only [evE, eT, at0, at1, h1, fStr, hn1, txt]
      rfl
    | turned u =>
      have h1 := in_t "turned" ["name", "number"]
      rw [decide_eq_false (by decide +kernel)] at h1
      simp only [List.map_cons, List.map_nil] at h1
      have h2 : fEq [.str "turned", .str "turned"] = some (.v (.bl true)) := by rw [Ty.q_str (by decide +kernel)]; rfl
      have hk' : dp u < k := by have : dp (.turned u) = dp u + 1 := rfl; omega
      obtain ⟨h3, h4⟩ := nn u hw hk' (by have := lB_le (show dp u ≤ dp (.turned u) by show _ ≤ dp u + 1; omega); omega)
      have h5 := e_shut h3 h4 two4
      have h6 : (sht two4 u (txt u)).length + ("'" : Str).length ≤ 1000000 := by
        have := l1 two4 u _ h4
        rw [show ("'" : Str).length = 1 by decide +kernel]; omega
      simp only [evE, eT, at0, at1, h1, h2, h5, nt_e, nt_4, Bool.and_self, adS h6, txt]
    | power u n =>
      have h1 := in_t "power" ["name", "number"]
      rw [decide_eq_false (by decide +kernel)] at h1
      simp only [List.map_cons, List.map_nil] at h1
      have h2 : fEq [.str "power", .str "turned"] = some (.v (.bl false)) := by rw [Ty.q_str (by decide +kernel)]; rfl
      have h2' : fEq [.str "power", .str "power"] = some (.v (.bl true)) := by rw [Ty.q_str (by decide +kernel)]; rfl
      have hk' : dp u < k := by have : dp (.power u n) = dp u + 1 := rfl; omega
      obtain ⟨hw1, hw2, hw3⟩ := hw
      obtain ⟨h3, h4⟩ := nn u hw1 hk' (by have := lB_le (show dp u ≤ dp (.power u n) by show _ ≤ dp u + 1; omega); omega)
      have h5 := e_shut h3 h4 two4
      have h6 : (sht two4 u (txt u)).length + ("^" : Str).length ≤ 1000000 := by
        have := l1 two4 u _ h4
        rw [show ("^" : Str).length = 1 by decide +kernel]; omega
      have h7 : (sht two4 u (txt u) ++ ("^" : Str)).length + (numT n).length ≤ 1000000 := by
        have := l1 two4 u _ h4
        have := (num_nice (n := n) ⟨by omega, by omega⟩).2.1
        rw [len_app, show ("^" : Str).length = 1 by decide +kernel]; omega
      have hn1 : (-1000000 ≤ n ∧ n ≤ 1000000) = True := eq_true ⟨by omega, by omega⟩
      have h8 : ((toString n : String) : Str) = numT n := rfl
      simp only [evE, eT, at0, at1, at2, h1, h2, h2', h5, nt_e, nt_4, Bool.and_self, adS h6, fStr, hn1, h8, adS h7, txt]
    | bin w a b =>
      obtain ⟨hw0, hw1, hw2⟩ := hw
      have hd1 : dp (.bin w a b) = max (dp a) (dp b) + 1 := rfl
      have hm1 := Nat.le_max_left (dp a) (dp b)
      have hm2 := Nat.le_max_right (dp a) (dp b)
      obtain ⟨h3, h4⟩ := nn a hw1 (by omega) (by have := lB_le (show dp a ≤ dp (.bin w a b) by omega); omega)
      obtain ⟨g3, g4⟩ := nn b hw2 (by omega) (by have := lB_le (show dp b ≤ dp (.bin w a b) by omega); omega)
      have h1 := in_t w ["name", "number"]
      have hh : w ∉ (["name", "number"] : List Str) ∧ (fEq [.str w, .str "turned"] = some (.v (.bl false))) ∧ (fEq [.str w, .str "power"] = some (.v (.bl false))) := by
        simp only [two4, List.mem_cons, List.not_mem_nil, or_false] at hw0
        rcases hw0 with rfl | rfl | rfl | rfl <;> exact ⟨by decide +kernel, by rw [Ty.q_str (by decide +kernel)]; rfl, by rw [Ty.q_str (by decide +kernel)]; rfl⟩
      obtain ⟨hh1, hh2, hh3⟩ := hh
      rw [decide_eq_false hh1] at h1
      have h9 := in_t w two2
      simp only [List.map_cons, List.map_nil] at h1
      have hsg := (sg_nice w).2.1
      have s4 := fun u s h => e_shut (M := M__law_text_ k) (t := u) (s := s) h
      unfold txt
      by_cases h10 : w ∈ two2
      · rw [decide_eq_true h10] at h9
        simp only [two2, List.map_cons, List.map_nil] at h9
        rw [if_pos h10]
        have g5 := e_shut g3 g4 two2
        have h6 : (txt a).length + (sg w).length ≤ 1000000 := by omega
        have h7 : (txt a ++ sg w).length + (sht two2 b (txt b)).length ≤ 1000000 := by
          have := l1 two2 b _ g4
          rw [len_app]; omega
        simp only [evE, eT, at0, at1, at2, h1, hh2, hh3, h9, h3, e_signs, dg hw0, adS h6, two_cut, nt_e, nt_4, nt_2, Bool.and_self, g5, adS h7]
      · rw [decide_eq_false h10] at h9
        simp only [two2, List.map_cons, List.map_nil] at h9
        rw [if_neg h10]
        have h5 := e_shut h3 h4 two2
        have g5 := e_shut g3 g4 two4
        have h6 : (sht two2 a (txt a)).length + (sg w).length ≤ 1000000 := by
          have := l1 two2 a _ h4
          omega
        have h7 : (sht two2 a (txt a) ++ sg w).length + (sht two4 b (txt b)).length ≤ 1000000 := by
          have := l1 two2 a _ h4
          have := l1 two4 b _ g4
          rw [len_app]; omega
        simp only [evE, eT, at0, at1, at2, h1, hh2, hh3, h9, e_signs, dg hw0, two_cut, nt_e, nt_4, nt_2, Bool.and_self, h5, adS h6, nt_e, nt_4, nt_2, Bool.and_self, g5, adS h7]
theorem name_nice {w : Str} (h : nameW w = true) : Nice w 11 0 := by
  obtain ⟨_, h4⟩ := name_sg h
  unfold nameW at h
  simp only [Bool.and_eq_true, decide_eq_true_eq] at h
  have h5 : ∀ c ∈ signs "abcdefghijklmnopqrstuvwxyz", c < 0x110000 ∧ c ≠ 40 := by decide +kernel
  refine ⟨ok_sg.mpr fun c hc => (h5 c (h4 c hc)).1, by omega, ?_⟩
  rw [List.count_eq_zero.mpr fun z => (h5 40 (h4 40 z)).2 rfl]
  exact Nat.le_refl _
theorem cut_h {t : Str} {a : Nat} (h : a ≤ t.length) : L2.cutS t none (some (a : Int)) = mk ((signs t).take a) := by
  have e : t.cps.toList.length = t.length := Array.length_toList
  unfold L2.cutS
  rw [HT.sIx_none, HT.sIx_nat]
  simp only [e, Nat.min_eq_left h, List.drop_zero, Nat.sub_zero]
  rfl
theorem cut_l {t : Str} {a : Nat} : L2.cutS t (some (a : Int)) none = mk ((signs t).drop a) := by
  have e : t.cps.toList.length = t.length := Array.length_toList
  unfold L2.cutS
  rw [HT.sIx_none, HT.sIx_nat]
  show mk (((signs t).drop (min a t.length)).take (t.length - min a t.length)) = _
  congr 1
  have e0 : (signs t).length = t.length := e
  by_cases h : a ≤ t.length
  · rw [Nat.min_eq_left h]
    exact List.take_of_length_le (by rw [List.length_drop]; omega)
  · rw [Nat.min_eq_right (by omega), Nat.sub_self, List.take_zero, List.drop_eq_nil_of_le (by omega)]
theorem emp (s : Str) : Str.empty ++ s = s := PySem.W.KT.empty_app s
theorem str_ext {a b : Str} (h : signs a = signs b) : a = b := by rw [← mk_sg a, ← mk_sg b, h]
theorem l_two : ("(" : Str).length = 1 ∧ (")" : Str).length = 1 ∧ ("'" : Str).length = 1 ∧ ("^" : Str).length = 1 ∧ (" " : Str).length = 1 := by decide +kernel
theorem e_shutW {M : List D → R Nw} {t : Tr} {s : Str} (hM : M [eT t] = .ok (.v (.str s))) (hl : s.length ≤ 100000) (ks : List Str) : Mq_shut M [eT t, .tup (ks.map D.str)] = .ok (.v (.str (sht ks t s))) := by
  obtain ⟨r, hr⟩ := eT_kd t
  rw [hr] at hM ⊢
  have hin := in_t (kd t) ks
  have l1 := l_two
  have c0 : s.length ≤ 1000000 := by omega
  unfold sht
  by_cases h : kd t ∈ ks
  · rw [decide_eq_true h] at hin
    rw [if_pos h]
    have c1 : ("(" : Str).length ≤ 1000000 := by omega
    have c2 : (("(" : Str) ++ s).length ≤ 1000000 := by rw [len_app]; omega
    have c3 : ((("(" : Str) ++ s) ++ (")" : Str)).length ≤ 1000000 := by rw [len_app, len_app]; omega
    simp only [evE, Mq_shut, B_shut, at0, hin, hM, mJs, mJsL, fFmt, emp, c0, c1, c2, c3]
  · rw [decide_eq_false h] at hin
    rw [if_neg h]
    simp only [evE, Mq_shut, B_shut, at0, hin, hM]
def og (w : Str) : Str := if w = "plus" then "+" else if w = "minus" then "-" else if w = "times" then "*" else "/"
theorem og_of {w : Str} (h : w ∈ two4) : fDc [("plus", "+"), ("minus", "-"), ("times", "*"), ("over", "/")] [.str w] = some (.v (.str (og w))) ∧ (og w).length = 1 ∧ signs (sg w) = 32 :: (signs (og w) ++ [32]) := by
  simp only [two4, List.mem_cons, List.not_mem_nil, or_false] at h
  rcases h with rfl | rfl | rfl | rfl <;> exact ⟨rfl, by decide +kernel, by decide +kernel⟩
theorem bin_eq {w L R : Str} (h : w ∈ two4) : (((L ++ (" " : Str)) ++ og w) ++ (" " : Str)) ++ R = (L ++ sg w) ++ R := by
  refine str_ext ?_
  simp only [sg_app, (og_of h).2.2, show signs (" " : Str) = [32] by decide +kernel]
  simp
theorem k_bin : k_BINARY = two4 := rfl
theorem e_write {ns : List Str} (hn : ∀ s ∈ ns, Nice s 11 0) : ∀ (k : Nat) (t : Tr), WT ns t → dp t < k → lB (dp t) ≤ 100000 → M_write_ k [eT t] = .ok (.v (.str (txt t)))
  | 0, _, _, h, _ => by omega
  | k + 1, t, hw, hk, hlb => by
    have nn : ∀ u : Tr, WT ns u → dp u < k → lB (dp u) ≤ 100000 → (M_write_ k [eT u] = .ok (.v (.str (txt u))) ∧ (txt u).length ≤ 100000) := fun u h1 h2 h3 => ⟨e_write hn k u h1 h2 h3, Nat.le_trans (txt_nice hn u h1).2.1 h3⟩
    have l2 := l_two
    have l1 : ∀ ks u s, s.length ≤ 100000 → (sht ks u s).length ≤ 100002 := fun ks u s h => by
      unfold sht
      split
      · rw [len_app, len_app]; omega
      · omega
    show R.bind (B_write (M_write_ k) [.v (eT t), .no, .no, .no, .no, .no]) _ = _
    cases t with
    | name s =>
      have h1 := in_t "name" ["name", "number"]
      rw [decide_eq_true (by decide +kernel)] at h1
      simp only [List.map_cons, List.map_nil] at h1
      have s1 : mStar 1 2 3 (mN 0) [.v (eT (.name s)), .no, .no, .no, .no, .no] = .ok (.nx [.v (eT (.name s)), .v (.str "name"), .v (.str s), .o [], .no, .no]) := rfl
      rw [B_write, seq_n s1]
      simp only [evE, h1, fStr, txt]
    | num n =>
      have h1 := in_t "number" ["name", "number"]
      rw [decide_eq_true (by decide +kernel)] at h1
      simp only [List.map_cons, List.map_nil] at h1
      have hn1 : (-1000000 ≤ n ∧ n ≤ 1000000) = True := eq_true ⟨by have := hw.1; omega, by have := hw.2; omega⟩
      have s1 : mStar 1 2 3 (mN 0) [.v (eT (.num n)), .no, .no, .no, .no, .no] = .ok (.nx [.v (eT (.num n)), .v (.str "number"), .v (.int n), .o [], .no, .no]) := rfl
      rw [B_write, seq_n s1]
      simp only [evE, h1, fStr, hn1, txt]
      rfl
    | turned u =>
      have h1 := in_t "turned" ["name", "number"]
      rw [decide_eq_false (by decide +kernel)] at h1
      simp only [List.map_cons, List.map_nil] at h1
      have h2 : fEq [.str "turned", .str "turned"] = some (.v (.bl true)) := by rw [Ty.q_str (by decide +kernel)]; rfl
      have hk' : dp u < k := by have : dp (.turned u) = dp u + 1 := rfl; omega
      obtain ⟨h3, h4⟩ := nn u hw hk' (by have := lB_le (show dp u ≤ dp (.turned u) by show _ ≤ dp u + 1; omega); omega)
      have h5 := e_shutW h3 h4 two4
      have h6 : (sht two4 u (txt u)).length + ("'" : Str).length ≤ 1000000 := by
        have := l1 two4 u _ h4
        omega
      have s1 : mStar 1 2 3 (mN 0) [.v (eT (.turned u)), .no, .no, .no, .no, .no] = .ok (.nx [.v (eT (.turned u)), .v (.str "turned"), .v (eT u), .o [], .no, .no]) := rfl
      rw [B_write, seq_n s1]
      simp only [evE, h1, h2, k_bin, h5, adS h6, txt]
    | power u n =>
      have h1 := in_t "power" ["name", "number"]
      rw [decide_eq_false (by decide +kernel)] at h1
      simp only [List.map_cons, List.map_nil] at h1
      have h2 : fEq [.str "power", .str "turned"] = some (.v (.bl false)) := by rw [Ty.q_str (by decide +kernel)]; rfl
      have h2' : fEq [.str "power", .str "power"] = some (.v (.bl true)) := by rw [Ty.q_str (by decide +kernel)]; rfl
      have hk' : dp u < k := by have : dp (.power u n) = dp u + 1 := rfl; omega
      obtain ⟨hw1, hw2, hw3⟩ := hw
      obtain ⟨h3, h4⟩ := nn u hw1 hk' (by have := lB_le (show dp u ≤ dp (.power u n) by show _ ≤ dp u + 1; omega); omega)
      have h5 := e_shutW h3 h4 two4
      have q := l1 two4 u _ h4
      have q2 := (num_nice (n := n) ⟨by omega, by omega⟩).2.1
      have c1 : (sht two4 u (txt u)).length ≤ 1000000 := by omega
      have c2 : (sht two4 u (txt u) ++ ("^" : Str)).length ≤ 1000000 := by rw [len_app]; omega
      have c3 : ((sht two4 u (txt u) ++ ("^" : Str)) ++ numT n).length ≤ 1000000 := by rw [len_app, len_app]; omega
      have hn1 : (-1000000 ≤ n ∧ n ≤ 1000000) = True := eq_true ⟨by omega, by omega⟩
      have h8 : ((toString n : String) : Str) = numT n := rfl
      have s1 : mStar 1 2 3 (mN 0) [.v (eT (.power u n)), .no, .no, .no, .no, .no] = .ok (.nx [.v (eT (.power u n)), .v (.str "power"), .v (eT u), .o [.int n], .no, .no]) := rfl
      rw [B_write, seq_n s1]
      simp only [evE, h1, h2, h2', k_bin, h5, at0, mJs, mJsL, fFmt, emp, c1, c2, hn1, h8, c3, txt]
    | bin w a b =>
      obtain ⟨hw0, hw1, hw2⟩ := hw
      have hd1 : dp (.bin w a b) = max (dp a) (dp b) + 1 := rfl
      have hm1 := Nat.le_max_left (dp a) (dp b)
      have hm2 := Nat.le_max_right (dp a) (dp b)
      obtain ⟨h3, h4⟩ := nn a hw1 (by omega) (by have := lB_le (show dp a ≤ dp (.bin w a b) by omega); omega)
      obtain ⟨g3, g4⟩ := nn b hw2 (by omega) (by have := lB_le (show dp b ≤ dp (.bin w a b) by omega); omega)
      have h1 := in_t w ["name", "number"]
      have hh : w ∉ (["name", "number"] : List Str) ∧ (fEq [.str w, .str "turned"] = some (.v (.bl false))) ∧ (fEq [.str w, .str "power"] = some (.v (.bl false))) ∧ ((w ∈ two2 → w ∉ (["times", "over"] : List Str)) ∧ (w ∉ two2 → w ∈ (["times", "over"] : List Str))) := by
        simp only [two4, List.mem_cons, List.not_mem_nil, or_false] at hw0
        rcases hw0 with rfl | rfl | rfl | rfl <;> exact ⟨by decide +kernel, by rw [Ty.q_str (by decide +kernel)]; rfl, by rw [Ty.q_str (by decide +kernel)]; rfl, by decide +kernel⟩
      obtain ⟨hh1, hh2, hh3, hh4, hh5⟩ := hh
      rw [decide_eq_false hh1] at h1
      have h9 := in_t w ["times", "over"]
      simp only [List.map_cons, List.map_nil] at h1
      obtain ⟨o1, o2, _⟩ := og_of hw0
      have co : (og w).length ≤ 1000000 := by omega
      have fin2 : ∀ one other : Str, one.length ≤ 100002 → other.length ≤ 100002 → one.length ≤ 1000000 ∧ (one ++ (" " : Str)).length ≤ 1000000 ∧ ((one ++ (" " : Str)) ++ og w).length ≤ 1000000 ∧ (((one ++ (" " : Str)) ++ og w) ++ (" " : Str)).length ≤ 1000000 ∧ other.length ≤ 1000000 ∧ ((((one ++ (" " : Str)) ++ og w) ++ (" " : Str)) ++ other).length ≤ 1000000 := fun one other u1 u2 => by
        refine ⟨by omega, ?_, ?_, ?_, by omega, ?_⟩
        · rw [len_app]; omega
        · rw [len_app, len_app]; omega
        · rw [len_app, len_app, len_app]; omega
        · rw [len_app, len_app, len_app, len_app]; omega
      have s1 : mStar 1 2 3 (mN 0) [.v (eT (.bin w a b)), .no, .no, .no, .no, .no] = .ok (.nx [.v (eT (.bin w a b)), .v (.str w), .v (eT a), .o [eT b], .no, .no]) := rfl
      have ltm : (two2.map D.str).length ≤ 1000000 := by decide
      have two2m : [D.str "plus", D.str "minus"] = two2.map D.str := rfl
      rw [B_write, seq_n s1]
      unfold txt
      by_cases h10 : w ∈ two2
      · rw [decide_eq_false (hh4 h10)] at h9
        simp only [List.map_cons, List.map_nil] at h9
        rw [if_pos h10]
        have p1 := e_shutW h3 h4 ([] : List Str)
        have sh1 : sht ([] : List Str) a (txt a) = txt a := if_neg (by simp)
        rw [sh1] at p1
        simp only [List.map_nil] at p1
        have p2 := e_shutW g3 g4 two2
        have lo2 := l1 two2 b _ g4
        obtain ⟨a1, a2, a3, a4, a5, a6⟩ := fin2 (txt a) (sht two2 b (txt b)) (by omega) lo2
        rw [← bin_eq hw0]
        simp only [evE, h1, hh2, hh3, h9, at0, two2m, ltm, p1, p2, o1, mJs, mJsL, fFmt, emp, co, a1, a2, a3, a4, a5, a6]
      · rw [decide_eq_true (hh5 h10)] at h9
        simp only [List.map_cons, List.map_nil] at h9
        rw [if_neg h10]
        have p1 := e_shutW h3 h4 two2
        have p2 := e_shutW g3 g4 two4
        have lo1 := l1 two2 a _ h4
        have lo2 := l1 two4 b _ g4
        obtain ⟨a1, a2, a3, a4, a5, a6⟩ := fin2 (sht two2 a (txt a)) (sht two4 b (txt b)) lo1 lo2
        rw [← bin_eq hw0]
        simp only [evE, h1, hh2, hh3, h9, at0, two2m, ltm, k_bin, p1, p2, o1, mJs, mJsL, fFmt, emp, co, a1, a2, a3, a4, a5, a6]
end K53
namespace Tg
open PySem Rg
def Nw : Tr → Prop
  | .name s => nameW s = true
  | .num _ => True
  | .turned t => Nw t
  | .power t _ => Nw t
  | .bin _ a b => Nw a ∧ Nw b
def opW (w : Str) : Bool := decide (w = "'") || decide (w = "^") || decide (w = "+") || decide (w = "-") || decide (w = "*") || decide (w = "/")
def opC (c : Nat) : Bool := decide (c = 39) || decide (c = 94) || decide (c = 43) || decide (c = 45) || decide (c = 42) || decide (c = 47)
def On (f : Nat → Str) : Nat → Nat
  | 0 => 0
  | n + 1 => On f n + if opW (f n) = true then 1 else 0
theorem on_mono {f : Nat → Str} {i j : Nat} (h : i ≤ j) : On f i ≤ On f j := by
  induction h with
  | refl => exact Nat.le_refl _
  | step _ ih => exact Nat.le_trans ih (Nat.le_add_right _ _)
theorem on_op {f : Nat → Str} {i : Nat} (h : opW (f i) = true) : On f (i + 1) = On f i + 1 := by
  show On f i + (if opW (f i) = true then 1 else 0) = _
  rw [if_pos h]
section
variable {f : Nat → Str}
def Sd (f : Nat → Str) (i : Nat) (p : PR) : Prop := ∀ u j, p = some (.ok (u, j)) → i ≤ j ∧ Nw u ∧ On f i + dp u ≤ On f j
theorem d_powL : ∀ (n : Nat) (t : Tr) (i0 i : Nat), Nw t → i0 ≤ i → On f i0 + dp t ≤ On f i → ∀ u j, pPowL f n t i = some (.ok (u, j)) → i0 ≤ j ∧ Nw u ∧ On f i0 + dp u ≤ On f j
  | 0, _, _, _, _, _, _, _, _, h => by cases h
  | n + 1, t, i0, i, hb, hi, hc, u, j, h => by
    unfold pPowL at h
    split at h
    · rename_i hq
      have := on_op (f := f) (i := i) (by rw [hq]; decide +kernel)
      exact d_powL n (.turned t) i0 (i + 1) hb (by omega) (by show _ + (dp t + 1) ≤ _; omega) u j h
    · split at h
      · rename_i hq
        have h1 := on_op (f := f) (i := i) (by rw [hq]; decide +kernel)
        split at h
        · rename_i v _
          have h2 := on_mono (f := f) (show i + 1 ≤ i + 1 + (neg f (i + 1)).toNat + 1 by omega)
          exact d_powL n (.power t (if neg f (i + 1) = true then 0 - v else v)) i0 _ hb (by omega) (by show _ + (dp t + 1) ≤ _; omega) u j h
        · cases h
      · cases h
        exact ⟨hi, hb, hc⟩
theorem d_ops {kvs : List (Str × Str)} {p : Nat → PR} (hk : ∀ w v, lkS kvs w = some v → opW w = true) (hp : ∀ i, Sd f i (p i)) : ∀ (n : Nat) (t : Tr) (i0 i : Nat), Nw t → i0 ≤ i → On f i0 + dp t ≤ On f i → ∀ u j, ops kvs f p n t i = some (.ok (u, j)) → i0 ≤ j ∧ Nw u ∧ On f i0 + dp u ≤ On f j
  | 0, _, _, _, _, _, _, _, _, h => by cases h
  | n + 1, t, i0, i, hb, hi, hc, u, j, h => by
    unfold ops at h
    split at h
    · cases h
      exact ⟨hi, hb, hc⟩
    · rename_i w hw
      have h1 := on_op (f := f) (i := i) (hk _ _ hw)
      split at h
      · cases h
      · cases h
      · rename_i x k e
        obtain ⟨q1, q2, q3⟩ := hp (i + 1) x k e
        have h2 := on_mono (f := f) hi
        have h3 := on_mono (f := f) q1
        exact d_ops hk hp n (.bin w t x) i0 k ⟨hb, q2⟩ (by omega) (by show _ + (max (dp t) (dp x) + 1) ≤ _; omega) u j h
theorem kP_op : ∀ w v, lkS kP w = some v → opW w = true := fun w v h => by
  rcases (kP_vals w v h).2 with ⟨rfl, _⟩ | ⟨rfl, _⟩ <;> decide +kernel
theorem kS_op : ∀ w v, lkS kS w = some v → opW w = true := fun w v h => by
  rcases (kS_vals w v h).2 with ⟨rfl, _⟩ | ⟨rfl, _⟩ <;> decide +kernel
theorem d_sum {pa : Nat → PR} (N : Nat) (hp : ∀ i, Sd f i (pa i)) (i : Nat) : Sd f i (pSum f N pa i) := by
  have h1 : ∀ i, Sd f i (pPow f N pa i) := fun i u j h => by
    unfold pPow then' at h
    split at h
    · cases h
    · cases h
    · rename_i t k e
      obtain ⟨q1, q2, q3⟩ := hp i t k e
      exact d_powL N t i k q2 q1 q3 u j h
  have h2 : ∀ i, Sd f i (pProd f N pa i) := fun i u j h => by
    unfold pProd then' at h
    split at h
    · cases h
    · cases h
    · rename_i t k e
      obtain ⟨q1, q2, q3⟩ := h1 i t k e
      exact d_ops kP_op h1 N t i k q2 q1 q3 u j h
  intro u j h
  unfold pSum then' at h
  split at h
  · cases h
  · cases h
  · rename_i t k e
    obtain ⟨q1, q2, q3⟩ := h2 i t k e
    exact d_ops kS_op h2 N t i k q2 q1 q3 u j h
theorem d_atom (N : Nat) : ∀ (k i : Nat), Sd f i (pAtom f N k i)
  | 0, i => fun u j h => by cases h
  | k + 1, i => fun u j h => by
    unfold pAtom at h
    split at h
    · rename_i hn
      cases h
      exact ⟨by omega, hn, on_mono (by omega)⟩
    · split at h
      · unfold then' at h
        split at h
        · cases h
        · cases h
        · rename_i t m e
          obtain ⟨q1, q2, q3⟩ := d_sum N (d_atom N k) (i + 1) t m e
          dsimp only at h
          split at h
          · cases h
            have := on_mono (f := f) (show i ≤ i + 1 by omega)
            have := on_mono (f := f) (show m ≤ m + 1 by omega)
            exact ⟨by omega, q2, by omega⟩
          · cases h
      · split at h
        · cases h
          exact ⟨by omega, trivial, on_mono (by omega)⟩
        · cases h
end
theorem on_take {b : Bt} : ∀ n, On (hd b) n ≤ (b.take n).countP fun x => opW x.1
  | 0 => Nat.zero_le _
  | n + 1 => by
    have ih := on_take (b := b) n
    show On (hd b) n + (if opW (hd b n) = true then 1 else 0) ≤ _
    by_cases hl : n < b.length
    · rw [List.take_succ_eq_append_getElem hl, List.countP_append, hd_lt hl, List.countP_cons, List.countP_nil]
      split <;> omega
    · rw [hd_ge (by omega), if_neg (by decide +kernel), List.take_of_length_le (by omega)]
      rw [List.take_of_length_le (by omega)] at ih
      exact ih
theorem op_one {c : Nat} {l : List Nat} (h : opW (mk (c :: l)) = true) : opC c = true := by
  have k : ∀ w : Str, ∀ d : Nat, signs w = [d] → mk (c :: l) = w → c = d := fun w d hw e => by
    have : c :: l = [d] := by rw [← hw, ← e]; rfl
    exact (List.cons.inj this).1
  unfold opW at h
  simp only [Bool.or_eq_true, decide_eq_true_eq] at h
  unfold opC
  simp only [Bool.or_eq_true, decide_eq_true_eq]
  rcases h with ((((h | h) | h) | h) | h) | h
  · exact .inl (.inl (.inl (.inl (.inl (k _ 39 (by decide +kernel) h)))))
  · exact .inl (.inl (.inl (.inl (.inr (k _ 94 (by decide +kernel) h)))))
  · exact .inl (.inl (.inl (.inr (k _ 43 (by decide +kernel) h))))
  · exact .inl (.inl (.inr (k _ 45 (by decide +kernel) h)))
  · exact .inl (.inr (k _ 42 (by decide +kernel) h))
  · exact .inr (k _ 47 (by decide +kernel) h)
theorem bits_op : ∀ (n : Nat) (cs : List Nat) (a : Nat), ((bitsF n cs a).countP fun x => opW x.1) ≤ cs.countP opC
  | 0, _, _ => Nat.zero_le _
  | n + 1, [], _ => Nat.le_refl _
  | n + 1, c :: r, a => by
    have h1 := bits_op n (r.drop (runL c r)) (a + 1 + runL c r)
    have h2 : (r.drop (runL c r)).countP opC ≤ r.countP opC := (List.drop_sublist _ _).countP_le
    show ((if c = 32 then [] else [(mk (c :: r.take (runL c r)), (a : Int))]) ++ bitsF n _ _).countP _ ≤ _
    rw [List.countP_append, List.countP_cons]
    have h3 : ((if c = 32 then [] else [(mk (c :: r.take (runL c r)), (a : Int))]) : Bt).countP (fun x => opW x.1) ≤ if opC c = true then 1 else 0 := by
      split
      · exact Nat.zero_le _
      · rw [List.countP_cons, List.countP_nil]
        by_cases q : opW (mk (c :: r.take (runL c r))) = true
        · rw [if_pos q, if_pos (op_one q)]; exact Nat.le_refl _
        · rw [if_neg q]; exact Nat.zero_le _
    omega
theorem read_dp {s : Str} {u : Tr} {N K : Nat} (h : pRead (hd (bitsL (signs s))) N K = some (.ok u)) : Nw u ∧ dp u ≤ (signs s).countP opC := by
  unfold pRead at h
  split at h
  · cases h
  · cases h
  · rename_i t j e
    obtain ⟨_, q2, q3⟩ := d_sum N (d_atom (f := hd (bitsL (signs s))) N K) 0 t j e
    split at h
    · cases h
      refine ⟨q2, ?_⟩
      have h1 := on_take (b := bitsL (signs s)) j
      have h2 := (List.take_sublist j (bitsL (signs s))).countP_le (p := fun x => opW x.1)
      have h3 : (bitsL (signs s)).countP (fun x => opW x.1) ≤ (signs s).countP opC := bits_op ((signs s).length + 1) (signs s) 0
      have : On (hd (bitsL (signs s))) 0 = 0 := rfl
      omega
    · cases h
def oB : Nat → Nat
  | 0 => 0
  | d + 1 => 2 * oB d + 2
theorem oB_le {a b : Nat} (h : a ≤ b) : oB a ≤ oB b := by
  induction h with
  | refl => exact Nat.le_refl _
  | step _ ih => exact Nat.le_trans ih (by rename_i m _; show oB m ≤ 2 * oB m + 2; omega)
theorem op_none {l : List Nat} (h : ∀ c ∈ l, opC c = false) : l.countP opC = 0 := List.countP_eq_zero.mpr fun c hc => by rw [h c hc]; decide
theorem op_sht {ks : List Str} {t : Tr} {s : Str} : (signs (sht ks t s)).countP opC = (signs s).countP opC := by
  unfold sht
  split
  · rw [sg_app, sg_app, List.countP_append, List.countP_append]
    have k : (signs ("(" : Str)).countP opC = 0 ∧ (signs (")" : Str)).countP opC = 0 := by decide +kernel
    omega
  · rfl
theorem op_dig {c : Nat} (h : 48 ≤ c ∧ c ≤ 57) : opC c = false := by
  unfold opC
  simp only [Bool.or_eq_false_iff, decide_eq_false_iff_not]
  omega
theorem op_num (n : Int) : (signs (numT n)).countP opC ≤ 1 := by
  by_cases h0 : 0 ≤ n
  · obtain ⟨m, rfl⟩ := Int.eq_ofNat_of_zero_le h0
    rw [op_none fun c hc => op_dig (num_nat m c hc)]
    omega
  · obtain ⟨m, hm⟩ : ∃ m : Nat, n = -((m + 1 : Nat) : Int) := ⟨(-n - 1).toNat, by omega⟩
    subst hm
    rw [num_neg, List.countP_cons, op_none fun c hc => op_dig (num_nat (m + 1) c hc)]
    split <;> omega
theorem op_num0 {n : Int} (h0 : 0 ≤ n) : (signs (numT n)).countP opC = 0 := by
  obtain ⟨m, rfl⟩ := Int.eq_ofNat_of_zero_le h0
  exact op_none fun c hc => op_dig (num_nat m c hc)
theorem op_txt {ns : List Str} (hn : ∀ s ∈ ns, nameW s = true) : ∀ t, WT ns t → (signs (txt t)).countP opC ≤ oB (dp t)
  | .name s, h => by
    obtain ⟨_, h4⟩ := name_sg (hn s h)
    have k : ∀ c ∈ signs "abcdefghijklmnopqrstuvwxyz", opC c = false := by decide +kernel
    exact Nat.le_of_eq (op_none fun c hc => k c (h4 c hc))
  | .num n, h => Nat.le_of_eq (op_num0 h.1)
  | .turned t, h => by
    have ih := op_txt hn t h
    show (signs (sht two4 t (txt t) ++ ("'" : Str))).countP opC ≤ 2 * oB (dp t) + 2
    rw [sg_app, List.countP_append, op_sht]
    have k : (signs ("'" : Str)).countP opC = 1 := by decide +kernel
    omega
  | .power t n, h => by
    have ih := op_txt hn t h.1
    have i2 := op_num n
    show (signs ((sht two4 t (txt t) ++ ("^" : Str)) ++ numT n)).countP opC ≤ 2 * oB (dp t) + 2
    rw [sg_app, sg_app, List.countP_append, List.countP_append, op_sht]
    have k : (signs ("^" : Str)).countP opC = 1 := by decide +kernel
    omega
  | .bin w a b, h => by
    have ia := op_txt hn a h.2.1
    have ib := op_txt hn b h.2.2
    have la := oB_le (Nat.le_max_left (dp a) (dp b))
    have lb := oB_le (Nat.le_max_right (dp a) (dp b))
    have k : ∀ w ∈ two4, (signs (sg w)).countP opC = 1 := by decide +kernel
    have k := k w h.1
    have e : oB (dp (.bin w a b)) = 2 * oB (max (dp a) (dp b)) + 2 := rfl
    rw [e]
    unfold txt
    split
    · rw [sg_app, sg_app, List.countP_append, List.countP_append, op_sht]; omega
    · rw [sg_app, sg_app, List.countP_append, List.countP_append, op_sht, op_sht]; omega
theorem w4 {w : Str} (h : w ∈ two4) : w ≠ "name" ∧ w ≠ "number" ∧ w ≠ "turned" ∧ w ≠ "power" := by
  simp only [two4, List.mem_cons, List.not_mem_nil, or_false] at h
  rcases h with rfl | rfl | rfl | rfl <;> decide +kernel
theorem kd_ne : ("name" : Str) ≠ "number" ∧ ("name" : Str) ≠ "turned" ∧ ("name" : Str) ≠ "power" ∧ ("number" : Str) ≠ "turned" ∧ ("number" : Str) ≠ "power" ∧ ("turned" : Str) ≠ "power" := by decide +kernel
theorem eT_hd (t : Tr) : ∃ r, eT t = .tup (.str (kd t) :: r) := by cases t <;> exact ⟨_, rfl⟩
theorem eqv_kd {u t : Tr} (h : PyData.eqv (toP (eT u)) (toP (eT t)) = true) : kd u = kd t := by
  obtain ⟨r, hr⟩ := eT_hd u
  obtain ⟨r', hr'⟩ := eT_hd t
  rw [hr, hr'] at h
  generalize kd u = x at *
  generalize kd t = y at *
  rw [toP, toPA, toP, toP, toPA, toP, PyData.eqv, PyData.eqvAll] at h
  have h := (Bool.and_eq_true_iff.mp h).1
  rw [PyData.eqv] at h
  simpa using h
theorem eqv_inj : ∀ u t : Tr, Bw u → Bw t → PyData.eqv (toP (eT u)) (toP (eT t)) = true → u = t
  | .name s, t, hu, ht, h => by
    have k := eqv_kd h
    cases t with
    | name s' =>
      simp only [eT, toP, toPA, PyData.eqv, PyData.eqvAll, Bool.and_eq_true, beq_iff_eq, decide_eq_true_eq] at h
      rw [h.2.1]
    | num _ => exact absurd k kd_ne.1
    | turned _ => exact absurd k kd_ne.2.1
    | power _ _ => exact absurd k kd_ne.2.2.1
    | bin w _ _ => exact absurd k.symm (w4 ht.1).1
  | .num n, t, hu, ht, h => by
    have k := eqv_kd h
    cases t with
    | name _ => exact absurd k.symm kd_ne.1
    | num n' =>
      simp only [eT, toP, toPA, PyData.eqv, PyData.eqvAll, Bool.and_eq_true, beq_iff_eq, decide_eq_true_eq] at h
      rw [h.2.1]
    | turned _ => exact absurd k kd_ne.2.2.2.1
    | power _ _ => exact absurd k kd_ne.2.2.2.2.1
    | bin w _ _ => exact absurd k.symm (w4 ht.1).2.1
  | .turned u, t, hu, ht, h => by
    have k := eqv_kd h
    cases t with
    | name _ => exact absurd k.symm kd_ne.2.1
    | num _ => exact absurd k.symm kd_ne.2.2.2.1
    | turned t =>
      simp only [eT, toP, toPA, PyData.eqv, PyData.eqvAll, Bool.and_eq_true, beq_iff_eq, decide_eq_true_eq] at h
      rw [eqv_inj u t hu ht h.2.1]
    | power _ _ => exact absurd k kd_ne.2.2.2.2.2
    | bin w _ _ => exact absurd k.symm (w4 ht.1).2.2.1
  | .power u n, t, hu, ht, h => by
    have k := eqv_kd h
    cases t with
    | name _ => exact absurd k.symm kd_ne.2.2.1
    | num _ => exact absurd k.symm kd_ne.2.2.2.2.1
    | turned _ => exact absurd k.symm kd_ne.2.2.2.2.2
    | power t n' =>
      simp only [eT, toP, toPA, PyData.eqv, PyData.eqvAll, Bool.and_eq_true, beq_iff_eq, decide_eq_true_eq] at h
      rw [eqv_inj u t hu ht h.2.1, h.2.2.1]
    | bin w _ _ => exact absurd k.symm (w4 ht.1).2.2.2
  | .bin w a b, t, hu, ht, h => by
    have k := eqv_kd h
    cases t with
    | name _ => exact absurd k (w4 hu.1).1
    | num _ => exact absurd k (w4 hu.1).2.1
    | turned _ => exact absurd k (w4 hu.1).2.2.1
    | power _ _ => exact absurd k (w4 hu.1).2.2.2
    | bin w' a' b' =>
      simp only [eT, toP, toPA, PyData.eqv, PyData.eqvAll, Bool.and_eq_true, beq_iff_eq, decide_eq_true_eq] at h
      rw [h.1, eqv_inj a a' hu.2.1 ht.2.1 h.2.1, eqv_inj b b' hu.2.2 ht.2.2 h.2.2.1]
end Tg
namespace K53
open PySem Rg Rm Mn Tg
def SO : Tr → Prop
  | .name s => PyData.strOk s = true
  | .num _ => True
  | .turned t => SO t
  | .power t _ => SO t
  | .bin w a b => PyData.strOk w = true ∧ SO a ∧ SO b
theorem so_wt {ns : List Str} (hn : ∀ s ∈ ns, PyData.strOk s = true) : ∀ t, WT ns t → SO t
  | .name s, h => hn s h
  | .num _, _ => trivial
  | .turned t, h => so_wt hn t h
  | .power t _, h => so_wt hn t h.1
  | .bin w a b, h => ⟨by
    have k : ∀ w ∈ two4, PyData.strOk w = true := by decide +kernel
    exact k w h.1, so_wt hn a h.2.1, so_wt hn b h.2.2⟩
theorem k_ok : PyData.strOk ("name" : Str) = true ∧ PyData.strOk ("number" : Str) = true ∧ PyData.strOk ("turned" : Str) = true ∧ PyData.strOk ("power" : Str) = true := by decide +kernel
theorem pl_e : ∀ t, SO t → Pl (dp t + 2) (eT t)
  | .name s, h => .tup (by simp) fun d hd => by
    rcases List.mem_cons.mp hd with q | q
    · rw [q]; exact .str k_ok.1
    · rw [List.mem_singleton.mp q]; exact .str h
  | .num n, _ => .tup (by simp) fun d hd => by
    rcases List.mem_cons.mp hd with q | q
    · rw [q]; exact .str k_ok.2.1
    · rw [List.mem_singleton.mp q]; exact .int n
  | .turned t, h => by
    have ih := pl_e t h
    exact .tup (k := dp t + 2) (by simp) fun d hd => by
      rcases List.mem_cons.mp hd with q | q
      · rw [q]; exact .str k_ok.2.2.1
      · rw [List.mem_singleton.mp q]; exact ih
  | .power t n, h => by
    have ih := pl_e t h
    exact .tup (k := dp t + 2) (by simp) fun d hd => by
      rcases List.mem_cons.mp hd with q | q
      · rw [q]; exact .str k_ok.2.2.2
      · rcases List.mem_cons.mp q with q | q
        · rw [q]; exact ih
        · rw [List.mem_singleton.mp q]; exact .int n
  | .bin w a b, h => by
    have ia := (pl_e a h.2.1).mono (m := max (dp a) (dp b) + 2) (by have := Nat.le_max_left (dp a) (dp b); omega)
    have ib := (pl_e b h.2.2).mono (m := max (dp a) (dp b) + 2) (by have := Nat.le_max_right (dp a) (dp b); omega)
    exact .tup (k := max (dp a) (dp b) + 2) (by simp) fun d hd => by
      rcases List.mem_cons.mp hd with q | q
      · rw [q]; exact .str h.1
      · rcases List.mem_cons.mp q with q | q
        · rw [q]; exact ia
        · rw [List.mem_singleton.mp q]; exact ib
theorem lay_e : ∀ t, SO t → PyData.canLay0 (toP (eT t)) = true ∧ (toP (eT t)).depth ≤ dp t + 2
  | .name s, h => by simp [eT, toP, toPA, PyData.canLay0, PyData.canLayAll0, PyData.depth, PyData.depthAll, k_ok.1, show PyData.strOk s = true from h, dp]
  | .num n, _ => by simp [eT, toP, toPA, PyData.canLay0, PyData.canLayAll0, PyData.depth, PyData.depthAll, k_ok.2.1, dp]
  | .turned t, h => by
    obtain ⟨h1, h2⟩ := lay_e t h
    simp [eT, toP, toPA, PyData.canLay0, PyData.canLayAll0, PyData.depth, PyData.depthAll, k_ok.2.2.1, h1, dp]
    omega
  | .power t n, h => by
    obtain ⟨h1, h2⟩ := lay_e t h
    simp [eT, toP, toPA, PyData.canLay0, PyData.canLayAll0, PyData.depth, PyData.depthAll, k_ok.2.2.2, h1, dp]
    omega
  | .bin w a b, h => by
    obtain ⟨h1, h2⟩ := lay_e a h.2.1
    obtain ⟨h3, h4⟩ := lay_e b h.2.2
    have := Nat.le_max_left (dp a) (dp b)
    have := Nat.le_max_right (dp a) (dp b)
    simp [eT, toP, toPA, PyData.canLay0, PyData.canLayAll0, PyData.depth, PyData.depthAll, show PyData.strOk w = true from h.1, h1, h3, dp]
    omega
theorem ne_nm {w1 w2 w3 : Str} (h1 : PyData.strOk w1 = true) (h2 : PyData.strOk w2 = true) (h3 : PyData.strOk w3 = true) : fNe [.lst (([w1, w2, w3] : List Str).map D.str), .lst []] = some (.v (.bl true)) := by
  simp [fNe, shp, toP, toPA, SeqAt.shaped, PyData.canLay0, PyData.canLayAll0, PyData.depth, PyData.depthAll, h1, h2, h3, eqD, PyData.eqv, PyData.eqvAll]
theorem r1 {m : En → R (List BV × En)} {Γ Γ1 : En} {n : Nat} (h : mFzA m Γ = .ok ([.int n], Γ1)) (hn : n ≤ 1000) : mR1 m Γ = .ok (rngD 0 1 n, Γ1) := by
  unfold mR1
  rw [h]
  show @ite _ _ (Classical.propDecidable _) _ _ = _
  rw [if_pos (by omega)]
  rfl
theorem rng_len (n : Nat) : (rngD 0 1 n).length = n := by unfold rngD; simp
theorem eqv_hd2 {x y : Str} {r r' : List D} (h : eqD (.tup (.str x :: r)) (.tup (.str y :: r')) = true) : x = y := by
  unfold eqD at h
  rw [toP, toPA, toP, toP, toPA, toP, PyData.eqv, PyData.eqvAll] at h
  have h := (Bool.and_eq_true_iff.mp h).1
  rw [PyData.eqv] at h
  simpa using h
theorem nm_loop (sc s2 s3 s4 s5 s6 s7 s8 s9 s11 : Sl) : ∀ (ds : List D) (xs acc : List D), Dr xs → acc.length + ds.length ≤ 1000 → ∃ (ws : List Str) (xs' : List D), mLcL (gN 10) mYes Le_law_2 [10] ds [sc, .o xs, s2, s3, s4, s5, s6, s7, s8, s9, .no, s11] acc = .ok (acc ++ ws.map D.str, [sc, .o xs', s2, s3, s4, s5, s6, s7, s8, s9, .no, s11]) ∧ (∀ w ∈ ws, nameW w = true) ∧ ws.length = ds.length ∧ Dr xs'
  | [], xs, acc, d, _ => ⟨[], xs, by rw [List.map_nil, List.append_nil]; rfl, (fun w h => by cases h), rfl, d⟩
  | x :: ds, xs, acc, d, hl => by
    obtain ⟨w, x1, e, hw, d1⟩ := e_fresh xs d
    obtain ⟨ws, x2, e2, h2, h3, d2⟩ := nm_loop sc s2 s3 s4 s5 s6 s7 s8 s9 s11 ds x1 (acc ++ [.str w]) d1 (by simp at hl ⊢; omega)
    refine ⟨w :: ws, x2, ?_, fun y hy => ?_, by rw [List.length_cons, h3, List.length_cons], d2⟩
    · have e1 : nox (mFz1 Le_law_2 [sc, .o xs, s2, s3, s4, s5, s6, s7, s8, s9, .v x, s11]) = .ok (.str w, [sc, .o x1, s2, s3, s4, s5, s6, s7, s8, s9, .v x, s11]) := by
        simp only [evE, Le_law_2, e]
      have hl2 : acc.length < SZ := by simp at hl; unfold SZ; omega
      show (nox (mFz1 Le_law_2 [sc, .o xs, s2, s3, s4, s5, s6, s7, s8, s9, .v x, s11])).bind (fun y => if acc.length < SZ then mLcL (gN 10) mYes Le_law_2 [10] ds (wipeE y.2 [10]) (acc ++ [y.1]) else .bad) = _
      rw [e1]
      show (if acc.length < SZ then mLcL (gN 10) mYes Le_law_2 [10] ds [sc, .o x1, s2, s3, s4, s5, s6, s7, s8, s9, .no, s11] (acc ++ [.str w]) else .bad) = _
      rw [if_pos hl2, e2]
      simp
    · rcases List.mem_cons.mp hy with q | q
      · rw [q]; exact hw
      · exact h2 y q
theorem rd {s : Str} {t : Tr} (hs : PyData.strOk s = true) (hl : s.length ≤ 1000) (h : Wr 3 t (wd s)) (hc : (signs s).count 40 < 40) : M_read [.str s] = .ok (.v (eT t)) := by
  have := e_read hs hl (r := .ok t) (read_wr h (by have := wd_len s; unfold FUEL; omega) (by have := wd_count s; omega))
  exact this
theorem eq_sgn {t : Str} (h : PyData.strOk t = true) {c : Nat} (hc : c ∈ signs t) : fEq [.str ⟨#[c]⟩, .str "("] = some (.v (.bl (decide (c = 40)))) ∧ fEq [.str ⟨#[c]⟩, .str ")"] = some (.v (.bl (decide (c = 41)))) := by
  refine ⟨?_, ?_⟩
  · rw [Ty.q_str ⟨ok_sign h hc, by decide +kernel⟩]
    have : decide ((⟨#[c]⟩ : Str) = "(") = decide (c = 40) := by
      rw [show ("(" : Str) = ⟨#[40]⟩ by decide +kernel]
      simp
    rw [this]
  · rw [Ty.q_str ⟨ok_sign h hc, by decide +kernel⟩]
    have : decide ((⟨#[c]⟩ : Str) = ")") = decide (c = 41) := by
      rw [show (")" : Str) = ⟨#[41]⟩ by decide +kernel]
      simp
    rw [this]
theorem rng_cons (a n : Nat) : rngD (a : Int) 1 (n + 1) = .int (a : Int) :: rngD ((a + 1 : Nat) : Int) 1 n := by
  unfold rngD
  rw [List.range_succ_eq_map, List.map_cons, List.map_map]
  have e1 : D.int ((a : Int) + ((0 : Nat) : Int) * 1) = .int (a : Int) := by congr 1
  rw [e1]
  refine congrArg (D.int (a : Int) :: ·) (List.map_congr_left fun k _ => ?_)
  show D.int ((a : Int) + ((k + 1 : Nat) : Int) * 1) = D.int (((a + 1 : Nat) : Int) + (k : Int) * 1)
  congr 1
  omega
theorem in_loop {t : Str} (hs : PyData.strOk t = true) (hz : t.length ≤ 1000000) (F A s7 : Sl) : ∀ (l : List Nat) (a : Nat) (d : Int) (e : Nat) (s5 s6 : Sl), (signs t).drop a = l →
    ∃ s5' s6', mForL (gN 5) Fb__law_without_2 (rngD (a : Int) 1 l.length) [.v (.str t), F, A, .v (.int d), .v (.int e), s5, s6, s7] = .ok (.nx [.v (.str t), F, A, .v (.int (scan l a d e).1), .v (.int ((scan l a d e).2 : Nat)), s5', s6', s7])
  | [], a, d, e, s5, s6, _ => ⟨s5, s6, rfl⟩
  | c :: r, a, d, e, s5, s6, hd => by
    have hal : a < (signs t).length := Decidable.byContradiction fun z => by
      rw [List.drop_eq_nil_of_le (by omega)] at hd; cases hd
    have hdr : (signs t).drop (a + 1) = r := by
      rw [List.drop_eq_getElem_cons hal] at hd
      exact (List.cons.inj hd).2
    have hca : (signs t)[a]? = some c := by
      rw [List.drop_eq_getElem_cons hal] at hd
      rw [List.getElem?_eq_getElem hal, (List.cons.inj hd).1]
    obtain ⟨q1, q2⟩ := eq_sgn hs (List.mem_of_getElem? hca)
    have hI := at_s hca
    have hdl : (d + (if decide (c = 40) = true then 1 else 0)) - (if decide (c = 41) = true then 1 else 0) = d + dl c := by
      unfold dl
      by_cases h1 : c = 40
      · by_cases h2 : c = 41 <;> simp [h1, h2]
      · by_cases h2 : c = 41
        · simp [h1, h2]; omega
        · simp [h1, h2]
    have z1 : fEq [.int (d + dl c), .int 0] = some (.v (.bl (decide (d + dl c = 0)))) := fEq_int _ _
    have z2 : fEq [.int (e : Int), .int 0] = some (.v (.bl (decide (e = 0)))) := by
      rw [fEq_int]
      have : decide ((e : Int) = 0) = decide (e = 0) := by simp
      rw [this]
    obtain ⟨s5', s6', ih⟩ := in_loop hs hz F A s7 r (a + 1) (d + dl c) (if d + dl c = 0 ∧ e = 0 then a else e) (.v (.int a)) (.v (.str ⟨#[c]⟩)) hdr
    refine ⟨s5', s6', ?_⟩
    rw [List.length_cons, rng_cons, mForL_nx (Γ1 := [.v (.str t), F, A, .v (.int d), .v (.int e), .v (.int a), s6, s7]) (Γ2 := [.v (.str t), F, A, .v (.int (d + dl c)), .v (.int ((if d + dl c = 0 ∧ e = 0 then a else e) : Nat)), .v (.int a), .v (.str ⟨#[c]⟩), s7]) rfl]
    · exact ih
    · refine (seq_n (Γ1 := [.v (.str t), F, A, .v (.int d), .v (.int e), .v (.int a), .v (.str ⟨#[c]⟩), s7]) (by simp only [evE, hz, hI])).trans ?_
      refine (seq_n (Γ1 := [.v (.str t), F, A, .v (.int (d + dl c)), .v (.int e), .v (.int a), .v (.str ⟨#[c]⟩), s7]) (by simp only [evE, q1, q2, fAdd, hdl])).trans ?_
      by_cases h1 : d + dl c = 0
      · rw [decide_eq_true h1] at z1
        by_cases h2 : e = 0
        · rw [decide_eq_true h2] at z2
          rw [if_pos ⟨h1, h2⟩]
          simp only [evE, z1, z2]
        · rw [decide_eq_false h2] at z2
          rw [if_neg (fun z => h2 z.2)]
          simp only [evE, z1, z2]
      · rw [decide_eq_false h1] at z1
        rw [if_neg (fun z => h1 z.1)]
        simp only [evE, z1]
def Bare (t : Str) (d : D) : Prop := ∃ s, d = .str s ∧ (signs s).Sublist (signs t) ∧ (signs s).count 40 + 1 ≤ (signs t).count 40
theorem out_loop {t : Str} (hs : PyData.strOk t = true) (hz : t.length ≤ 1000) (hb : Bal (signs t)) : ∀ (ps : List Nat) (acc : List D) (s2 s3 s4 s5 s6 s7 : Sl), (∀ p ∈ ps, p < t.length) → acc.length + ps.length ≤ 2000 → (∀ d ∈ acc, Bare t d) →
    ∃ acc' t2 t3 t4 t5 t6 t7, mForL (gN 2) Fb__law_without_1 (ps.map fun (p : Nat) => D.int (p : Int)) [.v (.str t), .o acc, s2, s3, s4, s5, s6, s7] = .ok (.nx [.v (.str t), .o acc', t2, t3, t4, t5, t6, t7]) ∧ (∀ d ∈ acc', Bare t d) ∧ acc'.length ≤ 2000
  | [], acc, s2, s3, s4, s5, s6, s7, _, hl, h => ⟨acc, s2, s3, s4, s5, s6, s7, rfl, h, by simpa using hl⟩
  | a :: ps, acc, s2, s3, s4, s5, s6, s7, hp, hl, h => by
    have e0 : (signs t).length = t.length := Array.length_toList
    have hz' : t.length ≤ 1000000 := by omega
    have ha := hp a (List.mem_cons_self ..)
    obtain ⟨c, hca⟩ : ∃ c, (signs t)[a]? = some c := ⟨_, List.getElem?_eq_getElem (by omega)⟩
    obtain ⟨q1, q2⟩ := eq_sgn hs (List.mem_of_getElem? hca)
    have hI := at_s hca
    rw [List.length_cons] at hl
    rw [List.map_cons]
    by_cases hc : c = 40
    · subst hc
      obtain ⟨h1, h2⟩ := shut_at hb hca
      generalize he : (scan ((signs t).drop a) a 0 0).2 = e at h1 h2
      obtain ⟨s5', s6', e1⟩ := in_loop hs hz' (.o acc) (.v (.int a)) s7 ((signs t).drop a) a 0 0 s5 s6 rfl
      rw [he] at e1
      rw [e0] at h2
      have hb1 : mAsg (gT 2 (gs1 (gN 3) (gs1 (gN 4) gs0))) (mTup (mA1 (mK (.int 0)) (mA1 (mK (.int 0)) mA0))) [.v (.str t), .o acc, .v (.int a), s3, s4, s5, s6, s7] = .ok (.nx [.v (.str t), .o acc, .v (.int a), .v (.int 0), .v (.int ((0 : Nat) : Int)), s5, s6, s7]) := by
        simp only [evE]
        rfl
      have hb2 : mFor (mR2 (mA1 (mN 2) (mA1 (mB fLenS (mA1 (mN 0) mA0)) mA0))) (gN 5) Fb__law_without_2 [.v (.str t), .o acc, .v (.int a), .v (.int 0), .v (.int ((0 : Nat) : Int)), s5, s6, s7] = .ok (.nx [.v (.str t), .o acc, .v (.int a), .v (.int (scan ((signs t).drop a) a 0 0).1), .v (.int (e : Int)), s5', s6', s7]) := by
        unfold mFor mR2
        rw [show mFzA (mA1 (mN 2) (mA1 (mB fLenS (mA1 (mN 0) mA0)) mA0)) [.v (.str t), .o acc, .v (.int a), .v (.int 0), .v (.int ((0 : Nat) : Int)), s5, s6, s7] = .ok ([.int (a : Int), .int (t.length : Int)], [.v (.str t), .o acc, .v (.int a), .v (.int 0), .v (.int ((0 : Nat) : Int)), s5, s6, s7]) by simp only [evE, fLenS, hz']]
        show R.bind (@ite _ _ (Classical.propDecidable _) _ _) _ = _
        rw [if_pos (by omega)]
        show mForL (gN 5) Fb__law_without_2 (rngD (a : Int) 1 ((t.length : Int) - (a : Int)).toNat) [.v (.str t), .o acc, .v (.int a), .v (.int 0), .v (.int ((0 : Nat) : Int)), s5, s6, s7] = _
        rw [show ((t.length : Int) - (a : Int)).toNat = ((signs t).drop a).length by rw [List.length_drop, e0]; omega]
        exact e1
      have c1 : ((a : Int) + 1) = ((a + 1 : Nat) : Int) := by omega
      have c2 : ((e : Int) + 1) = ((e + 1 : Nat) : Int) := by omega
      have k1 := cut_mk (t := t) (a := a + 1) (b := e) (by omega) (by omega)
      have k2 : fSlHS [.str t, .int (a : Int)] = some (.v (.str (mk ((signs t).take a)))) := by rw [Ty.o_slHS (Nat.le_trans hz' (by unfold SZ; decide)), cut_h (by omega)]
      have k3 : fSlLS [.str t, .int ((e + 1 : Nat) : Int)] = some (.v (.str (mk ((signs t).drop (e + 1))))) := by rw [Ty.o_slLS (Nat.le_trans hz' (by unfold SZ; decide)), cut_l]
      have lk : ∀ l : List Nat, (mk l).length = l.length := fun l => by rw [len_sg]; rfl
      have a1 : (mk ((signs t).take a)).length + (mk (((signs t).drop (a + 1)).take (e - (a + 1)))).length ≤ 1000000 := by
        rw [lk, lk, List.length_take, List.length_take, List.length_drop]; omega
      have a2 : (mk ((signs t).take a) ++ mk (((signs t).drop (a + 1)).take (e - (a + 1)))).length + (mk ((signs t).drop (e + 1))).length ≤ 1000000 := by
        rw [len_app, lk, lk, lk, List.length_take, List.length_take, List.length_drop, List.length_drop]; omega
      have hx : acc.length < 1000000 := by omega
      have hbare : Bare t (.str ((mk ((signs t).take a) ++ mk (((signs t).drop (a + 1)).take (e - (a + 1)))) ++ mk ((signs t).drop (e + 1)))) := by
        have es : signs ((mk ((signs t).take a) ++ mk (((signs t).drop (a + 1)).take (e - (a + 1)))) ++ mk ((signs t).drop (e + 1))) = (signs t).take a ++ ((signs t).drop (a + 1)).take (e - (a + 1)) ++ (signs t).drop (e + 1) := by
          rw [sg_app, sg_app]; rfl
        refine ⟨_, rfl, ?_, ?_⟩
        · rw [es, List.append_assoc]
          have g1 : ((signs t).drop (e + 1)).Sublist (((signs t).drop (a + 1)).drop (e - (a + 1))) := by
            rw [List.drop_drop, show a + 1 + (e - (a + 1)) = e by omega, ← List.drop_drop (i := 1)]
            exact List.drop_sublist _ _
          have g2 := (List.Sublist.refl (((signs t).drop (a + 1)).take (e - (a + 1)))).append g1
          rw [List.take_append_drop] at g2
          have g3 : ((signs t).drop (a + 1)).Sublist ((signs t).drop a) := by
            rw [← List.drop_drop (i := 1)]
            exact List.drop_sublist _ _
          have g4 := (List.Sublist.refl ((signs t).take a)).append (g2.trans g3)
          rwa [List.take_append_drop] at g4
        · rw [es]; exact bare_ct hca h1
      obtain ⟨acc', t2, t3, t4, t5, t6, t7, ih, r1', r2'⟩ := out_loop hs hz hb ps (acc ++ [.str ((mk ((signs t).take a) ++ mk (((signs t).drop (a + 1)).take (e - (a + 1)))) ++ mk ((signs t).drop (e + 1)))]) (.v (.int a)) (.v (.int (scan ((signs t).drop a) a 0 0).1)) (.v (.int (e : Int))) s5' s6' (.v (.str (mk (((signs t).drop (a + 1)).take (e - (a + 1)))))) (fun p hp' => hp p (List.mem_cons_of_mem _ hp')) (by simp; omega) (fun d hd => by
        rcases List.mem_append.mp hd with q | q
        · exact h d q
        · rw [List.mem_singleton.mp q]; exact hbare)
      refine ⟨acc', t2, t3, t4, t5, t6, t7, ?_, r1', r2'⟩
      rw [decide_eq_true rfl] at q1
      have hbd : Fb__law_without_1 [.v (.str t), .o acc, .v (.int a), s3, s4, s5, s6, s7] = .ok (.nx [.v (.str t), .o (acc ++ [.str ((mk ((signs t).take a) ++ mk (((signs t).drop (a + 1)).take (e - (a + 1)))) ++ mk ((signs t).drop (e + 1)))]), .v (.int a), .v (.int (scan ((signs t).drop a) a 0 0).1), .v (.int (e : Int)), s5', s6', .v (.str (mk (((signs t).drop (a + 1)).take (e - (a + 1)))))]) := by
        refine (if_1 (Γ1 := [.v (.str t), .o acc, .v (.int a), s3, s4, s5, s6, s7]) (by simp only [evE, hz', hI, q1])).trans ?_
        refine (seq_n hb1).trans ((seq_n hb2).trans ?_)
        refine (seq_n (Γ1 := [.v (.str t), .o acc, .v (.int a), .v (.int (scan ((signs t).drop a) a 0 0).1), .v (.int (e : Int)), s5', s6', .v (.str (mk (((signs t).drop (a + 1)).take (e - (a + 1)))))]) (by simp only [evE, mSlB, fAdd, c1, hz', k1])).trans ?_
        simp only [evE, k2, adS a1, fAdd_int, c2, k3, adS a2, fApp, hx]
      rw [mForL_nx (Γ1 := [.v (.str t), .o acc, .v (.int a), s3, s4, s5, s6, s7]) rfl hbd]
      exact ih
    · rw [decide_eq_false hc] at q1
      obtain ⟨acc', t2, t3, t4, t5, t6, t7, ih, r1', r2'⟩ := out_loop hs hz hb ps acc (.v (.int a)) s3 s4 s5 s6 s7 (fun p hp' => hp p (List.mem_cons_of_mem _ hp')) (by omega) h
      refine ⟨acc', t2, t3, t4, t5, t6, t7, ?_, r1', r2'⟩
      rw [mForL_nx (Γ1 := [.v (.str t), .o acc, .v (.int a), s3, s4, s5, s6, s7]) (Γ2 := [.v (.str t), .o acc, .v (.int a), s3, s4, s5, s6, s7]) rfl]
      · exact ih
      · simp only [evE, Fb__law_without_1, hz', hI, q1]
theorem e_without {t : Str} (hs : PyData.strOk t = true) (hz : t.length ≤ 1000) (hb : Bal (signs t)) : ∃ L, M__law_without [.str t] = .ok (.o L) ∧ (∀ d ∈ L, Bare t d) ∧ L.length ≤ 2000 := by
  have hz' : t.length ≤ 1000000 := by omega
  have er : rngD 0 1 t.length = (List.range t.length).map fun (p : Nat) => D.int (p : Int) := by
    unfold rngD
    refine List.map_congr_left fun k _ => ?_
    show D.int (0 + (k : Int) * 1) = _
    congr 1
    omega
  obtain ⟨L, t2, t3, t4, t5, t6, t7, e1, h1, h2⟩ := out_loop hs hz hb (List.range t.length) [] .no .no .no .no .no .no (fun p hp => List.mem_range.mp hp) (by simp; omega) (fun d hd => by cases hd)
  refine ⟨L, ?_, h1, h2⟩
  have s1 : mSet 1 (mLst mA0) [.v (.str t), .no, .no, .no, .no, .no, .no, .no] = .ok (.nx [.v (.str t), .o [], .no, .no, .no, .no, .no, .no]) := by simp only [evE]
  have s2 : mFor (mR1 (mA1 (mB fLenS (mA1 (mN 0) mA0)) mA0)) (gN 2) Fb__law_without_1 [.v (.str t), .o [], .no, .no, .no, .no, .no, .no] = .ok (.nx [.v (.str t), .o L, t2, t3, t4, t5, t6, t7]) := by
    unfold mFor
    rw [r1 (n := t.length) (Γ1 := [.v (.str t), .o [], .no, .no, .no, .no, .no, .no]) (by simp only [evE, fLenS, hz']) hz, er]
    exact e1
  show R.bind (B__law_without [.v (.str t), .no, .no, .no, .no, .no, .no, .no]) _ = _
  rw [B__law_without, seq_n s1, seq_n s2]
  rfl
theorem so_bn : ∀ u, Bw u → Nw u → SO u
  | .name s, _, h => (name_nice h).1
  | .num _, _, _ => trivial
  | .turned u, h, g => so_bn u h g
  | .power u _, h, g => so_bn u h g
  | .bin w a b, h, g => ⟨by
    have k : ∀ w ∈ two4, PyData.strOk w = true := by decide +kernel
    exact k w h.1, so_bn a h.2.1 g.1, so_bn b h.2.2 g.2⟩
theorem w_told : PyData.strOk ("told" : Str) = true ∧ PyData.strOk ("BadText" : Str) = true := by decide +kernel
theorem shp_two {s : Str} (hs : PyData.strOk s = true) {t : Tr} (h : SO t) (hd : dp t ≤ 40) : shp (.tup [.str s, eT t]) = true := by
  obtain ⟨h1, h2⟩ := lay_e t h
  simp [shp, toP, toPA, SeqAt.shaped, PyData.canLay0, PyData.canLayAll0, PyData.depth, PyData.depthAll, hs, h1]
  omega
theorem bare_no {ns : List Str} (hn : ∀ s ∈ ns, nameW s = true) {t : Tr} (hw : WT ns t) (hd : dp t ≤ 4) (ht : Nice (txt t) 1000 30) {d : D} (hb : Bare (txt t) d) (sc : D) (xs : List D) (S2 S3 S5 S6 S7 S8 S9 S10 : Sl) :
    Le_law_3 [.v sc, .o xs, S2, S3, .v (eT t), S5, S6, S7, S8, S9, S10, .v d] = .ok (.v (.bl false), [.v sc, .o xs, S2, S3, .v (eT t), S5, S6, S7, S8, S9, S10, .v d]) := by
  obtain ⟨s, rfl, h1, h2⟩ := hb
  have hs : PyData.strOk s = true := ok_sg.mpr fun c hc => ok_sg.mp ht.1 c (h1.subset hc)
  have hl : s.length ≤ 1000 := by
    have := h1.length_le
    have := ht.2.1
    rw [len_sg] at this ⊢
    omega
  have hso := so_wt (fun s hs => (name_nice (hn s hs)).1) t hw
  have htl := ht.2.2
  have e0 : (signs s).length = s.length := Array.length_toList
  have hl1 : (bt s).length < FUEL := by
    have := bits_len ((signs s).length + 1) (signs s) 0
    show (bitsF ((signs s).length + 1) (signs s) 0).length < FUEL
    unfold FUEL; omega
  have hc : cb (bt s) 0 < 40 := by
    have := bits_cb ((signs s).length + 1) (signs s) 0
    show (List.countP _ (List.drop 0 (bitsF ((signs s).length + 1) (signs s) 0))) < 40
    rw [List.drop_zero]; omega
  obtain ⟨r, hr⟩ := t_read (b := bt s) hl1 hc
  have hm := e_read hs hl hr
  cases r with
  | ok u =>
    obtain ⟨b1, b2⟩ := read_need hr
    obtain ⟨b3, b4⟩ := read_dp hr
    have hne : u ≠ t := fun z => by
      subst z
      have := ct_txt hn u hw
      omega
    have hdu : dp u ≤ 30 := by
      have q1 := op_txt hn t hw
      have q2 := h1.countP_le (p := opC)
      have q3 := oB_le hd
      have q4 : oB 4 = 30 := rfl
      omega
    have hsu := so_bn u b1 b3
    have hq : fEq [.tup [.str "told", eT u], .tup [.str "told", eT t]] = some (.v (.bl false)) := by
      have s1 := shp_two w_told.1 hsu (by omega)
      have s2 := shp_two w_told.1 hso (by omega)
      have s3 : eqD (.tup [.str "told", eT u]) (.tup [.str "told", eT t]) = false := by
        cases q : eqD (.tup [.str "told", eT u]) (.tup [.str "told", eT t]) with
        | false => rfl
        | true =>
          unfold eqD at q
          rw [toP, toPA, toP, toPA, toPA, toP, toPA, toPA, toPA, PyData.eqv, PyData.eqvAll, PyData.eqvAll] at q
          have q := (Bool.and_eq_true_iff.mp (Bool.and_eq_true_iff.mp q).2).1
          exact absurd (eqv_inj u t b1 (bw_wt t hw) q) hne
      unfold fEq
      dsimp only
      rw [s1, s2, s3]; rfl
    have hwy : mWhy kn La_law_4 [.v sc, .o xs, S2, S3, .v (eT t), S5, S6, S7, S8, S9, S10, .v (.str s)] = .ok (.v (.tup [.str "told", eT u]), [.v sc, .o xs, S2, S3, .v (eT t), S5, S6, S7, S8, S9, S10, .v (.str s)]) := by
      have hm : M_read [.str s] = .ok (.v (eT u)) := hm
      have : mFz1 La_law_4 (hide [.v sc, .o xs, S2, S3, .v (eT t), S5, S6, S7, S8, S9, S10, .v (.str s)]) = .ok (eT u, hide [.v sc, .o xs, S2, S3, .v (eT t), S5, S6, S7, S8, S9, S10, .v (.str s)]) := by
        simp only [evE, hide, List.map_cons, List.map_nil, hideS, La_law_4, hm]
      unfold mWhy mPair
      rw [this]; rfl
    have hma : mA1 (mWhy kn La_law_4) (mA1 (mTup (mA1 (mK (.str "told")) (mA1 (mN 4) mA0))) mA0) [.v sc, .o xs, S2, S3, .v (eT t), S5, S6, S7, S8, S9, S10, .v (.str s)] = .ok ([.v (.tup [.str "told", eT u]), .v (.tup [.str "told", eT t])], [.v sc, .o xs, S2, S3, .v (eT t), S5, S6, S7, S8, S9, S10, .v (.str s)]) := a1_ok hwy (a1_ok (x := .v (.tup [.str "told", eT t])) (by simp only [evE]) rfl)
    unfold Le_law_3 mB
    rw [hma]
    simp only [evE, hq]
  | error j =>
    have hm : M_read [.str s] = .exc "BadText" (xB (wr (bt s) s.length j)) := hm
    generalize wr (bt s) s.length j = a at hm
    have hq : fEq [.tup [.str "BadText", .int a], .tup [.str "told", eT t]] = some (.v (.bl false)) := by
      have s2 := shp_two w_told.1 hso (by omega)
      have s1 : shp (.tup [.str "BadText", .int a]) = true := by
        simp [shp, toP, toPA, SeqAt.shaped, PyData.canLay0, PyData.canLayAll0, PyData.depth, PyData.depthAll, w_told.2]
      have s3 : eqD (.tup [.str "BadText", .int a]) (.tup [.str "told", eT t]) = false := by
        have n1 : ¬ (("BadText" : Str) = "told") := by decide +kernel
        cases q : eqD (.tup [.str "BadText", .int a]) (.tup [.str "told", eT t]) with
        | false => rfl
        | true => exact absurd (eqv_hd2 q) n1
      unfold fEq
      dsimp only
      rw [s1, s2, s3]; rfl
    have hwy : mWhy kn La_law_4 [.v sc, .o xs, S2, S3, .v (eT t), S5, S6, S7, S8, S9, S10, .v (.str s)] = .ok (.v (.tup [.str "BadText", .int a]), [.v sc, .o xs, S2, S3, .v (eT t), S5, S6, S7, S8, S9, S10, .v (.str s)]) := by
      have : mFz1 La_law_4 (hide [.v sc, .o xs, S2, S3, .v (eT t), S5, S6, S7, S8, S9, S10, .v (.str s)]) = .exc "BadText" (xB a) := by
        simp only [evE, hide, List.map_cons, List.map_nil, hideS, La_law_4, hm]
      unfold mWhy mPair
      rw [this]; rfl
    have hma : mA1 (mWhy kn La_law_4) (mA1 (mTup (mA1 (mK (.str "told")) (mA1 (mN 4) mA0))) mA0) [.v sc, .o xs, S2, S3, .v (eT t), S5, S6, S7, S8, S9, S10, .v (.str s)] = .ok ([.v (.tup [.str "BadText", .int a]), .v (.tup [.str "told", eT t])], [.v sc, .o xs, S2, S3, .v (eT t), S5, S6, S7, S8, S9, S10, .v (.str s)]) := a1_ok hwy (a1_ok (x := .v (.tup [.str "told", eT t])) (by simp only [evE]) rfl)
    unfold Le_law_3 mB
    rw [hma]
    simp only [evE, hq]
theorem any_no : ∀ L : List D, fAnyT [.lst (L.map fun _ => D.bl false)] = some (.v (.bl false)) := fun L => by
  have h : ∀ L : List D, trsD (L.map fun _ => D.bl false) = some (L.map fun _ => false) := fun L => by
    induction L with
    | nil => rfl
    | cons x r ih =>
      rw [List.map_cons]
      show (trsD (D.bl false :: r.map fun _ => D.bl false)) = _
      unfold trsD
      simp only [ih]
      rfl
  show (trsD (L.map fun _ => D.bl false)).map _ = _
  rw [h]
  show some (Nw.v (.bl ((L.map fun _ => false).any id))) = _
  rw [List.any_map]
  have : L.any (id ∘ fun _ => false) = false := List.any_eq_false.mpr fun x _ => by simp
  rw [this]
theorem lo1 (sc : D) : ∀ (ds : List D) (xs : List D) (s2 s3 s4 s5 s6 s7 s8 s9 s11 : Sl), Dr xs →
    ∃ (xs' : List D) (t2 t3 t4 t5 t11 : Sl), mForL (gN 2) Fb_law_1 ds [.v sc, .o xs, s2, s3, s4, s5, s6, s7, s8, s9, .no, s11] = .ok (.nx [.v sc, .o xs', t2, t3, t4, t5, s6, s7, s8, s9, .no, t11]) ∧ Dr xs'
  | [], xs, s2, s3, s4, s5, s6, s7, s8, s9, s11, d => ⟨xs, s2, s3, s4, s5, s11, rfl, d⟩
  | x :: ds, xs, s2, s3, s4, s5, s6, s7, s8, s9, s11, d => by
    obtain ⟨ws, x1, e1, h1, l1, d1⟩ := nm_loop (.v sc) (.v x) s3 s4 s5 s6 s7 s8 s9 s11 (rngD 0 1 3) xs [] d (by rw [rng_len]; decide)
    rw [rng_len] at l1
    rw [List.nil_append] at e1
    obtain ⟨w1, w2, w3, rfl⟩ : ∃ w1 w2 w3, ws = [w1, w2, w3] := by
      match ws, l1 with
      | [w1, w2, w3], _ => exact ⟨w1, w2, w3, rfl⟩
    have hnm : ∀ w ∈ ([w1, w2, w3] : List Str), PyData.strOk w = true := fun w hw => (name_nice (h1 w hw)).1
    have hnn : ∀ w ∈ ([w1, w2, w3] : List Str), Nice w 11 0 := fun w hw => name_nice (h1 w hw)
    obtain ⟨r, x2, e2, hr0, hr1, d2⟩ := e__law_take x1 d1 5 (by decide) (by decide)
    obtain ⟨rn, rfl⟩ := Int.eq_ofNat_of_zero_le hr0
    obtain ⟨t, x3, e3, ht1, ht2, d3⟩ := e_tree (ns := [w1, w2, w3]) (ne_nm (hnm w1 (by simp)) (hnm w2 (by simp)) (hnm w3 (by simp))) (by simp) (by simp) 8 x2 rn d2 (by omega)
    have e3 : M__law_tree x2 [.lst [.str w1, .str w2, .str w3], .int (rn : Int)] = .ok (.v (eT t), x3) := e3
    have hdp : dp t ≤ 4 := by omega
    have lb4 : lB (dp t) ≤ 476 := lB_le hdp
    have cb4 : cB (dp t) ≤ 30 := cB_le hdp
    have e4 : M_write [eT t] = .ok (.v (.str (txt t))) := e_write hnn 8 t ht1 (by omega) (by omega)
    have e5 : M__law_text [eT t] = .ok (.v (.str (txt t))) := e_text hnn 8 t ht1 (by omega) (by omega)
    have hn := (txt_nice hnn t ht1).mono (L' := 476) (C' := 30) lb4 cb4
    have hl := hn.2.1
    have hz : (txt t).length ≤ 1000000 := by omega
    have hwr := wr_txt h1 t ht1
    have sm1 : M__law_same [.str (txt t), .str (txt t)] = .ok (.v (.bl true)) := e__law_same _ (.str hn.1)
    have hrd : M_read [.str (txt t)] = .ok (.v (eT t)) := rd hn.1 (by omega) (hwr.lift (lev_le t) (Nat.le_refl _)) (by have := hn.2.2; omega)
    have hso := so_wt hnm t ht1
    have hsame : M__law_same [eT t, eT t] = .ok (.v (.bl true)) := e__law_same _ ((pl_e t hso).mono (by omega))
    have hp2 := (n_one.1.app hn).app n_one.2.1
    have hrd2 : M_read [.str ((("(" : Str) ++ txt t) ++ (")" : Str))] = .ok (.v (eT t)) := rd hp2.1 (by have := hp2.2.1; omega) (by
      rw [wd_par]
      exact (Wr.par (hwr.lift (lev_le t) (Nat.le_refl _))).lift (by decide) (by decide)) (by have := hp2.2.2; omega)
    have l2 := l_two
    have a1 : ("(" : Str).length + (txt t).length ≤ 1000000 := by omega
    have a2 : (("(" : Str) ++ txt t).length + (")" : Str).length ≤ 1000000 := by rw [len_app]; omega
    have hne : fNe [.str (txt t), .str (txt t)] = some (.v (.bl false)) := by rw [Ty.n_str ⟨hn.1, hn.1⟩]; simp
    obtain ⟨L, e6, hL, hLl⟩ := e_without hn.1 (by omega) (bal_txt h1 t ht1)
    have b1' : mSet 3 (mLc (mR1 (mA1 (mK (.int 3)) mA0)) (gN 10) mYes Le_law_2 [10]) [.v sc, .o xs, .v x, s3, s4, s5, s6, s7, s8, s9, .no, s11] = .ok (.nx [.v sc, .o x1, .v x, .o [.str w1, .str w2, .str w3], s4, s5, s6, s7, s8, s9, .no, s11]) := by
      have : mLc (mR1 (mA1 (mK (.int 3)) mA0)) (gN 10) mYes Le_law_2 [10] [.v sc, .o xs, .v x, s3, s4, s5, s6, s7, s8, s9, .no, s11] = .ok (.o [.str w1, .str w2, .str w3], [.v sc, .o x1, .v x, s3, s4, s5, s6, s7, s8, s9, .no, s11]) := by
        unfold mLc
        rw [r1 (n := 3) (Γ1 := [.v sc, .o xs, .v x, s3, s4, s5, s6, s7, s8, s9, .no, s11]) rfl (by decide)]
        show R.bind (mLcL (gN 10) mYes Le_law_2 [10] (rngD 0 1 3) [.v sc, .o xs, .v x, s3, s4, s5, s6, s7, s8, s9, .no, s11] []) _ = _
        rw [e1]; rfl
      unfold mSet
      rw [this]; rfl
    have b2' : mSet 4 (mCallI M__law_tree (mA1 (mN 1) (mA1 (mN 3) (mA1 (mCallI M__law_take (mA1 (mN 1) (mA1 (mK (.int 5)) mA0))) mA0)))) [.v sc, .o x1, .v x, .o [.str w1, .str w2, .str w3], s4, s5, s6, s7, s8, s9, .no, s11] = .ok (.nx [.v sc, .o x3, .v x, .v (.lst [.str w1, .str w2, .str w3]), .v (eT t), s5, s6, s7, s8, s9, .no, s11]) := by
      simp only [evE, e2, e3]
    have b3' : mSet 5 (mCall M_write (mA1 (mN 4) mA0)) [.v sc, .o x3, .v x, .v (.lst [.str w1, .str w2, .str w3]), .v (eT t), s5, s6, s7, s8, s9, .no, s11] = .ok (.nx [.v sc, .o x3, .v x, .v (.lst [.str w1, .str w2, .str w3]), .v (eT t), .v (.str (txt t)), s6, s7, s8, s9, .no, s11]) := by
      simp only [evE, e4]
    have b4' : ∀ a, mIf (mNot (mT (mCall M__law_same (mA1 (mN 5) (mA1 (mCall M__law_text (mA1 (mN 4) mA0)) mA0))))) a mNx [.v sc, .o x3, .v x, .v (.lst [.str w1, .str w2, .str w3]), .v (eT t), .v (.str (txt t)), s6, s7, s8, s9, .no, s11] = .ok (.nx [.v sc, .o x3, .v x, .v (.lst [.str w1, .str w2, .str w3]), .v (eT t), .v (.str (txt t)), s6, s7, s8, s9, .no, s11]) := fun a => by
      refine (if_0 (Γ1 := [.v sc, .o x3, .v x, .v (.lst [.str w1, .str w2, .str w3]), .v (eT t), .v (.str (txt t)), s6, s7, s8, s9, .no, s11]) ?_).trans rfl
      simp only [evE, e5, sm1]
    have c1' : ∀ a, mIf (mNot (mT (mCall M__law_same (mA1 (mCall M_read (mA1 (mN 5) mA0)) (mA1 (mN 4) mA0))))) a mNx [.v sc, .o x3, .v x, .v (.lst [.str w1, .str w2, .str w3]), .v (eT t), .v (.str (txt t)), s6, s7, s8, s9, .no, s11] = .ok (.nx [.v sc, .o x3, .v x, .v (.lst [.str w1, .str w2, .str w3]), .v (eT t), .v (.str (txt t)), s6, s7, s8, s9, .no, s11]) := fun a => by
      refine (if_0 (Γ1 := [.v sc, .o x3, .v x, .v (.lst [.str w1, .str w2, .str w3]), .v (eT t), .v (.str (txt t)), s6, s7, s8, s9, .no, s11]) ?_).trans rfl
      simp only [evE, hrd, hsame]
    have c2' : ∀ a, mIf (mT (mB (two fNe) (mA1 (mCall M_write (mA1 (mCall M_read (mA1 (mB (two fAdd) (mA1 (mB (two fAdd) (mA1 (mK (.str "(")) (mA1 (mN 5) mA0))) (mA1 (mK (.str ")")) mA0))) mA0)) mA0)) (mA1 (mN 5) mA0)))) a mNx [.v sc, .o x3, .v x, .v (.lst [.str w1, .str w2, .str w3]), .v (eT t), .v (.str (txt t)), s6, s7, s8, s9, .no, s11] = .ok (.nx [.v sc, .o x3, .v x, .v (.lst [.str w1, .str w2, .str w3]), .v (eT t), .v (.str (txt t)), s6, s7, s8, s9, .no, s11]) := fun a => by
      refine (if_0 (Γ1 := [.v sc, .o x3, .v x, .v (.lst [.str w1, .str w2, .str w3]), .v (eT t), .v (.str (txt t)), s6, s7, s8, s9, .no, s11]) ?_).trans rfl
      simp only [evE, adS a1, adS a2, hrd2, e4, hne]
    have lc : mLc (mIs (mCall M__law_without (mA1 (mN 5) mA0))) (gN 11) mYes Le_law_3 [11] [.v sc, .o x3, .v x, .v (.lst [.str w1, .str w2, .str w3]), .v (eT t), .v (.str (txt t)), s6, s7, s8, s9, .no, s11] = .ok (.o (L.map fun _ => D.bl false), [.v sc, .o x3, .v x, .v (.lst [.str w1, .str w2, .str w3]), .v (eT t), .v (.str (txt t)), s6, s7, s8, s9, .no, .no]) := by
      unfold mLc
      rw [show mIs (mCall M__law_without (mA1 (mN 5) mA0)) [.v sc, .o x3, .v x, .v (.lst [.str w1, .str w2, .str w3]), .v (eT t), .v (.str (txt t)), s6, s7, s8, s9, .no, s11] = .ok (L, [.v sc, .o x3, .v x, .v (.lst [.str w1, .str w2, .str w3]), .v (eT t), .v (.str (txt t)), s6, s7, s8, s9, .no, s11]) by simp only [evE, e6]]
      show R.bind (mLcL (gN 11) mYes Le_law_3 [11] L [.v sc, .o x3, .v x, .v (.lst [.str w1, .str w2, .str w3]), .v (eT t), .v (.str (txt t)), s6, s7, s8, s9, .no, .no] []) _ = _
      rw [mLcL_map (g := fun _ => .bl false) rfl L [] (fun d hd => ⟨rfl, bare_no h1 ht1 hdp (hn.mono (by omega) (by omega)) (hL d hd) sc x3 _ _ _ _ _ _ _ _⟩) (by simp; unfold SZ; omega)]
      rfl
    have c3' : ∀ a, mIf (mT (mB fAnyT (mA1 (mLc (mIs (mCall M__law_without (mA1 (mN 5) mA0))) (gN 11) mYes Le_law_3 [11]) mA0))) a mNx [.v sc, .o x3, .v x, .v (.lst [.str w1, .str w2, .str w3]), .v (eT t), .v (.str (txt t)), s6, s7, s8, s9, .no, s11] = .ok (.nx [.v sc, .o x3, .v x, .v (.lst [.str w1, .str w2, .str w3]), .v (eT t), .v (.str (txt t)), s6, s7, s8, s9, .no, .no]) := fun a => by
      refine (if_0 (Γ1 := [.v sc, .o x3, .v x, .v (.lst [.str w1, .str w2, .str w3]), .v (eT t), .v (.str (txt t)), s6, s7, s8, s9, .no, .no]) ?_).trans rfl
      have hma : mA1 (mLc (mIs (mCall M__law_without (mA1 (mN 5) mA0))) (gN 11) mYes Le_law_3 [11]) mA0 [.v sc, .o x3, .v x, .v (.lst [.str w1, .str w2, .str w3]), .v (eT t), .v (.str (txt t)), s6, s7, s8, s9, .no, s11] = .ok ([.v (.lst (L.map fun _ => D.bl false))], [.v sc, .o x3, .v x, .v (.lst [.str w1, .str w2, .str w3]), .v (eT t), .v (.str (txt t)), s6, s7, s8, s9, .no, .no]) := a1_ok lc rfl
      unfold mT mB
      rw [hma]
      show R.bind (match fAnyT [.lst (L.map fun _ => D.bl false)] with | some nw => R.ok (nw.bv, [Sl.v sc, .o x3, .v x, .v (.lst [.str w1, .str w2, .str w3]), .v (eT t), .v (.str (txt t)), s6, s7, s8, s9, .no, .no]) | none => .bad) _ = _
      rw [any_no]; rfl
    have b5' : ∃ s11', mIf (mT (mB (two fLt) (mA1 (mB fLenS (mA1 (mN 5) mA0)) (mA1 (mK (.int 380)) mA0)))) (mSeq (mIf (mNot (mT (mCall M__law_same (mA1 (mCall M_read (mA1 (mN 5) mA0)) (mA1 (mN 4) mA0))))) (mRet (mK (.bl false))) mNx)
  (mSeq (mIf (mT (mB (two fNe) (mA1 (mCall M_write (mA1 (mCall M_read (mA1 (mB (two fAdd) (mA1 (mB (two fAdd) (mA1 (mK (.str "(")) (mA1 (mN 5) mA0))) (mA1 (mK (.str ")")) mA0))) mA0)) mA0)) (mA1 (mN 5) mA0)))) (mRet (mK (.bl false))) mNx)
  (mIf (mT (mB fAnyT (mA1 (mLc (mIs (mCall M__law_without (mA1 (mN 5) mA0))) (gN 11) mYes Le_law_3 [11]) mA0))) (mRet (mK (.bl false))) mNx))) mNx [.v sc, .o x3, .v x, .v (.lst [.str w1, .str w2, .str w3]), .v (eT t), .v (.str (txt t)), s6, s7, s8, s9, .no, s11] = .ok (.nx [.v sc, .o x3, .v x, .v (.lst [.str w1, .str w2, .str w3]), .v (eT t), .v (.str (txt t)), s6, s7, s8, s9, .no, s11']) := by
      cases hlt : decide (((txt t).length : Int) < 380) with
      | true => exact ⟨.no, (if_1 (Γ1 := [.v sc, .o x3, .v x, .v (.lst [.str w1, .str w2, .str w3]), .v (eT t), .v (.str (txt t)), s6, s7, s8, s9, .no, s11]) (by simp only [evE, fLenS, hz, hlt])).trans ((seq_n (c1' _)).trans ((seq_n (c2' _)).trans (c3' _)))⟩
      | false => exact ⟨s11, (if_0 (Γ1 := [.v sc, .o x3, .v x, .v (.lst [.str w1, .str w2, .str w3]), .v (eT t), .v (.str (txt t)), s6, s7, s8, s9, .no, s11]) (by simp only [evE, fLenS, hz, hlt])).trans rfl⟩
    obtain ⟨s11', b5'⟩ := b5'
    obtain ⟨x7, t2, t3, t4, t5, t11, e7, d7⟩ := lo1 sc ds x3 (.v x) (.v (.lst [.str w1, .str w2, .str w3])) (.v (eT t)) (.v (.str (txt t))) s6 s7 s8 s9 s11' d3
    refine ⟨x7, t2, t3, t4, t5, t11, ?_, d7⟩
    have hbd : Fb_law_1 [.v sc, .o xs, .v x, s3, s4, s5, s6, s7, s8, s9, .no, s11] = .ok (.nx [.v sc, .o x3, .v x, .v (.lst [.str w1, .str w2, .str w3]), .v (eT t), .v (.str (txt t)), s6, s7, s8, s9, .no, s11']) := (seq_n b1').trans ((seq_n b2').trans ((seq_n b3').trans ((seq_n (b4' _)).trans b5')))
    rw [mForL_nx (Γ1 := [.v sc, .o xs, .v x, s3, s4, s5, s6, s7, s8, s9, .no, s11]) rfl hbd]
    exact e7
def nA : Tr := .name "a"
def nB : Tr := .name "b"
def T1 : Tr := .power (.bin "plus" (.name "a") (.name "b")) (-2)
def T2 : Tr := .turned (.power (.name "a") 0)
def T3 : Tr := .bin "minus" (.name "a") (.bin "minus" (.name "b") (.name "a"))
def T4 : Tr := .bin "times" (.bin "over" (.name "a") (.name "b")) (.name "a")
theorem txts4 : txt T1 = "(a + b)^-2" ∧ txt T2 = "a^0'" ∧ txt T3 = "a - (b - a)" ∧ txt T4 = "a / b * a" := by decide +kernel
theorem ab_nice : ∀ s ∈ (["a", "b"] : List Str), Nice s 11 0 := by unfold Nice; decide +kernel
theorem ab_in : ("a" : Str) ∈ (["a", "b"] : List Str) ∧ ("b" : Str) ∈ (["a", "b"] : List Str) ∧ ("plus" : Str) ∈ two4 ∧ ("minus" : Str) ∈ two4 ∧ ("times" : Str) ∈ two4 ∧ ("over" : Str) ∈ two4 := by decide +kernel
theorem wr4 : M_write [eT T1] = .ok (.v (.str "(a + b)^-2")) ∧ M_write [eT T2] = .ok (.v (.str "a^0'")) ∧ M_write [eT T3] = .ok (.v (.str "a - (b - a)")) ∧ M_write [eT T4] = .ok (.v (.str "a / b * a")) := by
  obtain ⟨ha, hb, hp, hm, ht, ho⟩ := ab_in
  obtain ⟨t1, t2, t3, t4⟩ := txts4
  refine ⟨?_, ?_, ?_, ?_⟩
  · rw [← t1]; exact e_write ab_nice 8 T1 ⟨⟨hp, ha, hb⟩, by decide, by decide⟩ (by decide) (by decide)
  · rw [← t2]; exact e_write ab_nice 8 T2 ⟨ha, by decide, by decide⟩ (by decide) (by decide)
  · rw [← t3]; exact e_write ab_nice 8 T3 ⟨hm, ha, hm, hb, ha⟩ (by decide) (by decide)
  · rw [← t4]; exact e_write ab_nice 8 T4 ⟨ht, ⟨ho, ha, hb⟩, ha⟩ (by decide) (by decide)
theorem due_ok : fEq [.lst [.str "(a + b)^-2", .str "a^0'", .str "a - (b - a)", .str "a / b * a"], .lst [.str "(a + b)^-2", .str "a^0'", .str "a - (b - a)", .str "a / b * a"]] = some (.v (.bl true)) := by
  have k : PyData.strOk ("(a + b)^-2" : Str) = true ∧ PyData.strOk ("a^0'" : Str) = true ∧ PyData.strOk ("a - (b - a)" : Str) = true ∧ PyData.strOk ("a / b * a" : Str) = true := by decide +kernel
  obtain ⟨k1, k2, k3, k4⟩ := k
  simp [fEq, shp, toP, toPA, SeqAt.shaped, PyData.canLay0, PyData.canLayAll0, PyData.depth, PyData.depthAll, k1, k2, k3, k4, eqD, PyData.eqv, PyData.eqvAll]
theorem lc_step {f : D → En → Option En} {em : En → R (BV × En)} {vs : List Nat} {d v : D} {ds acc : List D} {Γ Γ1 Γ2 : En} (h1 : f d Γ = some Γ1) (h2 : nox (mFz1 em Γ1) = .ok (v, Γ2)) (hl : acc.length < SZ) : mLcL f mYes em vs (d :: ds) Γ acc = mLcL f mYes em vs ds (wipeE Γ2 vs) (acc ++ [v]) := by
  rw [mLcL, h1]
  show (nox (mFz1 em Γ1)).bind (fun y => if acc.length < SZ then mLcL f mYes em vs ds (wipeE y.2 vs) (acc ++ [y.1]) else .bad) = _
  rw [h2]
  show (if acc.length < SZ then mLcL f mYes em vs ds (wipeE Γ2 vs) (acc ++ [v]) else .bad) = _
  rw [if_pos hl]
theorem law_true (ns : List Int) (_ : ns.length ≤ 63) : M_law [.scr ns] = .ok (.v (.bl true)) := by
  obtain ⟨xs, e1, d1⟩ := e__law_begin ns
  have s1 : mSet 1 (mCall M__law_begin (mA1 (mN 0) mA0)) [.v (.scr ns), .no, .no, .no, .no, .no, .no, .no, .no, .no, .no, .no] = .ok (.nx [.v (.scr ns), .o xs, .no, .no, .no, .no, .no, .no, .no, .no, .no, .no]) := by
    simp only [evE, e1]
  obtain ⟨x2, u2, u3, u4, u5, u11, e2, d2⟩ := lo1 (.scr ns) (rngD 0 1 6) xs .no .no .no .no .no .no .no .no .no d1
  have s2 : mFor (mR1 (mA1 (mK (.int 6)) mA0)) (gN 2) Fb_law_1 [.v (.scr ns), .o xs, .no, .no, .no, .no, .no, .no, .no, .no, .no, .no] = .ok (.nx [.v (.scr ns), .o x2, u2, u3, u4, u5, .no, .no, .no, .no, .no, u11]) := by
    unfold mFor
    rw [r1 (n := 6) (Γ1 := [.v (.scr ns), .o xs, .no, .no, .no, .no, .no, .no, .no, .no, .no, .no]) rfl (by decide)]
    exact e2
  have s3 : mAsg (gT 2 (gs1 (gN 6) (gs1 (gN 7) gs0))) (mTup (mA1 (mTup (mA1 (mK (.str "name")) (mA1 (mK (.str "a")) mA0))) (mA1 (mTup (mA1 (mK (.str "name")) (mA1 (mK (.str "b")) mA0))) mA0))) [.v (.scr ns), .o x2, u2, u3, u4, u5, .no, .no, .no, .no, .no, u11] = .ok (.nx [.v (.scr ns), .o x2, u2, u3, u4, u5, .v (eT nA), .v (eT nB), .no, .no, .no, u11]) := by
    simp only [evE, eT, nA, nB]
  show R.bind (B_law [.v (.scr ns), .no, .no, .no, .no, .no, .no, .no, .no, .no, .no, .no]) _ = _
  rw [B_law, seq_n s1, seq_n s2, seq_n s3]
  rw [seq_n (Γ1 := [.v (.scr ns), .o x2, u2, u3, u4, u5, .v (eT nA), .v (eT nB), .o [eT T1, eT T2], .no, .no, u11]) (by simp only [evE]; rfl)]
  rw [seq_n (Γ1 := [.v (.scr ns), .o x2, u2, u3, u4, u5, .v (eT nA), .v (eT nB), .o [eT T1, eT T2, eT T3, eT T4], .no, .no, u11]) (by simp only [evE]; rfl)]
  rw [seq_n (Γ1 := [.v (.scr ns), .o x2, u2, u3, u4, u5, .v (eT nA), .v (eT nB), .o [eT T1, eT T2, eT T3, eT T4], .o [.str "(a + b)^-2", .str "a^0'", .str "a - (b - a)", .str "a / b * a"], .no, u11]) (by simp only [evE])]
  obtain ⟨q1, q2, q3, q4⟩ := wr4
  have lc : mLc (mIs (mN 8)) (gN 4) mYes Le_law_5 [4] [.v (.scr ns), .o x2, u2, u3, u4, u5, .v (eT nA), .v (eT nB), .o [eT T1, eT T2, eT T3, eT T4], .o [.str "(a + b)^-2", .str "a^0'", .str "a - (b - a)", .str "a / b * a"], .no, u11] = .ok (.o [.str "(a + b)^-2", .str "a^0'", .str "a - (b - a)", .str "a / b * a"], [.v (.scr ns), .o x2, u2, u3, .no, u5, .v (eT nA), .v (eT nB), .v (.lst [eT T1, eT T2, eT T3, eT T4]), .o [.str "(a + b)^-2", .str "a^0'", .str "a - (b - a)", .str "a / b * a"], .no, u11]) := by
    have one : ∀ d w, M_write [d] = .ok (.v (.str w)) → ∀ u5 u6 u7 u8 u9 u10 u11, nox (mFz1 Le_law_5 [.v (.scr ns), .o x2, u2, u3, .v d, u5, u6, u7, u8, u9, u10, u11]) = .ok (.str w, [.v (.scr ns), .o x2, u2, u3, .v d, u5, u6, u7, u8, u9, u10, u11]) := fun d w h u5 u6 u7 u8 u9 u10 u11 => by
      simp only [evE, Le_law_5, h]
    unfold mLc
    rw [show mIs (mN 8) [.v (.scr ns), .o x2, u2, u3, u4, u5, .v (eT nA), .v (eT nB), .o [eT T1, eT T2, eT T3, eT T4], .o [.str "(a + b)^-2", .str "a^0'", .str "a - (b - a)", .str "a / b * a"], .no, u11] = .ok ([eT T1, eT T2, eT T3, eT T4], [.v (.scr ns), .o x2, u2, u3, u4, u5, .v (eT nA), .v (eT nB), .v (.lst [eT T1, eT T2, eT T3, eT T4]), .o [.str "(a + b)^-2", .str "a^0'", .str "a - (b - a)", .str "a / b * a"], .no, u11]) by simp only [evE]]
    show R.bind (mLcL (gN 4) mYes Le_law_5 [4] [eT T1, eT T2, eT T3, eT T4] [.v (.scr ns), .o x2, u2, u3, .no, u5, .v (eT nA), .v (eT nB), .v (.lst [eT T1, eT T2, eT T3, eT T4]), .o [.str "(a + b)^-2", .str "a^0'", .str "a - (b - a)", .str "a / b * a"], .no, u11] []) _ = _
    have g1 : mLcL (gN 4) mYes Le_law_5 [4] [eT T1, eT T2, eT T3, eT T4] [.v (.scr ns), .o x2, u2, u3, .no, u5, .v (eT nA), .v (eT nB), .v (.lst [eT T1, eT T2, eT T3, eT T4]), .o [.str "(a + b)^-2", .str "a^0'", .str "a - (b - a)", .str "a / b * a"], .no, u11] [] = mLcL (gN 4) mYes Le_law_5 [4] [eT T2, eT T3, eT T4] [.v (.scr ns), .o x2, u2, u3, .no, u5, .v (eT nA), .v (eT nB), .v (.lst [eT T1, eT T2, eT T3, eT T4]), .o [.str "(a + b)^-2", .str "a^0'", .str "a - (b - a)", .str "a / b * a"], .no, u11] [.str "(a + b)^-2"] := lc_step (Γ1 := [.v (.scr ns), .o x2, u2, u3, .v (eT T1), u5, .v (eT nA), .v (eT nB), .v (.lst [eT T1, eT T2, eT T3, eT T4]), .o [.str "(a + b)^-2", .str "a^0'", .str "a - (b - a)", .str "a / b * a"], .no, u11]) rfl (one _ _ q1 _ _ _ _ _ _ _) (by unfold SZ; decide)
    have g2 : mLcL (gN 4) mYes Le_law_5 [4] [eT T2, eT T3, eT T4] [.v (.scr ns), .o x2, u2, u3, .no, u5, .v (eT nA), .v (eT nB), .v (.lst [eT T1, eT T2, eT T3, eT T4]), .o [.str "(a + b)^-2", .str "a^0'", .str "a - (b - a)", .str "a / b * a"], .no, u11] [.str "(a + b)^-2"] = mLcL (gN 4) mYes Le_law_5 [4] [eT T3, eT T4] [.v (.scr ns), .o x2, u2, u3, .no, u5, .v (eT nA), .v (eT nB), .v (.lst [eT T1, eT T2, eT T3, eT T4]), .o [.str "(a + b)^-2", .str "a^0'", .str "a - (b - a)", .str "a / b * a"], .no, u11] [.str "(a + b)^-2", .str "a^0'"] := lc_step (Γ1 := [.v (.scr ns), .o x2, u2, u3, .v (eT T2), u5, .v (eT nA), .v (eT nB), .v (.lst [eT T1, eT T2, eT T3, eT T4]), .o [.str "(a + b)^-2", .str "a^0'", .str "a - (b - a)", .str "a / b * a"], .no, u11]) rfl (one _ _ q2 _ _ _ _ _ _ _) (by unfold SZ; decide)
    have g3 : mLcL (gN 4) mYes Le_law_5 [4] [eT T3, eT T4] [.v (.scr ns), .o x2, u2, u3, .no, u5, .v (eT nA), .v (eT nB), .v (.lst [eT T1, eT T2, eT T3, eT T4]), .o [.str "(a + b)^-2", .str "a^0'", .str "a - (b - a)", .str "a / b * a"], .no, u11] [.str "(a + b)^-2", .str "a^0'"] = mLcL (gN 4) mYes Le_law_5 [4] [eT T4] [.v (.scr ns), .o x2, u2, u3, .no, u5, .v (eT nA), .v (eT nB), .v (.lst [eT T1, eT T2, eT T3, eT T4]), .o [.str "(a + b)^-2", .str "a^0'", .str "a - (b - a)", .str "a / b * a"], .no, u11] [.str "(a + b)^-2", .str "a^0'", .str "a - (b - a)"] := lc_step (Γ1 := [.v (.scr ns), .o x2, u2, u3, .v (eT T3), u5, .v (eT nA), .v (eT nB), .v (.lst [eT T1, eT T2, eT T3, eT T4]), .o [.str "(a + b)^-2", .str "a^0'", .str "a - (b - a)", .str "a / b * a"], .no, u11]) rfl (one _ _ q3 _ _ _ _ _ _ _) (by unfold SZ; decide)
    have g4 : mLcL (gN 4) mYes Le_law_5 [4] [eT T4] [.v (.scr ns), .o x2, u2, u3, .no, u5, .v (eT nA), .v (eT nB), .v (.lst [eT T1, eT T2, eT T3, eT T4]), .o [.str "(a + b)^-2", .str "a^0'", .str "a - (b - a)", .str "a / b * a"], .no, u11] [.str "(a + b)^-2", .str "a^0'", .str "a - (b - a)"] = mLcL (gN 4) mYes Le_law_5 [4] [] [.v (.scr ns), .o x2, u2, u3, .no, u5, .v (eT nA), .v (eT nB), .v (.lst [eT T1, eT T2, eT T3, eT T4]), .o [.str "(a + b)^-2", .str "a^0'", .str "a - (b - a)", .str "a / b * a"], .no, u11] [.str "(a + b)^-2", .str "a^0'", .str "a - (b - a)", .str "a / b * a"] := lc_step (Γ1 := [.v (.scr ns), .o x2, u2, u3, .v (eT T4), u5, .v (eT nA), .v (eT nB), .v (.lst [eT T1, eT T2, eT T3, eT T4]), .o [.str "(a + b)^-2", .str "a^0'", .str "a - (b - a)", .str "a / b * a"], .no, u11]) rfl (one _ _ q4 _ _ _ _ _ _ _) (by unfold SZ; decide)
    rw [g1, g2, g3, g4]; rfl
  have hma : mA1 (mLc (mIs (mN 8)) (gN 4) mYes Le_law_5 [4]) (mA1 (mN 9) mA0) [.v (.scr ns), .o x2, u2, u3, u4, u5, .v (eT nA), .v (eT nB), .o [eT T1, eT T2, eT T3, eT T4], .o [.str "(a + b)^-2", .str "a^0'", .str "a - (b - a)", .str "a / b * a"], .no, u11] = .ok ([.v (.lst [.str "(a + b)^-2", .str "a^0'", .str "a - (b - a)", .str "a / b * a"]), .s 9], [.v (.scr ns), .o x2, u2, u3, .no, u5, .v (eT nA), .v (eT nB), .v (.lst [eT T1, eT T2, eT T3, eT T4]), .o [.str "(a + b)^-2", .str "a^0'", .str "a - (b - a)", .str "a / b * a"], .no, u11]) := a1_ok lc rfl
  unfold mRet mB
  rw [hma]
  simp only [evE, due_ok]
end K53
namespace Rg
open PySem PySem.Spec PyProof.Rows L2 LamX
end Rg
namespace Rg
open PySem PySem.Spec PyProof.Rows L2 LamX
theorem saysK_of {fn : List He.DefD} {tf : List He.Defn} {ex : PySem.W.Frag → Bool} {h : Heap} {K : PySem.W.Frag} {ts : List Addr} (hf : FnK K fn) (he : ex K = true) (ht : (tf.all fun p => PySem.W.codeHdIn K (He.cT K p).1 (He.cT K p).2 && (ts.contains (He.cT K p).2 && (K.lookup (He.cT K p).2).isNone)) = true) (hts : ∀ P ∈ ts, h.get? P = some (PySem.W.tabObj #[])) : SaysY fn tf ex h K := by
  unfold FnK at hf
  have h1 := congrArg Prod.fst hf
  have h2 := congrArg Prod.snd hf
  dsimp only at h1 h2
  have q : ∀ p ∈ tf, PySem.W.codeHdIn K (He.cT K p).1 (He.cT K p).2 = true ∧ (He.cT K p).2 ∈ ts ∧ K.lookup (He.cT K p).2 = none := fun p hp => by
    have := List.all_eq_true.mp ht p hp
    simp only [Bool.and_eq_true, List.contains_iff_mem, Option.isNone_iff_eq_none] at this
    exact ⟨this.1, this.2.1, this.2.2⟩
  refine ⟨fun d hd => ?_, he, fun p hp => (q p hp).1, fun p hp => (q p hp).2.2, fun p hp => hts _ (q p hp).2.1⟩
  obtain ⟨i, hi, y⟩ := List.mem_iff_getElem.mp hd
  have e3 : (fn.map fun d => He.fnW K d.at_)[i]? = (fn.map He.DefD.val)[i]? := by rw [h1]
  rw [List.getElem?_map, List.getElem?_map, List.getElem?_eq_getElem hi, y] at e3
  exact He.DefD.funD (Option.some.inj e3) (List.all_eq_true.mp h2 d hd)
theorem fin_k {fn : List He.DefD} {tf : List He.Defn} {ex : PySem.W.Frag → Bool} {w : World} {h : Heap} {K : Params → PySem.W.Frag} {ts : List Addr} {C : PySem.W.Frag → Prop} (Y : PySem.W.InK K w h ∧ ∀ P ∈ ts, h.get? P = some (PySem.W.tabObj #[])) (hf : ((fn.map fun d => He.fnW (K w.params) d.at_), fn.all fun d => d.ok (K w.params)) = (fn.map He.DefD.val, true)) (he : ex (K w.params) = true)
    (ht : (tf.all fun p => PySem.W.codeHdIn (K w.params) (He.cT (K w.params) p).1 (He.cT (K w.params) p).2 && (ts.contains (He.cT (K w.params) p).2 && ((K w.params).lookup (He.cT (K w.params) p).2).isNone)) = true) (k : (K w.params).In h → SaysY fn tf ex h (K w.params) → C (K w.params)) : ∃ K', C K' :=
  ⟨K w.params, k Y.1 (saysK_of hf he ht Y.2)⟩
end Rg
namespace K53
open PySem PySem.Spec PyProof.Rows L2 Rg Mn
theorem fact {K : PySem.W.Frag} (h : ex K = true) (i : Nat) {f : He.Fa} (e : fa[i]? = some f) : f.ok K = true := List.all_eq_true.mp (He.ba h).1 f (List.mem_of_getElem? e)
theorem tup_ofS {K : PySem.W.Frag} {mg : Str → Option Value} {x : Str} {ns : List Str} (hg : mg x = some (.ref (He.ga K x))) (h : He.tupB K x (ns.map He.Dv.str) = true) : ∃ u, mg x = some (.ref u) ∧ ∀ F, SqT K F u (ns.map V.str) :=
  ⟨_, hg, fun F => by
    have := He.tupB_ok h F
    rw [List.map_map] at this
    exact this⟩
theorem extra {K : PySem.W.Frag} (h : ex K = true) (i : Nat) {b : Bool} (e : (exs K)[i]? = some b) : b = true := List.all_eq_true.mp (He.ba h).2 b (List.mem_of_getElem? e)
abbrev SYa (K : PySem.W.Frag) (h : Heap) := SaysY fn tf ex h K
theorem fx0 {K h} (c : SYa K h) : ∃ fd, FunD K "number_in" "number_in" (defArgs s_number_in) (defBody s_number_in) (defScope s_number_in) [] [] (He.fAd K ("number_in", none)) fd ∧ Binds K fd ["word", "most"] [] := sfx c 0 rfl
theorem fx1 {K h} (c : SYa K h) : ∃ fd, FunD K "is_name" "is_name" (defArgs s_is_name) (defBody s_is_name) (defScope s_is_name) [] [] (He.fAd K ("is_name", none)) fd ∧ Binds K fd ["word"] [] := sfx c 1 rfl
theorem fx2 {K h} (c : SYa K h) : ∃ fd, FunD K "bits_of" "bits_of" (defArgs s_bits_of) (defBody s_bits_of) (defScope s_bits_of) [] [] (He.fAd K ("bits_of", none)) fd ∧ Binds K fd ["text"] [] := sfx c 2 rfl
theorem fx3 {K h} (c : SYa K h) : ∃ fd, FunD K "read" "read" (defArgs s_read) (defBody s_read) (defScope s_read) [] [] (He.fAd K ("read", none)) fd ∧ Binds K fd ["text"] [] := sfx c 3 rfl
theorem fx4 {K h} (c : SYa K h) : ∃ fd, FunD K "shut" "shut" (defArgs s_shut) (defBody s_shut) (defScope s_shut) [] [] (He.fAd K ("shut", none)) fd ∧ Binds K fd ["tree", "kinds"] [] := sfx c 4 rfl
theorem fx5 {K h} (c : SYa K h) : ∃ fd, FunD K "write" "write" (defArgs s_write) (defBody s_write) (defScope s_write) [] [] (He.fAd K ("write", none)) fd ∧ Binds K fd ["tree"] [] := sfx c 5 rfl
theorem fx6 {K h} (c : SYa K h) : ∃ fd, FunD K "_law_begin" "_law_begin" (defArgs s__law_begin) (defBody s__law_begin) (defScope s__law_begin) [] [] (He.fAd K ("_law_begin", none)) fd ∧ Binds K fd ["_law_script"] [] := sfx c 6 rfl
theorem fx7 {K h} (c : SYa K h) : ∃ fd, FunD K "_law_take" "_law_take" (defArgs s__law_take) (defBody s__law_take) (defScope s__law_take) [] [] (He.fAd K ("_law_take", none)) fd ∧ Binds K fd ["_law_draw", "_law_sides"] [] := sfx c 7 rfl
theorem fx8 {K h} (c : SYa K h) : ∃ fd, FunD K "_law_of" "_law_of" (defArgs s__law_of) (defBody s__law_of) (defScope s__law_of) [] [] (He.fAd K ("_law_of", none)) fd ∧ Binds K fd ["_law_draw", "_law_row"] [] := sfx c 8 rfl
theorem fx9 {K h} (c : SYa K h) : ∃ fd, FunD K "_law_same" "_law_same" (defArgs s__law_same) (defBody s__law_same) (defScope s__law_same) [] [] (He.fAd K ("_law_same", none)) fd ∧ Binds K fd ["_law_found", "_law_due"] [] := sfx c 9 rfl
theorem fx10 {K : PySem.W.Frag} {h : Heap} (c : SaysY fn tf ex h K) : ∃ fd, FunD K "_law_why" "_law_why" (defArgs s__law_why) (defBody s__law_why) (defScope s__law_why) [] [] (He.fAd K ("_law_why", none)) fd ∧ Binds K fd ["_law_ask"] [] := by
  obtain ⟨fd, F⟩ := c.d dz__law_why (List.mem_of_getElem? (show fn[10]? = some dz__law_why from rfl))
  replace F : FunD K "_law_why" "_law_why" (defArgs s__law_why) (defBody s__law_why) (defScope s__law_why) [] [] (He.fAd K ("_law_why", none)) fd := F
  exact ⟨fd, F, F.bindsN (ps := ["_law_ask"]) fun _ _ _ _ _ _ us hl => match us, hl with | [_], _ => rfl⟩
theorem fx11 {K h} (c : SYa K h) : ∃ fd, FunD K "_law_letters" "_law_letters" (defArgs s__law_letters) (defBody s__law_letters) (defScope s__law_letters) [] [] (He.fAd K ("_law_letters", none)) fd ∧ Binds K fd [] [] := sfx c 11 rfl
theorem fx12 {K h} (c : SYa K h) : ∃ fd, FunD K "_law_fresh" "_law_fresh" (defArgs s__law_fresh) (defBody s__law_fresh) (defScope s__law_fresh) [] [] (He.fAd K ("_law_fresh", none)) fd ∧ Binds K fd ["_law_draw", "_law_taken"] [] := sfx c 12 rfl
theorem fx13 {K h} (c : SYa K h) : ∃ fd, FunD K "_law_tree" "_law_tree" (defArgs s__law_tree) (defBody s__law_tree) (defScope s__law_tree) [] [] (He.fAd K ("_law_tree", none)) fd ∧ Binds K fd ["_law_draw", "_law_names", "_law_deep"] [] := sfx c 13 rfl
theorem fx14 {K h} (c : SYa K h) : ∃ fd, FunD K "_law_signs" "_law_signs" (defArgs s__law_signs) (defBody s__law_signs) (defScope s__law_signs) [] [] (He.fAd K ("_law_signs", none)) fd ∧ Binds K fd [] [] := sfx c 14 rfl
theorem fx15 {K h} (c : SYa K h) : ∃ fd, FunD K "_law_shut" "_law_shut" (defArgs s__law_shut) (defBody s__law_shut) (defScope s__law_shut) [] [] (He.fAd K ("_law_shut", none)) fd ∧ Binds K fd ["_law_tree_here", "_law_kinds"] [] := sfx c 15 rfl
theorem fx16 {K h} (c : SYa K h) : ∃ fd, FunD K "_law_text" "_law_text" (defArgs s__law_text) (defBody s__law_text) (defScope s__law_text) [] [] (He.fAd K ("_law_text", none)) fd ∧ Binds K fd ["_law_tree_here"] [] := sfx c 16 rfl
theorem fx17 {K h} (c : SYa K h) : ∃ fd, FunD K "_law_without" "_law_without" (defArgs s__law_without) (defBody s__law_without) (defScope s__law_without) [] [] (He.fAd K ("_law_without", none)) fd ∧ Binds K fd ["_law_text_here"] [] := sfx c 17 rfl
theorem fx19 {K h} (c : SYa K h) : ∃ fd, FunD K "__init__" "Reader.__init__" (defArgs s_Reader___init__) (defBody s_Reader___init__) (defScope s_Reader___init__) [] [] (He.fAd K ("Reader", some "__init__")) fd ∧ Binds K fd ["self", "text"] [] := sfx c 19 rfl
theorem fx20 {K h} (c : SYa K h) : ∃ fd, FunD K "ahead" "Reader.ahead" (defArgs s_Reader_ahead) (defBody s_Reader_ahead) (defScope s_Reader_ahead) [] [] (He.fAd K ("Reader", some "ahead")) fd ∧ Binds K fd ["self"] [] := sfx c 20 rfl
theorem fx21 {K h} (c : SYa K h) : ∃ fd, FunD K "wrong" "Reader.wrong" (defArgs s_Reader_wrong) (defBody s_Reader_wrong) (defScope s_Reader_wrong) [] [] (He.fAd K ("Reader", some "wrong")) fd ∧ Binds K fd ["self"] [] := sfx c 21 rfl
theorem fx22 {K h} (c : SYa K h) : ∃ fd, FunD K "taken" "Reader.taken" (defArgs s_Reader_taken) (defBody s_Reader_taken) (defScope s_Reader_taken) [] [] (He.fAd K ("Reader", some "taken")) fd ∧ Binds K fd ["self"] [] := sfx c 22 rfl
theorem fx23 {K h} (c : SYa K h) : ∃ fd, FunD K "number" "Reader.number" (defArgs s_Reader_number) (defBody s_Reader_number) (defScope s_Reader_number) [] [] (He.fAd K ("Reader", some "number")) fd ∧ Binds K fd ["self"] [] := sfx c 23 rfl
theorem fx24 {K h} (c : SYa K h) : ∃ fd, FunD K "atom" "Reader.atom" (defArgs s_Reader_atom) (defBody s_Reader_atom) (defScope s_Reader_atom) [] [] (He.fAd K ("Reader", some "atom")) fd ∧ Binds K fd ["self"] [] := sfx c 24 rfl
theorem fx25 {K h} (c : SYa K h) : ∃ fd, FunD K "power" "Reader.power" (defArgs s_Reader_power) (defBody s_Reader_power) (defScope s_Reader_power) [] [] (He.fAd K ("Reader", some "power")) fd ∧ Binds K fd ["self"] [] := sfx c 25 rfl
theorem fx26 {K h} (c : SYa K h) : ∃ fd, FunD K "products" "Reader.products" (defArgs s_Reader_products) (defBody s_Reader_products) (defScope s_Reader_products) [] [] (He.fAd K ("Reader", some "products")) fd ∧ Binds K fd ["self"] [] := sfx c 26 rfl
theorem fx27 {K h} (c : SYa K h) : ∃ fd, FunD K "sums" "Reader.sums" (defArgs s_Reader_sums) (defBody s_Reader_sums) (defScope s_Reader_sums) [] [] (He.fAd K ("Reader", some "sums")) fd ∧ Binds K fd ["self"] [] := sfx c 27 rfl
theorem fx28 {K : PySem.W.Frag} {h : Heap} (c : SaysY fn tf ex h K) : ∃ fd, FunD K "__init__" "RungError.__init__" (defArgs i_RungError) (defBody i_RungError) (defScope i_RungError) [V.str "RungError"] [] (He.fAd K ("RungError", some "__init__")) fd ∧ Binds K fd ["self", "word"] [] := by
  obtain ⟨fd, F⟩ := c.d dz_i_RungError (List.mem_of_getElem? (show fn[28]? = some dz_i_RungError from rfl))
  replace F : FunD K "__init__" "RungError.__init__" (defArgs i_RungError) (defBody i_RungError) (defScope i_RungError) [V.str "RungError"] [] (He.fAd K ("RungError", some "__init__")) fd := F
  exact ⟨fd, F, iniBinds F fun _ _ _ _ _ _ _ _ _ _ => ⟨_, rfl, rfl⟩⟩
theorem fx29 {K h} (c : SYa K h) : ∃ fd, FunD K "__init__" "BadText.__init__" (defArgs i_BadText) (defBody i_BadText) (defScope i_BadText) [] [] (He.fAd K ("BadText", some "__init__")) fd ∧ Binds K fd ["self", "at"] [] := sfx c 29 rfl
theorem all_mk {l : PySem.W.OpenLaw} {w : World} {K : PySem.W.Frag} {h : Heap} {mg : Str → Option Value} {fa : Addr} (X : K.In h) (G : h.Ns mainGlobals mg) (hfa : mg "law" = some (.ref fa)) (c : SaysY fn tf ex h K) (hq_PRODUCTS : dcE K "PRODUCTS" = some (dcH w [("*", "times"), ("/", "over")])) (hq_SIGNS : dcE K "SIGNS" = some (dcH w [("plus", "+"), ("minus", "-"), ("times", "*"), ("over", "/")])) (hq_SUMS : dcE K "SUMS" = some (dcH w [("+", "plus"), ("-", "minus")])) : LamX.LawAtS l w K (L2.CX l.prog w) 172 63 "_law_script" mg fa h := by
  have cm := c.more
  obtain ⟨fd0, F0, b0⟩ := fx0 c
  have g0 := He.glo_ok X G (fact cm 0 rfl)
  obtain ⟨fd1, F1, b1⟩ := fx1 c
  have g1 := He.glo_ok X G (fact cm 1 rfl)
  obtain ⟨fd2, F2, b2⟩ := fx2 c
  have g2 := He.glo_ok X G (fact cm 2 rfl)
  obtain ⟨fd3, F3, b3⟩ := fx3 c
  have g3 := He.glo_ok X G (fact cm 3 rfl)
  obtain ⟨fd4, F4, b4⟩ := fx4 c
  have g4 := He.glo_ok X G (fact cm 4 rfl)
  obtain ⟨fd5, F5, b5⟩ := fx5 c
  have g5 := He.glo_ok X G (fact cm 5 rfl)
  obtain ⟨fd6, F6, b6⟩ := fx6 c
  have g6 := He.glo_ok X G (fact cm 6 rfl)
  obtain ⟨fd7, F7, b7⟩ := fx7 c
  have g7 := He.glo_ok X G (fact cm 7 rfl)
  obtain ⟨fd8, F8, b8⟩ := fx8 c
  have g8 := He.glo_ok X G (fact cm 8 rfl)
  obtain ⟨fd9, F9, b9⟩ := fx9 c
  have g9 := He.glo_ok X G (fact cm 9 rfl)
  obtain ⟨fd10, F10, b10⟩ := fx10 c
  have g10 := He.glo_ok X G (fact cm 10 rfl)
  obtain ⟨fd11, F11, b11⟩ := fx11 c
  have g11 := He.glo_ok X G (fact cm 11 rfl)
  obtain ⟨fd12, F12, b12⟩ := fx12 c
  have g12 := He.glo_ok X G (fact cm 12 rfl)
  obtain ⟨fd13, F13, b13⟩ := fx13 c
  have g13 := He.glo_ok X G (fact cm 13 rfl)
  obtain ⟨fd14, F14, b14⟩ := fx14 c
  have g14 := He.glo_ok X G (fact cm 14 rfl)
  obtain ⟨fd15, F15, b15⟩ := fx15 c
  have g15 := He.glo_ok X G (fact cm 15 rfl)
  obtain ⟨fd16, F16, b16⟩ := fx16 c
  have g16 := He.glo_ok X G (fact cm 16 rfl)
  obtain ⟨fd17, F17, b17⟩ := fx17 c
  have g17 := He.glo_ok X G (fact cm 17 rfl)
  obtain ⟨fd18, F18⟩ := c.d dz_law (List.mem_of_getElem? (show fn[18]? = some dz_law from rfl))
  replace F18 : FunD K "law" "law" (defArgs s_law) (defBody s_law) (defScope s_law) [] [] (He.fAd K ("law", none)) fd18 := F18
  have bA := F18.bindsA (ps := ["_law_script"]) fun _ _ _ _ _ _ us hl => match us, hl with | [_], _ => rfl
  have b18 := F18.bindsN (ps := ["_law_script"]) fun _ _ _ _ _ _ us hl => match us, hl with | [_], _ => rfl
  have g18 := He.glo_ok X G (fact cm 18 rfl)
  obtain ⟨fd19, F19, b19⟩ := fx19 c
  obtain ⟨fd20, F20, b20⟩ := fx20 c
  obtain ⟨fd21, F21, b21⟩ := fx21 c
  obtain ⟨fd22, F22, b22⟩ := fx22 c
  obtain ⟨fd23, F23, b23⟩ := fx23 c
  obtain ⟨fd24, F24, b24⟩ := fx24 c
  obtain ⟨fd25, F25, b25⟩ := fx25 c
  obtain ⟨fd26, F26, b26⟩ := fx26 c
  obtain ⟨fd27, F27, b27⟩ := fx27 c
  obtain ⟨fd28, F28, b28⟩ := fx28 c
  have g28 := He.glo_ok X G (fact cm 20 rfl)
  have y28 := extra cm 1 (b := bseB K "RungError") rfl
  obtain ⟨fd29, F29, b29⟩ := fx29 c
  have g29 := He.glo_ok X G (fact cm 21 rfl)
  have y29 := extra cm 2 (b := subB K "BadText" ["at"]) rfl
  have z29 := extra cm 3 (b := iniB K "BadText") rfl
  have e := hfa.symm.trans g18
  cases e
  refine ⟨fd18, tf.map (He.cT K), spLawT K, fun p hp => ?_, fun p hp => ?_, fun p hp => ?_, fun s v => bA s [v] rfl, fun H a ns hl _ hT hS => ⟨a, ns, rfl, hS, tabs_start (extra cm 11 (b := tabsIn tf K) rfl) hT, hl, fun _ => rfl⟩, fun base KX GB TB => ?_⟩
  · obtain ⟨q, hq, rfl⟩ := List.mem_map.mp hp; exact c.empty q hq
  · obtain ⟨q, hq, rfl⟩ := List.mem_map.mp hp; exact c.out q hq
  · obtain ⟨q, hq, rfl⟩ := List.mem_map.mp hp; exact PySem.W.codeHd_of_K X (c.hd q hq)
  have T : Tx w K mg base (fun i => match i with | 0 => fd0 | 1 => fd1 | 2 => fd2 | 3 => fd3 | 4 => fd4 | 5 => fd5 | 6 => fd6 | 7 => fd7 | 8 => fd8 | 9 => fd9 | 10 => fd10 | 11 => fd11 | 12 => fd12 | 13 => fd13 | 14 => fd14 | 15 => fd15 | 16 => fd16 | 17 => fd17 | 18 => fd18 | 19 => fd19 | 20 => fd20 | 21 => fd21 | 22 => fd22 | 23 => fd23 | 24 => fd24 | 25 => fd25 | 26 => fd26 | 27 => fd27 | 28 => fd28 | _ => fd29) := {
    F0 := F0
    g0 := g0
    b0 := b0
    F1 := F1
    g1 := g1
    b1 := b1
    F2 := F2
    g2 := g2
    b2 := b2
    F3 := F3
    g3 := g3
    b3 := b3
    F4 := F4
    g4 := g4
    b4 := b4
    F5 := F5
    g5 := g5
    b5 := b5
    F6 := F6
    g6 := g6
    b6 := b6
    F7 := F7
    g7 := g7
    b7 := b7
    F8 := F8
    g8 := g8
    b8 := b8
    F9 := F9
    g9 := g9
    b9 := b9
    F10 := F10
    g10 := g10
    b10 := b10
    F11 := F11
    g11 := g11
    b11 := b11
    F12 := F12
    g12 := g12
    b12 := b12
    F13 := F13
    g13 := g13
    b13 := b13
    F14 := F14
    g14 := g14
    b14 := b14
    F15 := F15
    g15 := g15
    b15 := b15
    F16 := F16
    g16 := g16
    b16 := b16
    F17 := F17
    g17 := g17
    b17 := b17
    F18 := F18
    g18 := g18
    b18 := b18
    F19 := F19
    b19 := b19
    k19 := kwBinds F19 fun _ _ _ _ _ _ us ws l1 l2 => match us, l1, ws, l2 with | [_, _], _, [], _ => rfl
    F20 := F20
    b20 := b20
    F21 := F21
    b21 := b21
    F22 := F22
    b22 := b22
    F23 := F23
    b23 := b23
    F24 := F24
    b24 := b24
    F25 := F25
    b25 := b25
    F26 := F26
    b26 := b26
    F27 := F27
    b27 := b27
    F28 := F28
    g28 := g28
    b28 := b28
    y28 := y28
    F29 := F29
    g29 := g29
    b29 := b29
    y29 := y29
    z29 := z29
    y_Reader := extra cm 4 (b := clsB K "Reader" ["bits", "spot", "end"] ["__init__", "ahead", "wrong", "taken", "number", "atom", "power", "products", "sums"]) rfl
    mk_Reader := extra cm 5 (b := makB K "Reader") rfl
    g_Reader := He.glo_ok X G (fact cm 19 (f := .glo "Reader") rfl)
    n_abs := He.free_ok X G (fact cm 32 (f := .free "abs") rfl)
    n_all := He.free_ok X G (fact cm 33 (f := .free "all") rfl)
    n_any := He.free_ok X G (fact cm 34 (f := .free "any") rfl)
    n_bool := He.free_ok X G (fact cm 35 (f := .free "bool") rfl)
    n_int := He.free_ok X G (fact cm 36 (f := .free "int") rfl)
    n_isinstance := He.free_ok X G (fact cm 37 (f := .free "isinstance") rfl)
    n_len := He.free_ok X G (fact cm 38 (f := .free "len") rfl)
    n_list := He.free_ok X G (fact cm 39 (f := .free "list") rfl)
    n_max := He.free_ok X G (fact cm 40 (f := .free "max") rfl)
    n_range := He.free_ok X G (fact cm 41 (f := .free "range") rfl)
    n_str := He.free_ok X G (fact cm 42 (f := .free "str") rfl)
    n_tuple := He.free_ok X G (fact cm 43 (f := .free "tuple") rfl)
    n_zip := He.free_ok X G (fact cm 44 (f := .free "zip") rfl)
    t_BINARY := tup_ofS (He.glo_ok X G (fact cm 49 (f := .glo "BINARY") rfl)) (extra cm 0 (b := He.tupB K "BINARY" (k_BINARY.map He.Dv.str)) rfl)
    t_FIGURES := He.str_ok X G (fact cm 45 (f := .str "FIGURES" "0123456789") rfl)
    t_LETTERS := He.str_ok X G (fact cm 46 (f := .str "LETTERS" "abcdefghijklmnopqrstuvwxyz") rfl)
    t_LONGEST := He.int_ok X G (fact cm 47 (f := .int "LONGEST" 8) rfl)
    t_MOST_FIGURES := He.int_ok X G (fact cm 48 (f := .int "MOST_FIGURES" 6) rfl)
    q_PRODUCTS := ⟨He.glo_ok X G (fact cm 50 (f := .glo "PRODUCTS") rfl), hq_PRODUCTS, by decide +kernel, extra cm 6 (b := !(He.ga K "PRODUCTS" == sysModules)) rfl⟩
    q_SIGNS := ⟨He.glo_ok X G (fact cm 51 (f := .glo "SIGNS") rfl), hq_SIGNS, by decide +kernel, extra cm 7 (b := !(He.ga K "SIGNS" == sysModules)) rfl⟩
    q_SUMS := ⟨He.glo_ok X G (fact cm 52 (f := .glo "SUMS") rfl), hq_SUMS, by decide +kernel, extra cm 8 (b := !(He.ga K "SUMS" == sysModules)) rfl⟩
    w_NotWhole := He.glo_ok X G (fact cm 22 (f := .glo "NotWhole") rfl)
    w_TooTall := He.glo_ok X G (fact cm 23 (f := .glo "TooTall") rfl)
    w_BadTable := He.glo_ok X G (fact cm 24 (f := .glo "BadTable") rfl)
    w_BadText := He.glo_ok X G (fact cm 21 (f := .glo "BadText") rfl)
    w_BadPage := He.glo_ok X G (fact cm 25 (f := .glo "BadPage") rfl)
    w_Stopped := He.glo_ok X G (fact cm 26 (f := .glo "Stopped") rfl)
    w_Used := He.glo_ok X G (fact cm 27 (f := .glo "Used") rfl)
    w_Held := He.glo_ok X G (fact cm 28 (f := .glo "Held") rfl)
    w_NoGuest := He.glo_ok X G (fact cm 29 (f := .glo "NoGuest") rfl)
    w_NoName := He.glo_ok X G (fact cm 30 (f := .glo "NoName") rfl)
    w_RungError := He.glo_ok X G (fact cm 20 (f := .glo "RungError") rfl)
    w_RungMissing := He.glo_ok X G (fact cm 31 (f := .glo "RungMissing") rfl)
    wk := extra cm 9 rfl
    un := extra cm 10 rfl
    tb_law := TB _ (List.mem_map.mpr ⟨("law", none), List.mem_of_getElem? (i := 0) rfl, rfl⟩) }
  exact (ok_law T).imp (spLawT_imp law_true)
end K53
open PySem PySem.W PySem.Calls PyProof.Rows
set_option maxHeartbeats 0 in
theorem PySem.Challenge.cw_rungfields_k53_formulas_written_holds : PySem.Challenge.rw_rungfields_k53_formulas_written.Holds := by
  w_on; o_law; k_head; (case hw => w_witness2)
  case hc =>
    refine LamX.walk_ofTsE (l := PySem.Challenge.rw_rungfields_k53_formulas_written) (n := 63) (k := 172) (x := "_law_script") (CX := fun w => L2.CX PySem.Challenge.rw_rungfields_k53_formulas_written.prog w) rfl (by decide) (by kernel_rfl) ⟨rfl, by decide, by decide⟩ ?F (fun _ _ _ _ _ h => Rg.law_CX' h)
    intro w mg fa h Y G hmg0
    exact Rg.fin_k Y (by kernel_rfl) (by kernel_rfl) (by kernel_rfl) fun KX c => ⟨KX, K53.all_mk KX G hmg0 c (by kernel_rfl) (by kernel_rfl) (by kernel_rfl)⟩
#print axioms PySem.Challenge.cw_rungfields_k53_formulas_written_holds
