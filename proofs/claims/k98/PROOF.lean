import PyProof.Rows.All
import Wide.All
import OpenK.AllK
import Wide.FinOn
import KE.KStateDown
import Lean
import KE.SortData
import HandS.ForMost
import HandS.Exc
import HandS.TryOnly
import HandS.ExcOwn
import HandS.WordsExc
import HandS.ExcInit
import HandS.ExcField
import HandS.ClsMeth
import HandS.Defaults
import HandS.IsInst
import HandS.Deep
import HandS.Strs
import HandS.TupSets
import HandS.Zip
import HandS.Flow
import HandS.Style
import HandS.TupAny
import HandS.DictComp
import HandS.Head0
import HandS.Head1
import HandS.Head2
import HandS.HeadEnd
import HandS.HeadHook1
import HandS.HeadHook2
import HandS.Walk
import HandS.Conv
import HandS.More
import HandS.DeepEq
import PySem.Challenge.RW_evenpieces_k98_whole_rows_of_moves_walke
set_option Elab.async false
set_option linter.all false
set_option maxRecDepth 100000
set_option maxHeartbeats 4000000
namespace Kp
open PySem PySem.Spec PyProof.Rows L2
/-! ### the text by places, what the head tells -/
def top (i : Nat) : Stmt := (PySem.Challenge.pw_evenpieces_k98_whole_rows_of_moves_walke).main.body.getD i (.Pass ⟨0, 0, 0, 0⟩)
def dG (x : Str) (i : Nat) : He.DefD := ⟨(x, none), x, x, defArgs (top i), defBody (top i), defScope (top i), [], []⟩
def dM (c m q : Str) (i j : Nat) : He.DefD := ⟨(c, some m), m, q, defArgs (inClass (top i) j), defBody (inClass (top i) j), defScope (inClass (top i) j), [], []⟩
def fn1 : List He.DefD := [dM "NoMove" "__init__" "NoMove.__init__" 7 0,
  dG "is_whole" 11,
  dG "is_within" 12,
  dG "is_name" 13,
  dG "is_stand" 15,
  dG "sure_stand" 16,
  dG "is_move" 18,
  dG "reason_against" 19,
  dG "judged" 20,
  dG "moved" 21,
  dG "is_hand_row" 25,
  dG "is_pair" 26,
  dG "sorted_pair" 27,
  dG "sure" 28,
  dG "strengths_of" 29,
  dG "pairs_of" 30,
  dM "Web" "__init__" "Web.__init__" 31 0,
  dM "Web" "hands" "Web.hands" 31 1,
  dM "Web" "are_tied" "Web.are_tied" 31 5,
  dG "are_ways" 33]
def fn2 : List He.DefD := [dG "is_piece_row" 34,
  dG "kept_ways" 35,
  dM "Goods" "__init__" "Goods.__init__" 36 0,
  dM "Goods" "check_piece" "Goods.check_piece" 36 1,
  dM "Goods" "names" "Goods.names" 36 2,
  dM "Goods" "may_go" "Goods.may_go" 36 5,
  dG "_law_cell_at" 38,
  dG "_law_digit" 39,
  dG "_law_names" 40,
  dG "_law_web" 41,
  dG "_law_ways" 42,
  dG "_law_pieces" 43,
  dG "_law_stand" 44,
  dG "_law_made" 45,
  dG "_law_reason" 46,
  dG "_law_walked" 47,
  dG "_law_move" 48,
  dG "_law_moved" 49,
  dG "law" 50]
def fn : List He.DefD := fn1 ++ fn2
def fa1 : List He.Fa := [.glo "is_whole", .glo "is_within", .glo "is_name", .glo "is_stand", .glo "sure_stand", .glo "is_move", .glo "reason_against", .glo "judged", .glo "moved", .glo "is_hand_row", .glo "is_pair", .glo "sorted_pair", .glo "sure", .glo "strengths_of", .glo "pairs_of", .glo "are_ways", .glo "is_piece_row", .glo "kept_ways", .glo "_law_cell_at", .glo "_law_digit", .glo "_law_names", .glo "_law_web", .glo "_law_ways", .glo "_law_pieces", .glo "_law_stand", .glo "_law_made", .glo "_law_reason", .glo "_law_walked", .glo "_law_move", .glo "_law_moved"]
def fa2 : List He.Fa := [.free "isinstance", .free "int", .free "bool", .free "str", .free "tuple", .free "list", .free "dict", .free "len", .free "all", .free "sorted", .free "set", .free "range", .free "enumerate", .free "max", .free "min", .int "MOST_WEIGHT" 1000000000, .int "MOST_HANDS" 8, .int "MOST_STRENGTH" 1000, .str "LETTERS" "abcdefghijklmnopqrstuvwxyz", .glo "Web", .glo "Goods", .glo "NoMove", .glo "EvenError", .cls "Web", .cls "Goods", .mkr "Web", .mkr "Goods", .noat "Web" "strong", .noat "Web" "pairs", .noat "Goods" "web", .noat "Goods" "weights", .noat "Goods" "own_ways", .meth "Web" "hands", .meth "Web" "are_tied", .meth "Goods" "check_piece", .meth "Goods" "names", .meth "Goods" "may_go", .exm "NoMove" "NoMove" true, .noat "NoMove" "k", .noat "NoMove" "reason", .glo "law"]
def fa : List He.Fa := fa1 ++ fa2
def lo1 : List Str := ["_wall", "EvenError", "NoWeb", "NoGoods", "NoPiece", "NoStand", "NoMove", "LETTERS", "MOST_WEIGHT", "is_whole", "is_within", "is_name", "is_stand", "sure_stand", "is_move", "reason_against", "judged", "moved", "MOST_HANDS", "MOST_STRENGTH", "is_hand_row", "is_pair", "sorted_pair", "sure", "strengths_of", "pairs_of", "Web", "are_ways", "is_piece_row", "kept_ways"]
def lo2 : List Str := ["Goods", "_law_cell_at", "_law_digit", "_law_names", "_law_web", "_law_ways", "_law_pieces", "_law_stand", "_law_made", "_law_reason", "_law_walked", "_law_move", "_law_moved"]

/-- NoMove, its base EvenError: one Bool -/
def vt : String := "ValueError.__new__"
def oexB (K : PySem.W.Frag) (C : Addr) : Bool := match K.lookup C with
  | some ⟨.type "type", _, .cls cd, sl⟩ => (match cd.mro, sl.toList with
    | .ref C' :: bm, [_, _, _, _, some (.builtin n), _] => (decide (C' = C) && (decide (n = vt) && (!cd.hasDel && (cd.hasDict && PySem.HandSPX.refsVE bm))))
    | _, _ => false)
  | _ => false
def initB (K : PySem.W.Frag) (C : Addr) : Bool := match PySem.W.findCls K (.ref C) (.type "type") "__init__" with
  | some (.val (.builtin n)) => decide (n = "ValueError.__init__")
  | _ => false
abbrev nmC (K : PySem.W.Frag) : Addr := He.ga K "NoMove"
abbrev nmB (K : PySem.W.Frag) : Addr := He.ga K "EvenError"
abbrev nmI (K : PySem.W.Frag) : Addr := He.ma K (nmC K) "__init__"
def ex1 (K : PySem.W.Frag) : Bool := oexB K (nmC K) && (He.eqO (PySem.W.findIn K (.ref (nmC K)) "__setattr__") (some (some (.builtin "object.__setattr__"))) && (decide (PySem.W.subIn K (.ref (nmC K)) (.type "BaseException") = some true)
    && (decide (PySem.W.typeIn K (.ref (nmC K)) = some (.type "type")) && (PySem.W.keepIn K (.ref (nmC K)) && xfB K (nmC K)))))
def ex2 (K : PySem.W.Frag) : Bool := He.eqO (PySem.W.findIn K (.ref (nmC K)) "__init__") (some (some (.ref (nmI K)))) && (decide (PySem.W.typeIn K (.ref (nmI K)) = some (.type "function")) && (PySem.W.readsIn K (nmB K) (.type "type")
    && (He.eqO (PySem.W.specialIn K (.ref (nmB K)) "__getattribute__") (some (some (.builtin "type.__getattribute__"))) && initB K (nmB K))))
def exB (K : PySem.W.Frag) : Bool := ex1 K && ex2 K
/-- what the names reach, and the interpreter's own table -/
def adrs (g : Addr → Option Obj) : Nat → List Addr
  | 0 => [mainGlobals, cStatics]
  | n + 1 => He.growD g (adrs g n)
abbrev Al : Type := He.AlD × Bool
def look (K : PySem.W.Frag) : Al := (He.obsD fa fn K, exB K)
def lookG (g : Addr → Option Obj) : Al := look (He.frG g (adrs g 5))
def Told (K : PySem.W.Frag) : Prop := look K = (He.valD fn, true)
def hk : PySem.W.Hook where
  α := Al
  obs := fun s => lookG s.heap.get?
  val := fun _ => (He.valD fn, true)
  says := fun _ h => ∃ K : PySem.W.Frag, K.In h ∧ Told K
  of := fun _ _ told => ⟨_, He.frG_in, told⟩
  keeps := fun _ _ _ ⟨K, inn, told⟩ k => ⟨K, PySem.W.Frag.In.keeps inn k, told⟩
def ob (s : PySem.W.SharedT) : Al := lookG (HandSHeadRun.getT s)
theorem ob_eq (s : PySem.W.SharedT) : ob s = hk.obs s.abs := by
  have e : HandSHeadRun.getT s = s.abs.heap.get? := funext (HandSHeadRun.getT_eq s)
  show lookG (HandSHeadRun.getT s) = lookG s.abs.heap.get?
  rw [e]
abbrev R : PySem.W.OpenRow := PySem.W.OpenLaw.row PySem.Challenge.rw_evenpieces_k98_whole_rows_of_moves_walke
theorem run (w : World) : HandSHeadRun.RunEq R (PySem.W.view R.prog [50]) hk ob 3600 (lo1 ++ lo2) w := by
  intro os
  kernel_rfl
/-! ### the facts, one by one -/
structure Txt (K : PySem.W.Frag) (mg : Str → Option Value) : Prop where
  told : Told K
  kin : ∃ h : Heap, K.In h ∧ h.Ns mainGlobals mg
section
variable {K : PySem.W.Frag} {mg : Str → Option Value}
theorem Txt.d (T : Txt K mg) : He.SaysD fa fn K := congrArg (fun z : Al => z.1) T.told
theorem Txt.x (T : Txt K mg) : exB K = true := congrArg (fun z : Al => z.2) T.told
theorem Txt.glo (T : Txt K mg) (i : Nat) {x : Str} (h : fa[i]? = some (.glo x) := by rfl) : mg x = some (.ref (He.ga K x)) := by
  obtain ⟨hp, a, b⟩ := T.kin
  exact He.glo_ok a b (T.d.fact i h)
theorem Txt.free (T : Txt K mg) (i : Nat) {x : Str} (h : fa[i]? = some (.free x) := by rfl) : mg x = none := by
  obtain ⟨hp, a, b⟩ := T.kin
  exact He.free_ok a b (T.d.fact i h)
theorem Txt.int (T : Txt K mg) (i : Nat) {x : Str} {z : Int} (h : fa[i]? = some (.int x z) := by rfl) : ∃ t, mg x = some (.int z t) := by
  obtain ⟨hp, a, b⟩ := T.kin
  exact He.int_ok a b (T.d.fact i h)
theorem Txt.str (T : Txt K mg) (i : Nat) {x z : Str} (h : fa[i]? = some (.str x z) := by rfl) : ∃ t, mg x = some (.str z t) := by
  obtain ⟨hp, a, b⟩ := T.kin
  exact He.str_ok a b (T.d.fact i h)
theorem oexB_ok {C : Addr} (h : oexB K C = true) : ∃ nm q N bs bm sn sub ab col dd k0 k1 k2 k3 k5, K.lookup C = some (excClassObj nm q C N bs bm true sn sub ab col dd k0 k1 k2 k3 k5 "ValueError.__new__") ∧ PySem.HandSPX.refsVE bm = true := by
  unfold oexB at h
  split at h
  · rename_i dd cd sl e
    split at h
    · rename_i C' bm k0 k1 k2 k3 n k5 em es
      obtain ⟨h1, h⟩ := He.ba h
      obtain ⟨h2, h⟩ := He.ba h
      obtain ⟨h3, h⟩ := He.ba h
      obtain ⟨h4, h5⟩ := He.ba h
      have e1 : C' = C := of_decide_eq_true h1
      have e2 : n = vt := of_decide_eq_true h2
      obtain ⟨nm, bs, mro, ns, qn, hd, sn, sub, ab, col, del⟩ := cd
      dsimp only at em h3 h4
      subst em e1 e2 h4
      have h3' : del = false := by
        cases del with
        | false => rfl
        | true => cases h3
      subst h3'
      have hs : sl = #[k0, k1, k2, k3, some (.builtin vt), k5] := by
        obtain ⟨l⟩ := sl
        exact congrArg Array.mk es
      subst hs
      exact ⟨nm, qn, ns, bs, bm, sn, sub, ab, col, dd, k0, k1, k2, k3, k5, e, h5⟩
    · cases h
  · cases h
theorem Txt.oex (T : Txt K mg) : OexC K (nmC K) := by
  obtain ⟨h, _⟩ := He.ba T.x
  obtain ⟨h1, h⟩ := He.ba h
  obtain ⟨h2, h⟩ := He.ba h
  obtain ⟨h3, h⟩ := He.ba h
  obtain ⟨h4, h⟩ := He.ba h
  obtain ⟨h5, h6⟩ := He.ba h
  exact ⟨oexB_ok h1, He.eqO_ok h2, of_decide_eq_true h3, of_decide_eq_true h4, h5⟩
theorem Txt.xf (T : Txt K mg) : XfC K (nmC K) := by
  obtain ⟨h, _⟩ := He.ba T.x
  obtain ⟨h1, h⟩ := He.ba h
  obtain ⟨h2, h⟩ := He.ba h
  obtain ⟨h3, h⟩ := He.ba h
  obtain ⟨h4, h⟩ := He.ba h
  obtain ⟨h5, h6⟩ := He.ba h
  exact xfB_ok h6
/-- NoMove's __init__, and what EvenError.__init__ is -/
theorem Txt.nmi (T : Txt K mg) : PySem.W.findIn K (.ref (nmC K)) "__init__" = some (some (.ref (nmI K))) ∧ PySem.W.typeIn K (.ref (nmI K)) = some (.type "function") ∧ PySem.W.readsIn K (nmB K) (.type "type") = true ∧
    PySem.W.specialIn K (.ref (nmB K)) "__getattribute__" = some (some (.builtin "type.__getattribute__")) ∧ PySem.W.findCls K (.ref (nmB K)) (.type "type") "__init__" = some (.val (.builtin "ValueError.__init__")) := by
  obtain ⟨_, h⟩ := He.ba T.x
  obtain ⟨h1, h⟩ := He.ba h
  obtain ⟨h2, h⟩ := He.ba h
  obtain ⟨h3, h⟩ := He.ba h
  obtain ⟨h4, h5⟩ := He.ba h
  refine ⟨He.eqO_ok h1, of_decide_eq_true h2, h3, He.eqO_ok h4, ?_⟩
  unfold initB at h5
  split at h5
  · rename_i n e
    rw [e, of_decide_eq_true h5]
  · cases h5
end
end Kp

namespace L2
open PySem PySem.Spec PyProof.Rows
/-! ### heaps: what is kept -/
/-- all but what stands at a is as it was -/
def But (a : Addr) (H H' : Hp) : Prop := ∀ b o, b ≠ a → H b = some o → H' b = some o
/-- the heap without the addresses of L -/
def Off (L : List Addr) (H : Hp) : Hp := fun b => if b ∈ L then none else H b
theorem off_in {L : List Addr} {H : Hp} {b : Addr} (h : b ∈ L) : Off L H b = none := if_pos h
theorem off_out {L : List Addr} {H : Hp} {b : Addr} (h : ¬ b ∈ L) : Off L H b = H b := if_neg h
theorem off_le (L : List Addr) (H : Hp) : Same (Off L H) H := fun b o e => by
  by_cases h : b ∈ L
  · rw [off_in h] at e
    cases e
  · rw [off_out h] at e
    exact e
/-- all but L is kept -/
def Fro (L : List Addr) (H H' : Hp) : Prop := ∀ b o, ¬ b ∈ L → H b = some o → H' b = some o
theorem Fro.off {L : List Addr} {H H' : Hp} (f : Fro L H H') : Same (Off L H) (Off L H') := fun b o e => by
  by_cases h : b ∈ L
  · rw [off_in h] at e
    cases e
  · rw [off_out h] at e
    rw [off_out h]
    exact f b o h e
theorem Fro.refl (L : List Addr) (H : Hp) : Fro L H H := fun _ _ _ e => e
theorem Fro.trans {L : List Addr} {H H1 H2 : Hp} (a : Fro L H H1) (b : Fro L H1 H2) : Fro L H H2 := fun c o h e => b c o h (a c o h e)
theorem Fro.wide {L M : List Addr} {H H' : Hp} (f : Fro L H H') (h : ∀ b, b ∈ L → b ∈ M) : Fro M H H' := fun b o n e => f b o (fun m => n (h b m)) e
theorem Fro.of (L : List Addr) {H H' : Hp} (s : Same H H') : Fro L H H' := fun b o _ e => s b o e
theorem Fro.put {L : List Addr} {H : Hp} {a : Addr} {o : HO} (h : a ∈ L) : Fro L H (upd H a o) := fun b u n e => by
  rw [upd_ne fun z => n (by rw [z]; exact h)]
  exact e
theorem Fro.new (L : List Addr) {H : Hp} {p : Addr} {o : HO} (h : H p = none) : Fro L H (upd H p o) := fun b u _ e => by
  rw [upd_ne (ne_of_none e h)]
  exact e
theorem But.fro {a : Addr} {H H' : Hp} (f : But a H H') : Fro [a] H H' := fun b o n e => f b o (fun z => n (by rw [z]; exact List.mem_singleton.mpr rfl)) e
theorem But.refl (a : Addr) (H : Hp) : But a H H := fun _ _ _ e => e
theorem But.trans {a : Addr} {H H1 H2 : Hp} (f : But a H H1) (g : But a H1 H2) : But a H H2 := fun b o n e => g b o n (f b o n e)
theorem But.of (a : Addr) {H H' : Hp} (s : Same H H') : But a H H' := fun b o _ e => s b o e
theorem But.put {a : Addr} {H : Hp} {o : HO} : But a H (upd H a o) := fun b u n e => by
  rw [upd_ne n]
  exact e
theorem But.new (a : Addr) {H : Hp} {p : Addr} {o : HO} (h : H p = none) : But a H (upd H p o) := fun b u _ e => by
  rw [upd_ne (ne_of_none e h)]
  exact e
/-- behind such a step the settled part still stands -/
theorem But.same {a : Addr} {S H H' : Hp} (f : But a H H') (s : Same S H) (h : S a = none) : Same S H' := fun b o e => f b o (ne_of_none e h) (s b o e)
theorem same_new {H : Hp} {p : Addr} {o : HO} (h : H p = none) : Same H (upd H p o) := fun b u e => by
  rw [upd_ne (ne_of_none e h)]
  exact e
/-- a new object at p, then p again -/
theorem same_put {S H : Hp} {p : Addr} {o : HO} (s : Same S H) (h : S p = none) : Same S (upd H p o) := fun b u e => by
  rw [upd_ne (ne_of_none e h)]
  exact s b u e
theorem none_back {S H : Hp} {p : Addr} (s : Same S H) (h : H p = none) : S p = none := s.free h
theorem sqt_up {K : PySem.W.Frag} {H H' : Hp} {a : Addr} {xs : List V} (e : Same H H') (h : SqT K H a xs) : SqT K H' a xs := by
  rcases h with (h | ⟨o, h⟩) | h
  · exact .inl (.inl (e _ _ h))
  · exact .inl (.inr ⟨o, e _ _ h⟩)
  · exact .inr h
/-- a pair of texts: a tuple, or one whose object is known to have no dict -/
inductive PrO : HO → Str → Str → Prop
  | tup {x y : Str} : PrO (.tup [.str x, .str y]) x y
  | frz {ob : Obj} {x y : Str} : ob.dict = none → PrO (.frz ob (.tup [.str x, .str y])) x y
theorem PrO.sq {K : PySem.W.Frag} {H : Hp} {a : Addr} {o : HO} {x y : Str} (p : PrO o x y) (h : H a = some o) : SqT K H a [.str x, .str y] := by
  cases p with
  | tup => exact .of h
  | frz d => exact .inl (.inr ⟨_, h⟩)
theorem PrO.ty {K : PySem.W.Frag} {H : Hp} {a : Addr} {o : HO} {x y : Str} (p : PrO o x y) (h : H a = some o) : TyX K H (.ref a) (.type "tuple") := by
  cases p with
  | tup => exact .base (.tup h)
  | frz d => exact .fTuple h
theorem PrO.no {o u : HO} {x y : Str} (p : PrO o x y) (h1 : ∀ xs, u ≠ .tup xs) (h2 : ∀ b v, u ≠ .frz b v) : o ≠ u := fun e => by
  cases p with
  | tup => exact h1 _ e.symm
  | frz d => exact h2 _ _ e.symm
/-! ### data on the heap, all of it tracked -/
mutual
inductive Dt (H : Hp) : V → PyData → Prop
  | non : Dt H .non .none
  | bl (b : Bool) : Dt H (.bl b) (.bool b)
  | int (i : Int) : Dt H (.int i) (.int i)
  | str (x : Str) : Dt H (.str x) (.str x)
  | lst {a : Addr} {xs : List V} {ds : List PyData} : H a = some (.lst xs) → DtAll H xs ds → Dt H (.ref a) (.list ds)
  | tup {a : Addr} {xs : List V} {ds : List PyData} : H a = some (.tup xs) → DtAll H xs ds → Dt H (.ref a) (.tuple ds)
  | pr {a : Addr} {ob : Obj} {x y : Str} : ob.dict = none → H a = some (.frz ob (.tup [.str x, .str y])) → Dt H (.ref a) (.tuple [.str x, .str y])
inductive DtAll (H : Hp) : List V → List PyData → Prop
  | nil : DtAll H [] []
  | cons {v : V} {vs : List V} {d : PyData} {ds : List PyData} : Dt H v d → DtAll H vs ds → DtAll H (v :: vs) (d :: ds)
end
section
variable {K : PySem.W.Frag} {H H' : Hp}
mutual
theorem Dt.up (s : Same H H') : ∀ {d : PyData} {v : V}, Dt H v d → Dt H' v d
  | .none, _, h => by
    cases h
    exact .non
  | .bool b, _, h => by
    cases h
    exact .bl b
  | .int i, _, h => by
    cases h
    exact .int i
  | .str x, _, h => by
    cases h
    exact .str x
  | .list ds, _, h => by
    cases h with
    | lst q r => exact .lst (s _ _ q) (DtAll.up s r)
  | .tuple ds, _, h => by
    cases h with
    | tup q r => exact .tup (s _ _ q) (DtAll.up s r)
    | pr d q => exact .pr d (s _ _ q)
  | .dict _, _, h => by cases h
theorem DtAll.up (s : Same H H') : ∀ {ds : List PyData} {vs : List V}, DtAll H vs ds → DtAll H' vs ds
  | [], _, h => by
    cases h
    exact .nil
  | d :: ds, _, h => by
    cases h with
    | cons a b => exact .cons (Dt.up s a) (DtAll.up s b)
end
theorem DtAll.len : ∀ {ds : List PyData} {vs : List V}, DtAll H vs ds → vs.length = ds.length
  | [], _, h => by
    cases h
    rfl
  | d :: ds, _, h => by
    cases h with
    | cons a b => rw [List.length_cons, List.length_cons, DtAll.len b]
theorem DtAll.get : ∀ {ds : List PyData} {vs : List V} {i : Nat} {x : V}, DtAll H vs ds → vs[i]? = some x → ∃ d, ds[i]? = some d ∧ Dt H x d
  | [], _, i, x, h, e => by
    cases h
    simp at e
  | d :: ds, _, 0, x, h, e => by
    cases h with
    | cons a b =>
      have e2 := Option.some.inj e
      subst e2
      exact ⟨d, rfl, a⟩
  | d :: ds, _, i + 1, x, h, e => by
    cases h with
    | cons a b => exact DtAll.get (i := i) b e
theorem DtAll.at_ {ds : List PyData} {vs : List V} {i : Nat} {d : PyData} (h : DtAll H vs ds) (e : ds[i]? = some d) : ∃ x, vs[i]? = some x ∧ Dt H x d := by
  have hi : i < vs.length := by
    rw [h.len]
    exact (List.getElem?_eq_some_iff.mp e).1
  obtain ⟨d', e', q⟩ := h.get (List.getElem?_eq_getElem hi)
  rw [e] at e'
  exact ⟨_, List.getElem?_eq_getElem hi, by rw [Option.some.inj e']; exact q⟩
theorem DtAll.snoc : ∀ {ds : List PyData} {vs : List V} {v : V} {d : PyData}, DtAll H vs ds → Dt H v d → DtAll H (vs ++ [v]) (ds ++ [d])
  | [], _, v, d, h, q => by
    cases h
    exact .cons q .nil
  | d0 :: ds, _, v, d, h, q => by
    cases h with
    | cons a b => exact .cons a (DtAll.snoc b q)
theorem DtAll.app : ∀ {ds es : List PyData} {vs us : List V}, DtAll H vs ds → DtAll H us es → DtAll H (vs ++ us) (ds ++ es)
  | [], es, _, us, h, q => by
    cases h
    exact q
  | d0 :: ds, es, _, us, h, q => by
    cases h with
    | cons a b => exact .cons a (DtAll.app b q)
theorem DtAll.drop : ∀ {ds : List PyData} {vs : List V} (n : Nat), DtAll H vs ds → DtAll H (vs.drop n) (ds.drop n)
  | _, _, 0, h => h
  | [], _, n + 1, h => by
    cases h
    exact .nil
  | d :: ds, _, n + 1, h => by
    cases h with
    | cons a b => exact DtAll.drop n b
theorem DtAll.take : ∀ {ds : List PyData} {vs : List V} (n : Nat), DtAll H vs ds → DtAll H (vs.take n) (ds.take n)
  | _, _, 0, _ => by
    rw [List.take_zero, List.take_zero]
    exact .nil
  | [], _, n + 1, h => by
    cases h
    exact .nil
  | d :: ds, _, n + 1, h => by
    cases h with
    | cons a b => exact .cons a (DtAll.take n b)
theorem DtAll.strs : ∀ {xs : List Str}, DtAll H (xs.map V.str) (xs.map PyData.str)
  | [] => .nil
  | x :: xs => .cons (.str x) DtAll.strs
theorem DtAll.bools : ∀ {bs : List Bool} {vs : List V}, DtAll H vs (bs.map PyData.bool) → vs = bs.map V.bl
  | [], _, h => by
    cases h
    rfl
  | b :: bs, _, h => by
    cases h with
    | cons a c =>
      cases a
      rw [List.map_cons, DtAll.bools c]
theorem Dt.list_inv {l : Addr} {ds : List PyData} (h : Dt H (.ref l) (.list ds)) : ∃ xs, H l = some (.lst xs) ∧ DtAll H xs ds := by
  cases h with
  | lst q r => exact ⟨_, q, r⟩
theorem Dt.list_inv' {v : V} {ds : List PyData} (h : Dt H v (.list ds)) : ∃ l xs, v = .ref l ∧ H l = some (.lst xs) ∧ DtAll H xs ds := by
  cases h with
  | lst q r => exact ⟨_, _, rfl, q, r⟩
theorem Dt.tup_inv {v : V} {ds : List PyData} (h : Dt H v (.tuple ds)) (n : ∀ x y, ds ≠ [.str x, .str y]) : ∃ t xs, v = .ref t ∧ H t = some (.tup xs) ∧ DtAll H xs ds := by
  cases h with
  | tup q r => exact ⟨_, _, rfl, q, r⟩
  | pr d q => exact absurd rfl (n _ _)
theorem Dt.bools {l : Addr} {bs : List Bool} (h : Dt H (.ref l) (.list (bs.map PyData.bool))) : SqL K H l (bs.map V.bl) := by
  obtain ⟨xs, q, r⟩ := h.list_inv
  rw [← DtAll.bools r]
  exact .of q
mutual
theorem Dt.dp : ∀ {d : PyData} {v : V}, Dt H v d → Dp K H v d
  | .none, _, h => by
    cases h
    exact .non
  | .bool b, _, h => by
    cases h
    exact .bl b
  | .int i, _, h => by
    cases h
    exact .int i
  | .str x, _, h => by
    cases h
    exact .str x
  | .list ds, _, h => by
    cases h with
    | lst q r => exact .lst (SqL.of q) (DtAll.dp r)
  | .tuple ds, _, h => by
    cases h with
    | tup q r => exact .tup (SqT.of q) (DtAll.dp r)
    | pr d q => exact .tup (.inl (.inr ⟨_, q⟩)) (.cons (.str _) (.cons (.str _) .nil))
  | .dict _, _, h => by cases h
theorem DtAll.dp : ∀ {ds : List PyData} {vs : List V}, DtAll H vs ds → DpAll K H vs ds
  | [], _, h => by
    cases h
    exact .nil
  | d :: ds, _, h => by
    cases h with
    | cons a b => exact .cons (Dt.dp a) (DtAll.dp b)
end
theorem take_snoc {α : Type} {l : List α} {i : Nat} {x : α} (h : l[i]? = some x) : l.take (i + 1) = l.take i ++ [x] := by
  rw [List.take_succ, h]
  rfl
end
/-! ### a comprehension without tests whose elements change nothing -/
section
variable {J : It} {n : Nat} {G : Hp → Prop} {Y : Nat → Hp → V → Hp → Prop} {g : TG} {te : TE} {vs : List Nat} {σ : L2.St} {H1 : Hp} {D : Addr} {Qd : Hp → Prop}
theorem lc_data (w : Walk J n G Y) (ds : List PyData) (hn : ds.length = n) (hz : n < sizeLine) (hD : H1 D = none) (hG : ∀ H, Same H1 H → G H)
    (hs : ∀ (i : Nat) (x : V) (d : PyData) (H H' : Hp) (R : VK), i < n → ds[i]? = some d → Same H1 H → H D ≠ none → Y i H x H' → (∀ z H'', Same H H'' → Dt (Off [D] H'') z d → R z H'') →
      g x (wipe σ vs) H' fun σ2 H2 => wipe σ2 vs = wipe σ vs ∧ te σ2 H2 R)
    (hd : ∀ H', Same H1 H' → Dt H' (.ref D) (.list ds) → Qd H') :
    ∃ W : Nat → Nat → Hp → Prop, (∃ m, W 0 m (upd H1 D (.lst []))) ∧ ∀ i m H, W i m H →
      (J.stop i H ∧ Qd H) ∨ (J.go i H ∧ ∃ Nx : Hp → Prop, (∀ H', Nx H' → ∃ m', m' < m ∧ W (i + 1) m' H') ∧ ∀ x H', J.yld i H x H' → g x (wipe σ vs) H' fun σ2 H2 => wipe σ2 vs = wipe σ vs ∧ tYes σ2 H2 fun b H3 =>
        if b = true then te σ2 H3 fun y H4 => ∃ acc, H4 D = some (.lst acc) ∧ acc.length < sizeLine ∧ Nx (upd H4 D (.lst (acc ++ [y]))) else Nx H3) := by
  refine lc_it (tt := tYes) w (fun i H => Same H1 H ∧ ∃ acc, H D = some (.lst acc) ∧ DtAll (Off [D] H) acc (ds.take i)) ?_ (fun i H _ p => hG H p.1) ?_ ?_
  · refine ⟨same_new hD, [], upd_same, ?_⟩
    rw [List.take_zero]
    exact .nil
  · intro i x H H' hi p y
    obtain ⟨s1, acc, hacc, dp⟩ := p
    obtain ⟨d, hd'⟩ : ∃ d, ds[i]? = some d := ⟨ds[i]'(by omega), List.getElem?_eq_getElem (by omega)⟩
    have key := hs i x d H H' (fun y H4 => ∃ acc, H4 D = some (.lst acc) ∧ acc.length < sizeLine ∧ (Same H1 (upd H4 D (.lst (acc ++ [y]))) ∧ ∃ acc2, upd H4 D (.lst (acc ++ [y])) D = some (.lst acc2) ∧ DtAll (Off [D] (upd H4 D (.lst (acc ++ [y])))) acc2 (ds.take (i + 1))))
      hi hd' s1 (by rw [hacc]; intro z; cases z) y (fun z H4 s4 q => by
        have e4 := s4 D _ hacc
        have hl : acc.length = i := by
          rw [dp.len, List.length_take]
          omega
        refine ⟨acc, e4, by omega, same_put (s1.trans s4) hD, acc ++ [z], upd_same, ?_⟩
        have eo : Off [D] (upd H4 D (.lst (acc ++ [z]))) = Off [D] H4 := by
          funext b
          by_cases hb : b ∈ [D]
          · rw [off_in hb, off_in hb]
          · rw [off_out hb, off_out hb, upd_ne fun z => hb (by rw [z]; exact List.mem_singleton.mpr rfl)]
        rw [eo, take_snoc hd']
        exact (dp.up (Fro.of [D] s4).off).snoc q)
    have e : (fun (σ2 : L2.St) (H2 : Hp) => wipe σ2 vs = wipe σ vs ∧ tYes σ2 H2 fun b H3 => if b = true then te σ2 H3 (fun y H4 => ∃ acc, H4 D = some (.lst acc) ∧ acc.length < sizeLine ∧ (Same H1 (upd H4 D (.lst (acc ++ [y]))) ∧ ∃ acc2, upd H4 D (.lst (acc ++ [y])) D = some (.lst acc2) ∧ DtAll (Off [D] (upd H4 D (.lst (acc ++ [y])))) acc2 (ds.take (i + 1)))) else (Same H1 H3 ∧ ∃ acc2, H3 D = some (.lst acc2) ∧ DtAll (Off [D] H3) acc2 (ds.take (i + 1))))
        = fun σ2 H2 => wipe σ2 vs = wipe σ vs ∧ te σ2 H2 (fun y H4 => ∃ acc, H4 D = some (.lst acc) ∧ acc.length < sizeLine ∧ (Same H1 (upd H4 D (.lst (acc ++ [y]))) ∧ ∃ acc2, upd H4 D (.lst (acc ++ [y])) D = some (.lst acc2) ∧ DtAll (Off [D] (upd H4 D (.lst (acc ++ [y])))) acc2 (ds.take (i + 1)))) := by
      funext σ2 H2
      simp only [tYes, if_true]
    rw [e]
    exact key
  · intro H p
    obtain ⟨s1, acc, hacc, dp⟩ := p
    rw [List.take_of_length_le (by omega)] at dp
    exact hd H s1 (.lst hacc (dp.up (off_le _ _)))
end
end L2
namespace Kp
open PySem PySem.Spec PyProof.Rows L2
/-! ### a def of the text and its promise -/
abbrev FnP (K : PySem.W.Frag) (x qual : Str) (st : Stmt) (f : Addr) (fd : FuncData) : Prop := FunD K x qual (defArgs st) (defBody st) (defScope st) [] [] f fd
section
variable {P : Program} {w : World} {K : PySem.W.Frag} {mg : Str → Option Value} {base : Heap}
theorem def_ok {x qual : Str} {st : Stmt} {f : Addr} {fd : FuncData} {N ps : List Str} {k : Nat} {sp : Sp} (F : FnP K x qual st f fd) (S : FnScope N ps (defScope st)) (len : ∀ vs H Q E, sp vs H Q E → vs.length = ps.length)
    (body : ∀ (cdv : Value) (A : Around) (outer : List Env) (s : Shared) (H : Hp) (vs : List V) (Q : VK) (E : XK), Room k (A.deeper (envOfC qual (defScope st) s.heap.objs.size f cdv)) → sp vs H Q E →
      ∃ t, PSs (cxOf CX0 P w K mg base N qual (defScope st) f cdv A outer s H E).nox (defBody st) t ∧ t { nx := fun _ H' => Q .non H', rt := Q } (start N vs) H) : FnOk P w K mg base CX0 (k + 1) f fd ps sp :=
  F.ok S len fun cdv A outer s H vs Q E hr h => by
    obtain ⟨t, a, b⟩ := body cdv A outer s H vs Q E hr h
    exact ⟨t, a.nox, b⟩
/-- a def of the top, called by its name -/
structure Gn (P : Program) (w : World) (K : PySem.W.Frag) (mg : Str → Option Value) (base : Heap) (CX : CXT) (k : Nat) (x : Str) (ps : List Str) (sp : Sp) : Prop where
  ok : ∃ fd, FnOk P w K mg base CX k (He.ga K x) fd ps sp ∧ Binds K fd ps []
  at_ : mg x = some (.ref (He.ga K x))
  kp : PySem.W.keepIn K (.ref (He.ga K x)) = true
/-- a method of a class of the top -/
structure Mn (P : Program) (w : World) (K : PySem.W.Frag) (mg : Str → Option Value) (base : Heap) (CX : CXT) (k : Nat) (c m : Str) (ps : List Str) (sp : Sp) : Prop where
  ok : ∃ fd, FnOk P w K mg base CX k (He.ma K (He.ga K c) m) fd ps sp ∧ Binds K fd ps []
end
section
variable {X : Cx} {CX : CXT} {k j : Nat} {x : Str} {ps : List Str} {sp : Sp} {E : XK} {p pos : Pos} {e : Expr} {es : List Expr} {t : TA}
theorem pe_g (G : Gn X.prog X.w X.K X.mg X.base CX k x ps sp) (hr : Room j X.A) (ha : PA X (e :: es) t) (hx : Passes CX X E) (hk : k ≤ j := by decide) (hg : Gl X x := by rfl) (hdb : (x == ("__debug__" : Str)) = false := by decide)
    (he : starEach (e :: es) X.env = (false, eval e X.env) :: starEach es X.env := by rfl) (hpl : (backTo pos (starEach es X.env)).any (·.1) = false := by rfl) : PE X (.Call (.Name x p) (e :: es) [] pos) (tCall sp [] E t) := by
  obtain ⟨fd, F, b⟩ := G.ok
  exact pe_call F (hr.mono hk) hg G.at_ G.kp b .nil hx ha hdb he hpl
end
end Kp
namespace Kp
open PySem PySem.Spec PyProof.Rows L2
/-! ### isinstance of a built-in class -/
theorem ki_ss : kitB "str" "str" = some true := by decide +kernel
theorem ki_is : kitB "int" "str" = some false := by decide +kernel
theorem ki_ii : kitB "int" "int" = some true := by decide +kernel
theorem ki_ib : kitB "int" "bool" = some false := by decide +kernel
theorem ki_tt : kitB "tuple" "tuple" = some true := by decide +kernel
theorem ki_lt : kitB "list" "tuple" = some false := by decide +kernel
theorem ki_nt : kitB "NoneType" "tuple" = some false := by decide +kernel
theorem ki_ll : kitB "list" "list" = some true := by decide +kernel
theorem ki_dd : kitB "dict" "dict" = some true := by decide +kernel
def rIsiB (K : PySem.W.Frag) (ty : String) : List V → Hp → VK → Prop := fun xs H Q => ∃ (x : V) (t : String) (b : Bool), xs = [x, .ty ty] ∧ TyX K H x (.type t) ∧ kitB t ty = some b ∧ Q (.bl b) H
theorem boot_isi : bootBuiltins "isinstance" = some (.builtin "isinstance") := by decide +kernel
theorem boot_strT : bootBuiltins "str" = some (.type "str") := by decide +kernel
theorem boot_intT : bootBuiltins "int" = some (.type "int") := by decide +kernel
theorem boot_boolT : bootBuiltins "bool" = some (.type "bool") := by decide +kernel
theorem boot_tupleT : bootBuiltins "tuple" = some (.type "tuple") := by decide +kernel
theorem boot_listT : bootBuiltins "list" = some (.type "list") := by decide +kernel
theorem boot_dictT : bootBuiltins "dict" = some (.type "dict") := by decide +kernel
theorem boot_setT : bootBuiltins "set" = some (.type "set") := by decide +kernel
theorem boot_allB : bootBuiltins "all" = some (.builtin "all") := by decide +kernel
theorem boot_sortedB : bootBuiltins "sorted" = some (.builtin "sorted") := by decide +kernel
theorem boot_maxB : bootBuiltins "max" = some (.builtin "max") := by decide +kernel
theorem boot_minB : bootBuiltins "min" = some (.builtin "min") := by decide +kernel
section
variable {X : Cx} {e : Expr} {te : TE} {tyn : Str} {ty : String} {p p2 pos : Pos}
theorem cr_isi : CallR X (.builtin "isinstance") (rIsiB X.K ty) := by
  intro pins s σ H xs us Q I r h
  obtain ⟨x, t, b, e, h1, h2, q⟩ := h
  exact call_isi pins s σ H xs us Q I r ⟨x, .ty ty, .type t, .type ty, b, e, .ty _, h1, kit_ty h2, q⟩
theorem pe_isi (hm : X.mg "isinstance" = none) (hm2 : X.mg tyn = none) (hv : bootBuiltins tyn = some (.type ty)) (he : PE X e te) (hn : tyn ≠ "__name__" := by decide) (hdb : (tyn == ("__debug__" : Str)) = false := by decide)
    (hg : Gl X "isinstance" := by rfl) (hg2 : Gl X tyn := by rfl) (hs : starEach [e, .Name tyn p2] X.env = (false, eval e X.env) :: starEach [.Name tyn p2] X.env := by rfl)
    (hs2 : starEach [.Name tyn p2] X.env = (false, eval (.Name tyn p2) X.env) :: starEach [] X.env := by rfl) (hpl : (backTo pos (starEach [.Name tyn p2] X.env)).any (·.1) = false := by rfl) :
    PE X (.Call (.Name "isinstance" p) [e, .Name tyn p2] [] pos) (tCB (rIsiB X.K ty) (tCons te (tCons (tC (.ty ty)) tNil))) :=
  pe_callB cr_isi hg hm boot_isi (pa_cons he (pa_cons (pe_bltn (v := .ty ty) hg2 hm2 hv rfl hn hdb) pa_nil hs2) hs) (by decide) (by decide) hs hpl
end
/-! ### an if, an answer that is known -/
theorem iteB {b : Bool} {A B : Prop} (h : b = true) (a : A) : if b = true then A else B := by
  rw [if_pos h]
  exact a
theorem iteC {b : Bool} {A B : Prop} (h : b = false) (a : B) : if b = true then A else B := by
  rw [h]
  exact iteF a
theorem q_true {Q : VK} {c : Prop} [Decidable c] {H : Hp} (h : c) (k : Q (.bl true) H) : Q (.bl (decide c)) H := by
  rw [decide_eq_true h]
  exact k
theorem q_false {Q : VK} {c : Prop} [Decidable c] {H : Hp} (h : ¬ c) (k : Q (.bl false) H) : Q (.bl (decide c)) H := by
  rw [decide_eq_false h]
  exact k
theorem q_eq {Q : VK} {a b : Bool} {H : Hp} (h : a = b) (k : Q (.bl b) H) : Q (.bl a) H := by
  rw [h]
  exact k
theorem line_of {n : Nat} (h : n ≤ 1000) : n ≤ sizeLine := Nat.le_of_lt (small1000 h)
/-! ### names, numbers -/
def lets : Str := "abcdefghijklmnopqrstuvwxyz"
/-- a name: one to eight small letters -/
structure Nm (x : Str) : Prop where
  lo : 1 ≤ x.length
  hi : x.length ≤ 8
  ok : ∀ c ∈ x.cps.toList, c ∈ lets.cps.toList
def spWhole : Sp := fun vs H Q _ => ∃ i : Int, vs = [.int i] ∧ Q (.bl true) H
def spWithin : Sp := fun vs H Q _ => ∃ i lo hi : Int, vs = [.int i, .int lo, .int hi] ∧ lo ≤ i ∧ i ≤ hi ∧ Q (.bl true) H
def spName : Sp := fun vs H Q _ => ∃ x : Str, vs = [.str x] ∧ Nm x ∧ ∀ H', Same H H' → Q (.bl true) H'
section
variable {P : Program} {w : World} {K : PySem.W.Frag} {mg : Str → Option Value} {base : Heap}
theorem scWhole : FnScope ["thing"] ["thing"] (defScope (top 11)) := ⟨rfl, rfl, rfl, by decide +kernel, rfl, by decide +kernel, by decide +kernel⟩
theorem ok_whole {f : Addr} {fd : FuncData} (F : FnP K "is_whole" "is_whole" (top 11) f fd) (T : Txt K mg) : FnOk P w K mg base CX0 1 f fd ["thing"] spWhole := by
  refine def_ok F scWhole (fun vs H Q E h => ?_) (fun cdv A outer s H vs Q E hr h => ?_)
  · obtain ⟨i, rfl, _⟩ := h
    rfl
  · obtain ⟨i, rfl, k⟩ := h
    refine ⟨_, pss_one (ps_ret (pe_and (pe_isi (T.free 30) (T.free 31) boot_intT (pv 0)) (pe_one (pe_not (pe_isi (T.free 30) (T.free 32) boot_boolT (pv 0)))))), ?_⟩
    refine ⟨_, rfl, .int i, "int", true, rfl, .base (.int i), ki_ii, true, rfl, iteT ?_⟩
    exact ⟨_, rfl, .int i, "int", false, rfl, .base (.int i), ki_ib, false, rfl, k⟩
theorem scWithin : FnScope ["thing", "low", "high"] ["thing", "low", "high"] (defScope (top 12)) := ⟨rfl, rfl, rfl, by decide +kernel, rfl, by decide +kernel, by decide +kernel⟩
theorem ok_within {f : Addr} {fd : FuncData} (F : FnP K "is_within" "is_within" (top 12) f fd) (GW : Gn P w K mg base CX0 1 "is_whole" ["thing"] spWhole) : FnOk P w K mg base CX0 2 f fd ["thing", "low", "high"] spWithin := by
  refine def_ok F scWithin (fun vs H Q E h => ?_) (fun cdv A outer s H vs Q E hr h => ?_)
  · obtain ⟨i, lo, hi, rfl, _⟩ := h
    rfl
  · obtain ⟨i, lo, hi, rfl, h1, h2, k⟩ := h
    refine ⟨_, pss_one (ps_ret (pe_and (pe_g GW hr (pa_cons (pv 0) pa_nil) pass0) (pe_one (pe_chain op_le op_le (pv 1) (pv 0) (pv 2))))), ?_⟩
    refine ⟨_, rfl, i, rfl, true, rfl, iteT ?_⟩
    refine ⟨_, rfl, _, rfl, _, _, rfl, rfl, _, rfl, ?_⟩
    exact iteB (decide_eq_true h1) ⟨_, rfl, _, _, rfl, rfl, q_true h2 k⟩
/-- thing is a name: all its signs are letters -/
theorem scName : FnScope ["thing", "sign"] ["thing"] (defScope (top 13)) := ⟨rfl, rfl, rfl, by decide +kernel, rfl, by decide +kernel, by decide +kernel⟩
theorem ok_name {f : Addr} {fd : FuncData} (F : FnP K "is_name" "is_name" (top 13) f fd) (T : Txt K mg) : FnOk P w K mg base CX0 1 f fd ["thing"] spName := by
  obtain ⟨tl, hl⟩ := T.str 48
  refine def_ok F scName (fun vs H Q E h => ?_) (fun cdv A outer s H vs Q E hr h => ?_)
  · obtain ⟨x, rfl, _⟩ := h
    rfl
  · obtain ⟨x, rfl, hx, k⟩ := h
    refine ⟨_, pss_cons (ps_if (PW.pt (pw_or (pt_not (pt_val (pe_isi (T.free 30) (T.free 33) boot_strT (pv 0)))) (pw_or1 (pt_not (pt_chain op_le op_le pe_int (pe_callB call_len (by rfl) (T.free 37) PySem.boot_len (pa_cons (pv 0) pa_nil)) pe_int)))))
        (pss_one (ps_ret pe_bl)) pss_nil)
      (pss_one (ps_ret (pe_callB (cr_all rfl) (by rfl) (T.free 38) boot_allB (pa_cons (pe_lc (own := [("sign", 1)]) (g := gName 1) (tt := tYes) rfl scName.nd (pi_str (pv 0))
        (blkOk_by (N := ["thing", "sign"]) (sc := defScope (top 13)) (by decide +kernel)) (fun _ _ _ _ _ => pg_name (i := 1) scName.nd rfl (Or.inl rfl)) (fun _ _ _ _ _ => pts_nil)
        (fun _ _ _ _ _ => pe_cmpR op_in_sign (pv 1) (pe_glob (v := .str lets) (by rfl) hl ⟨_, rfl⟩) (by rfl))) pa_nil)))), ?_⟩
    refine ⟨_, rfl, .str x, "str", true, rfl, .base (.str x), ki_ss, true, rfl, iteF ?_⟩
    refine ⟨_, rfl, .str x, x.length, rfl, ⟨line_of (by have := hx.hi; omega), rfl⟩, _, _, rfl, rfl, _, rfl, iteB (decide_eq_true (by have := hx.lo; omega)) ⟨_, _, rfl, rfl, _, rfl, ?_⟩⟩
    refine iteC (by rw [decide_eq_true (show (x.length : Int) ≤ 8 by have := hx.hi; omega)]; rfl) ?_
    refine ⟨_, rfl, x, rfl, fun D hD => ?_⟩
    refine lc_data walk_str ((List.replicate x.cps.size true).map PyData.bool) (by rw [List.length_map, List.length_replicate]) (small1000 (by have := hx.hi; show x.length ≤ 1000; omega)) hD (fun _ _ => trivial) ?_ ?_
    · rintro i v d H1 H2 R hi hd s1 hn ⟨rfl, c, hc, rfl⟩ kk
      have ed : d = PyData.bool true := by
        rw [List.getElem?_map, List.getElem?_replicate, if_pos hi] at hd
        exact (Option.some.inj hd).symm
      subst ed
      refine ⟨rfl, _, rfl, c, lets, rfl, rfl, ?_⟩
      have hm : c ∈ lets.cps.toList := hx.ok c (Array.mem_toList_iff.mpr (Array.mem_of_getElem? hc))
      exact q_true hm (kk _ _ (Same.refl _) (.bl true))
    · intro H' s1 dp
      refine ⟨D, List.replicate x.cps.size true, rfl, dp.bools, q_eq ?_ (k _ s1)⟩
      exact List.all_eq_true.mpr fun b hb => (List.mem_replicate.mp hb).2
end
end Kp
namespace Kp
open PySem PySem.Spec PyProof.Rows L2
/-! ### pairs of texts, the lesser one first -/
abbrev Pr := Str × Str
theorem str_ext {x y : Str} (h : x.cps.toList = y.cps.toList) : x = y := by
  obtain ⟨a⟩ := x
  obtain ⟨b⟩ := y
  exact congrArg Str.mk (Array.ext' h)
theorem lt_tri : ∀ a b : List Nat, ltCps a b = false → ltCps b a = false → a = b
  | [], [], _, _ => rfl
  | [], _ :: _, h, _ => by cases h
  | _ :: _, [], _, h => by cases h
  | x :: r, y :: t, h1, h2 => by
    unfold ltCps at h1 h2
    rw [Bool.or_eq_false_iff] at h1 h2
    have hx : ¬ x < y := of_decide_eq_false h1.1
    have hy : ¬ y < x := of_decide_eq_false h2.1
    have e : x = y := by omega
    subst e
    have q1 : ltCps r t = false := by simpa using h1.2
    have q2 : ltCps t r = false := by simpa using h2.2
    rw [lt_tri r t q1 q2]
theorem lt_anti : ∀ a b : List Nat, ltCps a b = true → ltCps b a = false
  | [], [], h => by cases h
  | [], _ :: _, _ => rfl
  | _ :: _, [], h => by cases h
  | x :: r, y :: t, h => by
    unfold ltCps at h ⊢
    rw [Bool.or_eq_true] at h
    rw [Bool.or_eq_false_iff]
    rcases h with h | h
    · have hx : x < y := of_decide_eq_true h
      refine ⟨decide_eq_false (by omega), ?_⟩
      have e : (y == x) = false := beq_eq_false_iff_ne.mpr (by omega)
      rw [e, Bool.false_and]
    · rw [Bool.and_eq_true, beq_iff_eq] at h
      obtain ⟨rfl, h⟩ := h
      refine ⟨decide_eq_false (by omega), ?_⟩
      rw [lt_anti r t h, Bool.and_false]
def sP (t : Pr) : Pr := if ltCps t.2.cps.toList t.1.cps.toList = true then (t.2, t.1) else t
def sw (t : Pr) : Pr := (t.2, t.1)
theorem sP_or (t : Pr) : sP t = t ∨ sP t = sw t := by
  unfold sP
  by_cases h : ltCps t.2.cps.toList t.1.cps.toList = true
  · rw [if_pos h]
    exact .inr rfl
  · rw [if_neg h]
    exact .inl rfl
theorem sP_sw (t : Pr) : sP (sw t) = sP t := by
  unfold sP
  show (if ltCps t.1.cps.toList t.2.cps.toList = true then (t.1, t.2) else sw t) = _
  by_cases h : ltCps t.1.cps.toList t.2.cps.toList = true
  · rw [if_pos h, lt_anti _ _ h, if_neg Bool.false_ne_true]
  · rw [if_neg h]
    have h1 : ltCps t.1.cps.toList t.2.cps.toList = false := by simpa using h
    by_cases h2 : ltCps t.2.cps.toList t.1.cps.toList = true
    · rw [if_pos h2]
      rfl
    · rw [if_neg h2]
      have h3 : ltCps t.2.cps.toList t.1.cps.toList = false := by simpa using h2
      have e := str_ext (lt_tri _ _ h1 h3)
      obtain ⟨a, b⟩ := t
      have e : a = b := e
      subst e
      rfl
theorem sw_sw (t : Pr) : sw (sw t) = t := rfl
theorem sP_iff {t u : Pr} : sP t = sP u ↔ t = u ∨ t = sw u := by
  constructor
  · intro h
    rcases sP_or t with e | e <;> rcases sP_or u with e' | e' <;> rw [e, e'] at h
    · exact .inl h
    · exact .inr h
    · exact .inr (by rw [← sw_sw t, h])
    · exact .inl (by rw [← sw_sw t, h]; rfl)
  · rintro (rfl | rfl)
    · rfl
    · exact sP_sw u
/-- two texts in order -/
theorem sorted_two {a b : Str} {ys : List Str} (h : ys.Perm [a, b]) (s : sortedS ys = true) : ys = [(sP (a, b)).1, (sP (a, b)).2] := by
  obtain ⟨x, y, rfl⟩ : ∃ x y, ys = [x, y] := by
    match ys, h.length_eq with
    | [x, y], _ => exact ⟨x, y, rfl⟩
  have hs : ltCps y.cps.toList x.cps.toList = false := by
    have z : (!ltCps y.cps.toList x.cps.toList && true) = true := s
    simpa using z
  have hc : (x = a ∧ y = b) ∨ (x = b ∧ y = a) := by
    have hx : x ∈ [a, b] := h.mem_iff.mp (by simp)
    have hy : y ∈ [a, b] := h.mem_iff.mp (by simp)
    have ha : a ∈ [x, y] := h.mem_iff.mpr (by simp)
    have hb : b ∈ [x, y] := h.mem_iff.mpr (by simp)
    simp only [List.mem_cons, List.not_mem_nil, or_false] at hx hy ha hb
    rcases hx with rfl | rfl
    · rcases hb with rfl | rfl
      · rcases hy with rfl | rfl
        · exact .inl ⟨rfl, rfl⟩
        · exact .inl ⟨rfl, rfl⟩
      · exact .inl ⟨rfl, rfl⟩
    · rcases ha with rfl | rfl
      · rcases hy with rfl | rfl
        · exact .inl ⟨rfl, rfl⟩
        · exact .inl ⟨rfl, rfl⟩
      · exact .inr ⟨rfl, rfl⟩
  rcases hc with ⟨rfl, rfl⟩ | ⟨rfl, rfl⟩
  · have e : sP (x, y) = (x, y) := by
      unfold sP
      exact if_neg (by rw [hs]; exact Bool.false_ne_true)
    rw [e]
  · have e : sP (x, y) = (x, y) := by
      unfold sP
      exact if_neg (by rw [hs]; exact Bool.false_ne_true)
    have e2 : sP (y, x) = (x, y) := (sP_sw (x, y)).trans e
    rw [e2]
/-! ### the data -/
def dP (t : Pr) : PyData := .tuple [.str t.1, .str t.2]
def dPs (ts : List Pr) : PyData := .list (ts.map dP)
def dH (h : Str × Int) : PyData := .tuple [.str h.1, .int h.2]
def dHs (hs : List (Str × Int)) : PyData := .list (hs.map dH)
def dW : Option (List Pr) → PyData
  | none => .none
  | some ts => dPs ts
abbrev Pc := Str × Int × Option (List Pr)
def dC (c : Pc) : PyData := .tuple [.str c.1, .int c.2.1, dW c.2.2]
def dCs (cs : List Pc) : PyData := .list (cs.map dC)
section
variable {H : Hp}
theorem dt_pr {v : V} {t : Pr} (h : Dt H v (dP t)) : ∃ a o, v = .ref a ∧ H a = some o ∧ PrO o t.1 t.2 := by
  obtain ⟨x, y⟩ := t
  cases h with
  | pr d q => exact ⟨_, _, rfl, q, .frz d⟩
  | tup q r =>
    cases r with
    | cons h1 r =>
      cases r with
      | cons h2 r =>
        cases r
        cases h1
        cases h2
        exact ⟨_, _, rfl, q, .tup⟩
theorem dt_prO {a : Addr} {o : HO} {t : Pr} (h : H a = some o) (p : PrO o t.1 t.2) : Dt H (.ref a) (dP t) := by
  cases p with
  | tup => exact .tup h (.cons (.str _) (.cons (.str _) .nil))
  | frz d => exact .pr d h
theorem dt_prM {a : Addr} {t : Pr} (h : H a = some (.tup [.str t.1, .str t.2])) : Dt H (.ref a) (dP t) := .tup h (.cons (.str _) (.cons (.str _) .nil))
theorem dt_hd {v : V} {t : Str × Int} (h : Dt H v (dH t)) : ∃ a, v = .ref a ∧ H a = some (.tup [.str t.1, .int t.2]) := by
  obtain ⟨a, xs, e, q, r⟩ := h.tup_inv fun _ _ e => by cases e
  cases r with
  | cons h1 r =>
    cases r with
    | cons h2 r =>
      cases r
      cases h1
      cases h2
      exact ⟨a, e, q⟩
theorem dt_hdM {a : Addr} {t : Str × Int} (h : H a = some (.tup [.str t.1, .int t.2])) : Dt H (.ref a) (dH t) := .tup h (.cons (.str _) (.cons (.int _) .nil))
theorem dt_pc {v : V} {c : Pc} (h : Dt H v (dC c)) : ∃ a u, v = .ref a ∧ H a = some (.tup [.str c.1, .int c.2.1, u]) ∧ Dt H u (dW c.2.2) := by
  obtain ⟨a, xs, e, q, r⟩ := h.tup_inv fun _ _ e => by cases e
  cases r with
  | cons h1 r =>
    cases r with
    | cons h2 r =>
      cases r with
      | cons h3 r =>
        cases r
        cases h1
        cases h2
        exact ⟨a, _, e, q, h3⟩
theorem dt_pcM {a : Addr} {u : V} {c : Pc} (h : H a = some (.tup [.str c.1, .int c.2.1, u])) (q : Dt H u (dW c.2.2)) : Dt H (.ref a) (dC c) := .tup h (.cons (.str _) (.cons (.int _) (.cons q .nil)))
end
/-! ### pairs -/
def spPair : Sp := fun vs H Q _ => ∃ (t : Addr) (o : HO) (p : Pr), vs = [.ref t] ∧ H t = some o ∧ PrO o p.1 p.2 ∧ Nm p.1 ∧ Nm p.2 ∧ ∀ H', Same H H' → Q (.bl (!decide (p.1 = p.2))) H'
def spHand : Sp := fun vs H Q _ => ∃ (t : Addr) (h : Str × Int), vs = [.ref t] ∧ H t = some (.tup [.str h.1, .int h.2]) ∧ Nm h.1 ∧ 1 ≤ h.2 ∧ h.2 ≤ 1000 ∧ ∀ H', Same H H' → Q (.bl true) H'
def spSorted : Sp := fun vs H Q _ => ∃ (t : Addr) (o : HO) (p : Pr), vs = [.ref t] ∧ H t = some o ∧ PrO o p.1 p.2 ∧ ∀ H' q, Same H H' → H q = none → H' q = some (.tup [.str (sP p).1, .str (sP p).2]) → Q (.ref q) H'
def spSure : Sp := fun vs H Q _ => vs = [.bl true] ∧ Q .non H
end Kp
namespace Kp
open PySem PySem.Spec PyProof.Rows L2
section
variable {P : Program} {w : World} {K : PySem.W.Frag} {mg : Str → Option Value} {base : Heap}
theorem scPair : FnScope ["thing"] ["thing"] (defScope (top 26)) := ⟨rfl, rfl, rfl, by decide +kernel, rfl, by decide +kernel, by decide +kernel⟩
theorem ok_pair {f : Addr} {fd : FuncData} (F : FnP K "is_pair" "is_pair" (top 26) f fd) (T : Txt K mg) (GN : Gn P w K mg base CX0 1 "is_name" ["thing"] spName) : FnOk P w K mg base CX0 2 f fd ["thing"] spPair := by
  refine def_ok F scPair (fun vs H Q E h => ?_) (fun cdv A outer s H vs Q E hr h => ?_)
  · obtain ⟨t, o, p, rfl, _⟩ := h
    rfl
  · obtain ⟨t, o, p, rfl, ht, po, h1, h2, k⟩ := h
    refine ⟨_, pss_cons (ps_if (PW.pt (pw_or (pt_not (pt_val (pe_isi (T.free 30) (T.free 34) boot_tupleT (pv 0)))) (pw_or1 (pt_cmpR op_ne (pe_callB call_len_seq (by rfl) (T.free 37) PySem.boot_len (pa_cons (pv 0) pa_nil)) pe_int (nomark _)))))
        (pss_one (ps_ret pe_bl)) pss_nil)
      (pss_one (ps_ret (pe_and (pe_g GN hr (pa_cons (pe_ix ix_tup (pv 0) pe_int (fun _ _ => rfl)) pa_nil) pass0) (pe_and (pe_g GN hr (pa_cons (pe_ix ix_tup (pv 0) pe_int (fun _ _ => rfl)) pa_nil) pass0)
        (pe_one (pe_cmpR op_ne (pe_ix ix_tup (pv 0) pe_int (fun _ _ => rfl)) (pe_ix ix_tup (pv 0) pe_int (fun _ _ => rfl)) (nomark _))))))), ?_⟩
    refine ⟨_, rfl, .ref t, "tuple", true, rfl, po.ty ht, ki_tt, true, rfl, iteF ?_⟩
    refine ⟨_, rfl, t, _, rfl, .inr (po.sq ht), rfl, _, rfl, iteF ?_⟩
    refine ⟨_, rfl, t, _, 0, _, rfl, rfl, po.sq ht, rfl, p.1, rfl, h1, fun H1 s1 => ⟨true, rfl, iteT ?_⟩⟩
    refine ⟨_, rfl, t, _, 1, _, rfl, rfl, po.sq (s1 _ _ ht), rfl, p.2, rfl, h2, fun H2 s2 => ⟨true, rfl, iteT ?_⟩⟩
    have h3 := s2 _ _ (s1 _ _ ht)
    refine ⟨_, rfl, t, _, 0, _, rfl, rfl, po.sq h3, rfl, _, rfl, t, _, 1, _, rfl, rfl, po.sq h3, rfl, rfl, ?_⟩
    refine q_eq ?_ (k _ (s1.trans s2))
    by_cases e : p.1 = p.2
    · rw [decide_eq_true e, e, decide_eq_true rfl]
    · rw [decide_eq_false e, decide_eq_false fun z => e (V.str.inj z)]
theorem scSorted : FnScope ["pair"] ["pair"] (defScope (top 27)) := ⟨rfl, rfl, rfl, by decide +kernel, rfl, by decide +kernel, by decide +kernel⟩
theorem ok_sorted {f : Addr} {fd : FuncData} (F : FnP K "sorted_pair" "sorted_pair" (top 27) f fd) (T : Txt K mg) : FnOk P w K mg base CX0 1 f fd ["pair"] spSorted := by
  refine def_ok F scSorted (fun vs H Q E h => ?_) (fun cdv A outer s H vs Q E hr h => ?_)
  · obtain ⟨t, o, p, rfl, _⟩ := h
    rfl
  · obtain ⟨t, o, p, rfl, ht, po, k⟩ := h
    refine ⟨_, pss_one (ps_ret (pe_callTy call_tuple_of (by rfl) (T.free 34) boot_tupleT (pa_cons (pe_callB cr_sortedS (by rfl) (T.free 39) boot_sortedB (pa_cons (pe_callTy call_list_of (by rfl) (T.free 35) boot_listT (pa_cons (pv 0) pa_nil)) pa_nil)) pa_nil))), ?_⟩
    refine ⟨_, rfl, t, _, rfl, .inr (po.sq ht), fun l hl => ?_⟩
    refine ⟨l, [p.1, p.2], rfl, SqL.of upd_same, (by show 2 < 64; decide), fun ys q hp hs hq => ?_⟩
    have e := sorted_two hp hs
    subst e
    refine ⟨q, _, rfl, .inl ⟨SqL.of upd_same, fun r hr' => ?_⟩⟩
    exact k _ r (((same_new hl).trans (same_new hq)).trans (same_new hr')) (none_back ((same_new hl).trans (same_new hq)) hr') upd_same
theorem scHand : FnScope ["thing"] ["thing"] (defScope (top 25)) := ⟨rfl, rfl, rfl, by decide +kernel, rfl, by decide +kernel, by decide +kernel⟩
theorem ok_hand {f : Addr} {fd : FuncData} (F : FnP K "is_hand_row" "is_hand_row" (top 25) f fd) (T : Txt K mg) (GN : Gn P w K mg base CX0 1 "is_name" ["thing"] spName) (GW : Gn P w K mg base CX0 2 "is_within" ["thing", "low", "high"] spWithin) :
    FnOk P w K mg base CX0 3 f fd ["thing"] spHand := by
  obtain ⟨tm, hm⟩ := T.int 47
  refine def_ok F scHand (fun vs H Q E h => ?_) (fun cdv A outer s H vs Q E hr h => ?_)
  · obtain ⟨t, p, rfl, _⟩ := h
    rfl
  · obtain ⟨t, p, rfl, ht, h1, h2, h3, k⟩ := h
    refine ⟨_, pss_cons (ps_if (PW.pt (pw_or (pt_not (pt_val (pe_isi (T.free 30) (T.free 34) boot_tupleT (pv 0)))) (pw_or1 (pt_cmpR op_ne (pe_callB call_len_seq (by rfl) (T.free 37) PySem.boot_len (pa_cons (pv 0) pa_nil)) pe_int (nomark _)))))
        (pss_one (ps_ret pe_bl)) pss_nil)
      (pss_one (ps_ret (pe_and (pe_g GN hr (pa_cons (pe_ix ix_tup (pv 0) pe_int (fun _ _ => rfl)) pa_nil) pass0)
        (pe_one (pe_g GW hr (pa_cons (pe_ix ix_tup (pv 0) pe_int (fun _ _ => rfl)) (pa_cons pe_int (pa_cons (pe_glob (v := .int 1000) (by rfl) hm ⟨_, rfl⟩) pa_nil))) pass0))))), ?_⟩
    refine ⟨_, rfl, .ref t, "tuple", true, rfl, .base (.tup ht), ki_tt, true, rfl, iteF ?_⟩
    refine ⟨_, rfl, t, _, rfl, .inr (SqT.of ht), rfl, _, rfl, iteF ?_⟩
    refine ⟨_, rfl, t, _, 0, _, rfl, rfl, SqT.of ht, rfl, p.1, rfl, h1, fun H1 s1 => ⟨true, rfl, iteT ?_⟩⟩
    exact ⟨_, rfl, t, _, 1, _, rfl, rfl, SqT.of (s1 _ _ ht), rfl, p.2, 1, 1000, rfl, h2, h3, k _ s1⟩
theorem scSure : FnScope ["good"] ["good"] (defScope (top 28)) := ⟨rfl, rfl, rfl, by decide +kernel, rfl, by decide +kernel, by decide +kernel⟩
theorem ok_sure {f : Addr} {fd : FuncData} (F : FnP K "sure" "sure" (top 28) f fd) : FnOk P w K mg base CX0 1 f fd ["good"] spSure := by
  refine def_ok F scSure (fun vs H Q E h => ?_) (fun cdv A outer s H vs Q E hr h => ?_)
  · obtain ⟨rfl, _⟩ := h
    rfl
  · obtain ⟨rfl, k⟩ := h
    refine ⟨_, pss_one (ps_if (pt_not (pt_val (pv 0))) (pss_one ps_never) pss_nil), ?_⟩
    exact ⟨_, rfl, true, rfl, iteF k⟩
end
end Kp
namespace Kp
open PySem PySem.Spec PyProof.Rows L2
/-! ### sorted of a list of pairs of texts: some arrangement of it -/
theorem dt_zip {H : Hp} : ∀ {ts : List Pr} {xs : List V}, DtAll H xs (ts.map dP) → ∃ bs : List (V × Pr), bs.map (·.1) = xs ∧ bs.map (·.2) = ts ∧ ∀ b ∈ bs, Dt H b.1 (dP b.2)
  | [], _, h => by
    cases h
    exact ⟨[], rfl, rfl, fun b hb => nomatch hb⟩
  | t :: ts, _, h => by
    cases h with
    | cons a r =>
      obtain ⟨bs, e1, e2, k⟩ := dt_zip r
      refine ⟨(_, t) :: bs, by rw [List.map_cons, e1], by rw [List.map_cons, e2], fun b hb => ?_⟩
      rcases List.mem_cons.mp hb with e | hb
      · rw [e]
        exact a
      · exact k b hb
theorem dt_unzip {H : Hp} : ∀ {bs : List (V × Pr)}, (∀ b ∈ bs, Dt H b.1 (dP b.2)) → DtAll H (bs.map (·.1)) ((bs.map (·.2)).map dP)
  | [], _ => .nil
  | b :: bs, h => .cons (h b List.mem_cons_self) (dt_unzip fun c hc => h c (List.mem_cons_of_mem _ hc))
theorem each_rel : ∀ {bs : List (V × Pr)} {its : List Value}, Vals (bs.map (·.1)) its → PySem.W.EachIs (fun (v : Value) (b : V × Pr) => RelV b.1 v) its bs
  | [], _, r => by
    cases r
    exact .nil
  | b :: bs, _, r => by
    cases r with
    | cons a t => exact .cons a (each_rel t)
theorem rel_each : ∀ {bs : List (V × Pr)} {its : List Value}, PySem.W.EachIs (fun (v : Value) (b : V × Pr) => RelV b.1 v) its bs → Vals (bs.map (·.1)) its
  | _, _, .nil => .nil
  | _, _, .cons a t => .cons a (rel_each t)
theorem each_reads {X : Cx} {pins : List (Addr × Obj)} {σ : L2.St} {H : Hp} {s : Shared} (I : Inv X pins σ H s) : ∀ {bs : List (V × Pr)} {its : List Value}, (∀ b ∈ bs, Dt H b.1 (dP b.2)) → Vals (bs.map (·.1)) its →
    PySem.W.EachIs (fun (v : Value) (b : V × Pr) => ∃ as, Reads s.heap v (dP b.2) as) its bs
  | [], _, _, r => by
    cases r
    exact .nil
  | b :: bs, _, h, r => by
    cases r with
    | cons a t => exact .cons (Dp.reads I _ _ _ ((h b List.mem_cons_self).dp) a) (each_reads I (fun c hc => h c (List.mem_cons_of_mem _ hc)) t)
theorem dP_alike (t u : Pr) : PySem.W.alike (dP t) (dP u) = true := by simp [dP, PySem.W.alike, PySem.W.alikeAll]
theorem dP_depth (t : Pr) : (dP t).depth = 1 := by simp [dP, PyData.depth, PyData.depthAll]
def rSortedPr : List V → Hp → VK → Prop := fun vs H Q => ∃ (a : Addr) (xs : List V) (ts : List Pr), vs = [.ref a] ∧ H a = some (.lst xs) ∧ DtAll H xs (ts.map dP) ∧ ts.length ≤ 1000 ∧
  ∀ (us : List Pr) (zs : List V) (p : Addr), us.Perm ts → H p = none → DtAll H zs (us.map dP) → Q (.ref p) (upd H p (.lst zs))
theorem cr_sortedPr {X : Cx} (hu : X.A.units + 64 < cLine) : CallR X (.builtin "sorted") rSortedPr := by
  intro pins s σ H vs us Q I r h
  obtain ⟨a, xs, ts, rfl, hs, dt, hl, q⟩ := h
  obtain ⟨its, rv, hlist, _⟩ := I.list (SqL.of hs)
  obtain ⟨bs, e1, e2, each⟩ := dt_zip dt
  subst e1
  have hlen : bs.length ≤ 1000 := by rw [← e2, List.length_map] at hl; exact hl
  have er := each_reads I each rv
  rw [Vals.ref1 r]
  refine PySem.W.sorted_data (enc := fun b : V × Pr => dP b.2) hlist.isList (each_rel rv) er (PySem.W.AllAlike.of fun b b' => dP_alike _ _) (PySem.W.Sortable.tuples fun b => ⟨_, _, rfl⟩) (line_of hlen)
    (fun b _ => by rw [dP_depth]; omega) fun out ho eo => ?_
  obtain ⟨ep, he'⟩ := PyProof.Rows.sortedAll_at s.heap its (List.toArray out)
  have pm : (bs.mergeSort (PySem.W.dataLe false fun b : V × Pr => dP b.2)).Perm bs := List.mergeSort_perm _ _
  generalize bs.mergeSort (PySem.W.dataLe false fun b : V × Pr => dP b.2) = cs at pm eo
  have hlen2 : (cs.map (·.1)).length ≤ sizeLine := by
    rw [List.length_map, pm.length_eq]
    exact line_of hlen
  refine ⟨.ref _, upd H (s.heap.objs.size + 1) (.lst (cs.map (·.1))), I.laid (t' := s.toks) (fun _ _ => PyProof.Rows.sortedAll_old) (Nat.le_succ _) ⟨hlen2, out, ep, rel_each eo, he'⟩, rfl,
    q (cs.map (·.2)) (cs.map (·.1)) _ (by rw [← e2]; exact pm.map _) (I.hok.fresh (Nat.le_succ _)) (dt_unzip fun b hb => each b (pm.mem_iff.mp hb))⟩
end Kp
namespace Kp
open PySem PySem.Spec PyProof.Rows L2
/-! ### a set of pairs of texts that are all unlike: it holds as many as the list -/
section
variable {P : Program} {w : World} {A : Around} {E : Value → Shared → Prop} {s : Shared}
abbrev kS (t : Pr) : List Str := [t.1, t.2]
theorem kS_inj {t u : Pr} (h : kS t = kS u) : t = u := by
  obtain ⟨a, b⟩ := t
  obtain ⟨c, d⟩ := u
  injection h with h1 h2
  injection h2 with h2 _
  have h1 : a = c := h1
  have h2 : b = d := h2
  rw [h1, h2]
def hS (P : Program) (w : World) (t : Pr) : Int := tupleKeyHash (strKind P w) (kS t)
def IsS (P : Program) (w : World) (h : Heap) (t : Pr) (a : Addr) : Prop := IsTupleKey (strKind P w) h (kS t) a
theorem isS_strs {t : Pr} {vs : List Value} (h : ItemsAre (strKind P w) (kS t) vs) : ∀ v ∈ vs, ∃ x tk, v = Value.str x tk := by
  cases h with
  | cons h1 r =>
    cases r with
    | cons h2 r =>
      cases r
      intro v hv
      obtain ⟨t1, e1⟩ := Value.isStrOf_shape h1
      obtain ⟨t2, e2⟩ := Value.isStrOf_shape h2
      rcases List.mem_cons.mp hv with e | hv
      · exact ⟨_, _, e.trans e1⟩
      · rcases List.mem_cons.mp hv with e | hv
        · exact ⟨_, _, e.trans e2⟩
        · cases hv
theorem noClass_str (n : Nat) (x : Str) (t : Tok) : ofAClassStatement n (.str x t) = pure false := by
  cases n <;> rfl
theorem byVal_str (n : Nat) (x : Str) (t : Tok) : hashByValue n (.str x t) = pure false := by
  cases n <;> rfl
theorem noClass_S {k : Pr} {b : Addr} {Q : Bool → Shared → Prop} (hk : IsS P w s.heap k b) (h : Q false s) : wpAny (model P w) A (ofAClassStatement 8 (.ref b)) Q E s := by
  have hk : IsTupleKey (strKind P w) s.heap (kS k) b := hk
  have ty := hk.typeIs
  obtain ⟨o, its, n, ho, _, hd, hi⟩ := hk
  have txt := isS_strs hi
  unfold ofAClassStatement
  refine wpAny_bind (wpAny_typeOf ty ?_)
  simp only [beq_self_eq_true, Bool.not_true, Bool.false_eq_true, if_false, if_true]
  try refine wpAny_bind (wpAny_pure ?_)
  try simp only [Bool.not_true, Bool.false_eq_true, if_false]
  refine wpAny_bind (wpAny_seqItems ho hd ?_)
  dsimp only
  refine wpAny_bind ?_
  rw [← Array.forIn_toList]
  refine wpAny_forIn_list _ (fun left r z => r.1 = none ∧ z = s ∧ ∀ v ∈ left, ∃ x tk, v = Value.str x tk) _ ?_ ?_ _ _ ⟨rfl, rfl, txt⟩
  · rintro v left r z ⟨hr, rfl, all⟩
    obtain ⟨x, tk, rfl⟩ := all v List.mem_cons_self
    rw [noClass_str]
    refine wpAny_bind (wpAny_pure ?_)
    simp only [Bool.false_eq_true, if_false]
    exact wpAny_pure ⟨rfl, rfl, fun u hu => all u (List.mem_cons_of_mem _ hu)⟩
  · rintro ⟨r1, r2⟩ z ⟨hr, rfl, _⟩
    have e1 : r1 = none := hr
    subst e1
    exact wpAny_pure h
theorem byVal_S {k : Pr} {b : Addr} {Q : Bool → Shared → Prop} (hk : IsS P w s.heap k b) (h : Q false s) : wpAny (model P w) A (hashByValue 8 (.ref b)) Q E s := by
  have hk : IsTupleKey (strKind P w) s.heap (kS k) b := hk
  have ty := hk.typeIs
  obtain ⟨o, its, n, ho, _, hd, hi⟩ := hk
  have txt := isS_strs hi
  unfold hashByValue
  refine wpAny_bind (wpAny_specialOf ty F.slot_tuple_hash.lookup ?_)
  refine wpAny_bind (wpAny_seqItems ho hd ?_)
  obtain ⟨x, y, t1, t2, e⟩ : ∃ x y t1 t2, its.toList = [Value.str x t1, Value.str y t2] := by
    cases hi' : its.toList with
    | nil => rw [hi'] at hi; cases hi
    | cons v r =>
      rw [hi'] at hi txt
      cases hi with
      | cons h1 r1 =>
        cases r1 with
        | cons h2 r2 =>
          cases r2
          obtain ⟨x, t1, e1⟩ := txt _ List.mem_cons_self
          obtain ⟨y, t2, e2⟩ := txt _ (List.mem_cons_of_mem _ List.mem_cons_self)
          exact ⟨x, y, t1, t2, by rw [e1, e2]⟩
  refine wpAny_bind ?_
  simp only [Option.getD_some]
  rw [← Array.forIn_toList, e, List.forIn_cons, byVal_str]
  refine wpAny_bind (wpAny_bind (wpAny_pure ?_))
  simp only [Bool.not_false, if_true]
  refine wpAny_pure ?_
  dsimp only
  refine wpAny_pure ?_
  dsimp only
  exact wpAny_pure h
theorem quiet_S {k : Pr} {b : Addr} {Q : Bool → Shared → Prop} (hk : IsS P w s.heap k b) {ys : List Value} (hy : ∀ y ∈ ys, ∃ k' c, y = Value.ref c ∧ IsS P w s.heap k' c) (h : Q false s) :
    wpAny (model P w) A (searchCouldBeSeen (.ref b) ys) Q E s := by
  unfold searchCouldBeSeen
  refine wpAny_bind ?_
  refine wpAny_forIn_list _ (fun left r z => r.1 = none ∧ z = s ∧ ∀ y ∈ left, ∃ k' c, y = Value.ref c ∧ IsS P w s.heap k' c) _ ?_ ?_ _ _ ⟨rfl, rfl, hy⟩
  · rintro v left r z ⟨hr, rfl, all⟩
    obtain ⟨k', c, rfl, hc⟩ := all v List.mem_cons_self
    have more : ∀ y ∈ left, ∃ k' c, y = Value.ref c ∧ IsS P w z.heap k' c := fun u hu => all u (List.mem_cons_of_mem _ hu)
    dsimp only
    by_cases hv : (b == c || (carriedByValue (.ref b) && carriedByValue (.ref c))) = true
    · exact wp_if_pos hv (wpAny_pure ⟨rfl, rfl, more⟩)
    · refine wp_if_neg hv (wpAny_bind (wpAny_eqIsQuiet_tuple hk ?_))
      simp only [Bool.not_true, Bool.false_eq_true, if_false]
      refine wpAny_bind (wpAny_eqIsQuiet_tuple hc ?_)
      simp only [Bool.not_true, Bool.false_eq_true, if_false]
      refine wpAny_bind (noClass_S hk ?_)
      simp only [Bool.false_eq_true, if_false]
      refine wpAny_bind (noClass_S hc ?_)
      simp only [Bool.false_eq_true, if_false]
      exact wpAny_pure ⟨rfl, rfl, more⟩
  · rintro ⟨r1, r2⟩ z ⟨hr, rfl, _⟩
    have e1 : r1 = none := hr
    subst e1
    exact wpAny_pure h
/-! ### the table -/
abbrev Kys := List (Addr × Pr)
def ent (P : Program) (w : World) (p : Addr × Pr) : Int × Value := (hS P w p.2, Value.ref p.1)
abbrev hss (P : Program) (w : World) (L : Kys) : List Int := L.map fun p => hS P w p.2
structure SetS (P : Program) (w : World) (h : Heap) (a : Addr) (L : Kys) (es : Array (Int × Value)) (ep : Nat) (t : SetTable) : Prop where
  ob : ∃ o, h.get? a = some o ∧ o.ExactSet ∧ o.data = .set es ep t
  rows : es.toList = L.map (ent P w)
  tab : TabOk t (hss P w L)
  tup : ∀ p ∈ L, IsS P w h p.2 p.1
  led : w.params.followText "set-order" = true ∨ t.led = true
  room : L.length * 5 < t.mask * 3
variable {a : Addr} {L : Kys} {es : Array (Int × Value)} {ep : Nat} {t : SetTable}
theorem SetS.sz (R : SetS P w s.heap a L es ep t) : es.size = L.length := by
  have q := congrArg List.length R.rows
  rw [Array.length_toList, List.length_map] at q
  exact q
theorem fits_of {n : Nat} (hp : t.place.size = n) (hd : t.dummies = #[]) (hm : n ≤ t.mask) : t.fits n = true := by
  unfold SetTable.fits SetTable.fill
  rw [hd, Bool.and_eq_true, beq_iff_eq, decide_eq_true_eq]
  show t.place.size = n ∧ t.place.size + 0 ≤ t.mask
  omega
theorem SetS.ps (R : SetS P w s.heap a L es ep t) : t.place.size = L.length := by
  have q := R.tab.sz
  rw [List.length_map] at q
  exact q
theorem SetS.fit (R : SetS P w s.heap a L es ep t) : t.fits es.size = true :=
  fits_of (by rw [R.ps, R.sz]) R.tab.dm (by have := R.room; rw [R.sz]; omega)
theorem SetS.at_ (R : SetS P w s.heap a L es ep t) {i : Nat} {p : Addr × Pr} (h : L[i]? = some p) : es[i]? = some (ent P w p) := by
  rw [← Array.getElem?_toList, R.rows, List.getElem?_map, h]
  rfl
theorem nodummy (m : Nat) : ∀ (n : Nat) (p : SetTable.Probe), p.dummy = none → (nth m p n).dummy = none
  | 0, _, h => h
  | n + 1, p, h => nodummy m n (adv m p) (by
    unfold adv
    split <;> exact h)
abbrev st0 (m : Nat) (h : Int) : SetTable.Probe := runAt m (SetTable.bits h % (m + 1)) (SetTable.bits h)
/-- what isn't there is looked for till the free place -/
theorem seek (R : SetS P w s.heap a L es ep t) {x : Addr} {k : Pr} (hx : IsS P w s.heap k x) (hu : A.units < cLine) (fresh : ∀ p ∈ L, p.2 ≠ k) {M : Nat} (hM : M < 10 * SetTable.turns t.mask)
    (free : ¬ way t.mask (hS P w k) M ∈ t.place.toList) (ahead : ∀ c, c < M → way t.mask (hS P w k) c ∈ t.place.toList) {Q : SetFound → Shared → Prop} (hq : Q (.free (way t.mask (hS P w k) M) false) s) :
    ∀ (f c : Nat) (stand : Option SetTable.Probe), stand.getD (t.probeStart (hS P w k)) = nth t.mask (st0 t.mask (hS P w k)) c → c ≤ M → M - c < f → wpAny (model P w) A (setSearchFrom a (.ref x) (hS P w k) true f stand) Q E s
  | 0, c, stand, _, _, hf => absurd hf (Nat.not_lt_zero _)
  | f + 1, c, stand, hst, hc, hf => by
    obtain ⟨o, ho, hex, hd⟩ := R.ob
    have hgo : ¬ t.gaveWay = true := by
      unfold SetTable.gaveWay
      rw [mask_odd R.tab.mok]
      decide
    rw [setSearchFrom_succ]
    refine wpAny_bind (wpAny_setState_of ho hd R.fit ?_)
    dsimp only
    refine wp_if_neg hgo ?_
    try refine wpAny_bind (wpAny_pure ?_)
    generalize hh : hS P w k = h at *
    have shift : ∀ q, nth t.mask (nth t.mask (st0 t.mask h) c) q = nth t.mask (st0 t.mask h) (c + q) := fun q => (nth_add t.mask c _ q).symm
    have jay : ∀ q, (nth t.mask (nth t.mask (st0 t.mask h) c) q).j = way t.mask h (c + q) := fun q => congrArg SetTable.Probe.j (shift q)
    have spec := go_spec t R.tab.ris R.tab.dm (fun i => (es[i]?.map (·.1)).getD 0) h (10 * SetTable.turns t.mask) (M - c) (nth t.mask (st0 t.mask h) c) (nodummy _ _ _ rfl) (by omega)
      (fun q hq => by rw [jay]; exact ahead (c + q) (by omega)) (by rw [jay, show c + (M - c) = M by omega]; exact free)
    rcases spec with ⟨q, i, hq', hi, hhash, hno, hpr⟩ | ⟨hno, hpr⟩
    · have met : t.probe (fun i => (es[i]?.map (·.1)).getD 0) h (stand.getD (t.probeStart h)) = some (.candidate (way t.mask h (c + q)) i (nth t.mask (st0 t.mask h) (c + (q + 1)))) := by
        rw [hst, ← jay, ← shift]
        exact hpr
      rw [met]
      dsimp only
      rw [jay] at hi
      have hil : i < L.length := by
        have z := (List.getElem?_eq_some_iff.mp hi).1
        rw [Array.length_toList, R.ps] at z
        exact z
      obtain ⟨p, hp⟩ : ∃ p, L[i]? = some p := ⟨_, List.getElem?_eq_getElem hil⟩
      have hmem := List.mem_of_getElem? hp
      have unlike : ¬ kS p.2 = kS k := fun z => fresh p hmem (kS_inj z)
      have go : wpAny (model P w) A (searchRest a (.ref x) h true f es t (way t.mask h (c + q)) i (nth t.mask (st0 t.mask h) (c + (q + 1)))) Q E s := by
        unfold searchRest
        rw [R.at_ hp]
        dsimp only [ent]
        refine wpAny_bind (wpAny_holding (wpAny_eqBool_tuple hu (R.tup p hmem) hx ?_))
        rw [decide_eq_false unlike]
        refine wpAny_bind (wpAny_setState_of ho hd R.fit ?_)
        dsimp only
        refine wp_if_neg (by decide) ?_
        try refine wpAny_bind (wpAny_pure ?_)
        rw [sameMem]
        have live : t.slot (way t.mask h (c + q)) = .live i := slot_live R.tab.ris hi
        simp only [if_true, live, R.at_ hp, ent]
        refine wpAny_bind (wpAny_isSame_ref_self (wpAny_bind (wpAny_pure ?_)))
        simp only [if_true]
        refine wp_if_neg (by decide) ?_
        subst hh
        exact seek R hx hu fresh hM free ahead hq f (c + (q + 1)) _ rfl (by omega) (by omega)
      by_cases hl : t.led = true
      · refine wp_if_neg (by simp [hl]) ?_
        try refine wpAny_bind (wpAny_pure ?_)
        exact go
      · refine wp_if_pos (by simp [hl]) ?_
        refine wpAny_bind (quiet_S hx (fun y hy => ?_) ?_)
        · obtain ⟨e, he, ee⟩ := List.mem_map.mp hy
          have he1 : e ∈ es ∧ e.1 = h := by simpa using he
          have he2 : e ∈ es.toList := by simpa using he1.1
          rw [R.rows] at he2
          obtain ⟨p2, hp2, e2⟩ := List.mem_map.mp he2
          refine ⟨p2.2, p2.1, ?_, R.tup p2 hp2⟩
          rw [← ee, ← e2]
          rfl
        · refine wp_if_neg (by decide) ?_
          try refine wpAny_bind (wpAny_pure ?_)
          exact go
    · have met : t.probe (fun i => (es[i]?.map (·.1)).getD 0) h (stand.getD (t.probeStart h)) = some (.empty (way t.mask h M) none) := by
        have e2 : way t.mask h M = (nth t.mask (nth t.mask (st0 t.mask h) c) (M - c)).j := by rw [jay, show c + (M - c) = M by omega]
        rw [hst, e2]
        exact hpr
      rw [met]
      exact wpAny_pure hq
end
end Kp
namespace Kp
open PySem PySem.Spec PyProof.Rows L2
section
variable {P : Program} {w : World} {A : Around} {E : Value → Shared → Prop} {s : Shared}
theorem range_back {α : Type} : ∀ L : List α, (List.range L.length).filterMap (fun i => L[i]?) = L
  | [] => rfl
  | x :: L => by
    rw [List.length_cons, List.range_succ_eq_map, List.filterMap_cons_some (show (x :: L)[0]? = some x from rfl), List.filterMap_map]
    exact congrArg (x :: ·) (range_back L)
theorem ent_get {L : Kys} {es : Array (Int × Value)} (hr : es.toList = L.map (ent P w)) (i : Nat) : es[i]? = (L[i]?).map (ent P w) := by rw [← Array.getElem?_toList, hr, List.getElem?_map]
theorem re_one {L : Kys} {es : Array (Int × Value)} {order : Array Nat} (hr : es.toList = L.map (ent P w)) : (order.filterMap (es[·]?)).toList = (order.toList.filterMap fun i => L[i]?).map (ent P w) := by
  rw [Array.toList_filterMap, List.map_filterMap]
  have e : (fun i => es[i]?) = fun i => (L[i]?).map (ent P w) := funext fun i => ent_get hr i
  rw [e]
theorem re_two {L : Kys} {es : Array (Int × Value)} (hr : es.toList = L.map (ent P w)) : ∀ l : List Nat, (∀ i ∈ l, i < L.length) → (l.filterMap fun i => L[i]?).map (fun p => hS P w p.2) = l.map fun i => (es.map (·.1)).getD i 0
  | [], _ => rfl
  | i :: l, low => by
    have hi := low i List.mem_cons_self
    obtain ⟨p, e1⟩ : ∃ p, L[i]? = some p := ⟨_, List.getElem?_eq_getElem hi⟩
    have e3 : (es.map (·.1))[i]? = some (ent P w p).1 := by rw [Array.getElem?_map, ent_get hr, e1, Option.map_some, Option.map_some]
    have e2 : (es.map (·.1)).getD i 0 = (ent P w p).1 := by rw [Array.getD_eq_getD_getElem?, e3, Option.getD_some]
    have e4 := re_two hr l fun j hj => low j (List.mem_cons_of_mem _ hj)
    rw [List.filterMap_cons_some e1, List.map_cons, List.map_cons, e2, e4]
    unfold ent
    rfl
theorem reorder {L : Kys} {es : Array (Int × Value)} {order : Array Nat} (hr : es.toList = L.map (ent P w)) (hp : order.toList.Perm (List.range L.length)) :
    ∃ M : Kys, (order.filterMap (es[·]?)).toList = M.map (ent P w) ∧ M.Perm L ∧ hss P w M = order.toList.map fun i => (es.map (·.1)).getD i 0 := by
  refine ⟨order.toList.filterMap fun i => L[i]?, re_one hr, ?_, re_two hr _ fun i hi => List.mem_range.mp (hp.mem_iff.mp hi)⟩
  have q := hp.filterMap fun i => L[i]?
  rw [range_back] at q
  exact q
theorem isS_keep {h h' : Heap} {k : Pr} {b : Addr} (x : IsS P w h k b) (f : ∀ o, h.get? b = some o → h'.get? b = some o) : IsS P w h' k b := by
  obtain ⟨o, its, n, ho, r⟩ := x
  exact ⟨o, its, n, f o ho, r⟩
theorem isS_but {h h' : Heap} {k : Pr} {a b : Addr} {o : Obj} {es : Array (Int × Value)} {ep : Nat} {t : SetTable} (x : IsS P w h k b) (ho : h.get? a = some o) (hd : o.data = .set es ep t) (hs : Heap.SameBut a h h') : IsS P w h' k b := by
  have hne : b ≠ a := by
    rintro rfl
    obtain ⟨o2, its, n, h2, _, d2, _⟩ := x
    rw [ho] at h2
    cases h2
    rw [hd] at d2
    cases d2
  exact isS_keep x fun o2 q => (hs.2 b hne).trans q
variable {a : Addr} {L : Kys} {es : Array (Int × Value)} {ep : Nat} {t : SetTable}
theorem relayS {o : Obj} (ho : s.heap.get? a = some o) (hex : o.ExactSet) (hd : o.data = .set es ep t) (rows : es.toList = L.map (ent P w)) (hfit : t.fits es.size = true) (tup : ∀ p ∈ L, IsS P w s.heap p.2 p.1)
    (ld : w.params.followText "set-order" = true ∨ t.led = true) {wanted M : Nat} (hw : SetTable.sizeAbove wanted - 1 = M) (hM : MaskOk M) (hw2 : SetTable.sizeAbove wanted ≤ 128) (hn : L.length * 5 < M * 3) {Q : Unit → Shared → Prop}
    (hQ : ∀ h' L' es' ep' t', Heap.SameBut a s.heap h' → SetS P w h' a L' es' ep' t' → L'.Perm L → Q () { s with heap := h' }) : wpAny (model P w) A (setRelay a wanted) Q E s := by
  have hsl : es.size = L.length := by
    have q := congrArg List.length rows
    rw [Array.length_toList, List.length_map] at q
    exact q
  obtain ⟨t', order, e, hp, T, em, el, _, ed⟩ := relaid_ok t (hs := es.map (·.1)) (wanted := wanted) hw hM (by rw [Array.size_map, hsl]; omega)
  rw [Array.size_map, hsl] at hp
  obtain ⟨M2, r1, r2, r3⟩ := reorder rows hp
  rw [← r3] at T
  have hs2 : (order.filterMap (es[·]?)).size = es.size := by
    rw [← Array.length_toList, r1, List.length_map, r2.length_eq, hsl]
  have hbig : L.length < 128 := by omega
  rw [setRelay_eq]
  refine wpAny_bind (wpAny_setState_of ho hd hfit ?_)
  dsimp only
  refine wp_if_neg (by rw [sizeLine_eq]; omega) ?_
  try refine wpAny_bind (wpAny_pure ?_)
  rw [e]
  dsimp only
  refine wpAny_bind ?_
  refine wp_if_neg (by rw [hs2]; simp) ?_
  try refine wpAny_bind (wpAny_pure ?_)
  refine wpAny_pure ?_
  dsimp only
  refine wpAny_storeSet_of ho hd ?_ (by rw [hs2, hsl]; exact line_of (by omega))
  have sb : Heap.SameBut a s.heap (s.heap.update a (Obj.putSet (order.filterMap (es[·]?)) t')) := Heap.SameBut.update ..
  exact hQ _ M2 _ (ep + 1) t' sb ⟨⟨_, store_at ho hd, ⟨hex.1, hex.2.1, hex.2.2⟩, rfl⟩, r1, T, fun p hpm => isS_but (tup p (r2.mem_iff.mp hpm)) ho hd sb, by rw [el]; exact ld, by rw [r2.length_eq, em]; exact hn⟩ r2
theorem tab_plain {hs : List Int} {b : Bool} (T : TabOk t hs) : TabOk { t with plain := b } hs := ⟨T.ris, T.dm, T.sz, T.mok, T.bd, T.reach⟩
/-- one more, unlike all -/
theorem addS (R : SetS P w s.heap a L es ep t) {x : Addr} {k : Pr} (hx : IsS P w s.heap k x) (hu : A.units < cLine) (hfew : L.length + 1 < 64) (fresh : ∀ p ∈ L, p.2 ≠ k) {Q : Bool → Shared → Prop}
    (hQ : ∀ h' L' es' ep' t', Heap.SameBut a s.heap h' → SetS P w h' a L' es' ep' t' → L'.Perm ((x, k) :: L) → Q true { s with heap := h' }) : wpAny (model P w) A (setAddHashed a (.ref x) (hS P w k)) Q E s := by
  obtain ⟨o, ho, hex, hd⟩ := R.ob
  have hsl := R.sz
  have hroom := R.room
  obtain ⟨M, hM, free, ahead⟩ := R.tab.first (by rw [List.length_map]; omega) (hS P w k)
  have hbig : M < 100000 := by
    have z : 10 * SetTable.turns t.mask ≤ 1420 := by
      unfold SetTable.turns
      rcases R.tab.mok with e | e | e <;> omega
    omega
  unfold setAddHashed
  refine wpAny_holding ?_
  rw [show (100000 : Nat) = 99999 + 1 from rfl, setAddHashedIn_succ]
  refine wpAny_bind (wpAny_setState_of ho hd R.fit ?_)
  dsimp only
  refine wp_if_neg (by simp [byScan, Value.scannable]) ?_
  try refine wpAny_bind (wpAny_pure ?_)
  refine wpAny_bind ?_
  unfold setSearch
  refine seek R hx hu fresh hM free ahead ?_ 100000 0 none rfl (Nat.zero_le _) (by omega)
  dsimp only
  refine wpAny_bind (wpAny_setState_of ho hd R.fit ?_)
  dsimp only
  obtain ⟨q1, q2, q3, q4, q5, _, _, _, q9⟩ := R.tab.put free ahead
  generalize hpt : t.put (way t.mask (hS P w k) M) = pt at q1 q3 q4 q5 q9 ⊢
  obtain ⟨t1, p⟩ := pt
  dsimp only at q1 q3 q4 q5 q9 ⊢
  subst q1
  have rows2 : (SetTable.insertAt es (SetTable.below t.place (way t.mask (hS P w k) M)) (hS P w k, Value.ref x)).toList = (L.take (SetTable.below t.place (way t.mask (hS P w k) M)) ++ (x, k) :: L.drop (SetTable.below t.place (way t.mask (hS P w k) M))).map (ent P w) := by
    rw [SetTable.toList_insertAt, R.rows, List.map_append, List.map_cons, List.map_take, List.map_drop]
    rfl
  generalize SetTable.below t.place (way t.mask (hS P w k) M) = p at q2 q3 rows2 ⊢
  have pm : (L.take p ++ (x, k) :: L.drop p).Perm ((x, k) :: L) := by
    have z : (L.take p ++ (x, k) :: L.drop p).Perm ((x, k) :: (L.take p ++ L.drop p)) := List.perm_middle
    rw [List.take_append_drop] at z
    exact z
  have hlen : (L.take p ++ (x, k) :: L.drop p).length = L.length + 1 := pm.length_eq
  have hhs : hss P w (L.take p ++ (x, k) :: L.drop p) = (hss P w L).take p ++ hS P w k :: (hss P w L).drop p := by
    unfold hss
    rw [List.map_append, List.map_cons, List.map_take, List.map_drop]
  rw [← hhs] at q3
  have hes : (SetTable.insertAt es p (hS P w k, Value.ref x)).size = L.length + 1 := by
    rw [← Array.length_toList, rows2, List.length_map, hlen]
  generalize SetTable.insertAt es p (hS P w k, Value.ref x) = es1 at rows2 hes ⊢
  generalize L.take p ++ (x, k) :: L.drop p = L1 at pm hlen q3 rows2
  -- the table with or without its mark
  have rest : ∀ t2 : SetTable, TabOk t2 (hss P w L1) → t2.mask = t.mask → t2.led = t.led → t2.fill = (hss P w L).length + 1 →
      wpAny (model P w) A (do
        storeSet a es1 t2
        if !false && t2.tooFull then setRelay a (SetTable.grown (es.size + 1))
        return true) Q E s := by
    intro t2 T e4 e5 e9
    rw [List.length_map] at e9
    refine wpAny_bind (wpAny_storeSet_of ho hd ?_ (by rw [hes]; exact line_of (by omega)))
    have sb : Heap.SameBut a s.heap (s.heap.update a (Obj.putSet es1 t2)) := Heap.SameBut.update ..
    have ho1 := store_at (es' := es1) (t' := t2) ho hd
    generalize s.heap.update a (Obj.putSet es1 t2) = h1 at sb ho1 ⊢
    have tup1 : ∀ p ∈ L1, IsS P w h1 p.2 p.1 := fun p hp => by
      rcases List.mem_cons.mp (pm.mem_iff.mp hp) with e | hp
      · rw [e]
        exact isS_but hx ho hd sb
      · exact isS_but (R.tup p hp) ho hd sb
    have ld1 : w.params.followText "set-order" = true ∨ t2.led = true := by
      rw [e5]
      exact R.led
    have hps : t2.place.size = L1.length := by
      have z := T.sz
      rw [List.length_map] at z
      exact z
    by_cases hf : t2.tooFull = true
    · have full : (L.length + 1) * 5 ≥ t2.mask * 3 := by
        have z := hf
        unfold SetTable.tooFull at z
        rw [decide_eq_true_eq, e9] at z
        exact z
      have two : (t.mask = 7 ∧ L.length = 4) ∨ (t.mask = 31 ∧ L.length = 18) := by
        rw [e4] at full
        rcases R.tab.mok with e | e | e
        · rw [e] at full hroom
          exact .inl ⟨e, by omega⟩
        · rw [e] at full hroom
          exact .inr ⟨e, by omega⟩
        · exfalso
          rw [e] at full
          omega
      have hfit : t2.fits es1.size = true := fits_of (by rw [hps, hlen, hes]) T.dm (by rw [hes, e4]; rcases two with ⟨e, e2⟩ | ⟨e, e2⟩ <;> omega)
      have go : ∀ N, SetTable.sizeAbove (SetTable.grown (L.length + 1)) - 1 = N → MaskOk N → SetTable.sizeAbove (SetTable.grown (L.length + 1)) ≤ 128 → (L.length + 1) * 5 < N * 3 →
          wpAny (model P w) A (setRelay a (SetTable.grown (L.length + 1))) (fun _ s' => wpAny (model P w) A (pure true) Q E s') E { s with heap := h1 } := fun N h1' h2' h3' h4' =>
        relayS (s := { s with heap := h1 }) ho1 ⟨hex.1, hex.2.1, hex.2.2⟩ rfl rows2 hfit tup1 ld1 h1' h2' h3' (by rw [hlen]; exact h4') fun h2 L2 es2 ep2 t2 sb2 R2 pm2 => wpAny_pure (hQ h2 L2 es2 ep2 t2 (sb.trans sb2) R2 (pm2.trans pm))
      first
        | (refine wpAny_bind ?_; refine wp_if_pos (by simp [hf]) ?_)
        | (refine wp_if_pos (by simp [hf]) ?_; refine wpAny_bind ?_)
      rw [hsl]
      rcases two with ⟨_, e2⟩ | ⟨_, e2⟩
      · exact go 31 (by rw [e2, size_20]) (.inr (.inl rfl)) (by rw [e2, size_20]; decide) (by omega)
      · exact go 127 (by rw [e2, size_76]) (.inr (.inr rfl)) (by rw [e2, size_76]; decide) (by omega)
    · first
        | refine wp_if_neg (by simp [hf]) ?_
        | (refine wpAny_bind ?_; refine wp_if_neg (by simp [hf]) ?_; refine wpAny_pure ?_)
      refine wpAny_pure (hQ h1 L1 es1 (ep + 1) t2 sb ⟨⟨_, ho1, ⟨hex.1, hex.2.1, hex.2.2⟩, rfl⟩, rows2, T, tup1, ld1, ?_⟩ pm)
      have z := hf
      unfold SetTable.tooFull at z
      rw [decide_eq_true_eq, e9] at z
      rw [hlen]
      omega
  by_cases hp1 : t1.plain = true
  · first
      | (refine wpAny_bind ?_; refine wp_if_pos hp1 ?_; refine byVal_S hx ?_)
      | refine wp_if_pos hp1 (wpAny_bind (byVal_S hx ?_))
    simp only [Bool.false_eq_true, if_false]
    exact rest { t1 with plain := false } (tab_plain q3) q4 q5 q9
  · first
      | (refine wpAny_bind ?_; refine wp_if_neg hp1 ?_; refine wpAny_pure ?_)
      | refine wp_if_neg hp1 (wpAny_bind (wpAny_pure ?_))
    simp only [if_true]
    exact rest t1 q3 q4 q5 q9
end
end Kp
namespace Kp
open PySem PySem.Spec PyProof.Rows L2
section
variable {P : Program} {w : World} {A : Around} {E : Value → Shared → Prop} {s : Shared}
/-- an empty set, as it is made -/
abbrev set0 (w : World) : Obj := { cls := .type "set", dict := none, data := .set #[] 0 (.fresh 0 0 (!w.params.followText "set-order")) }
theorem setS_keep {h h' : Heap} {a : Addr} {L : Kys} {es : Array (Int × Value)} {ep : Nat} {t : SetTable} (R : SetS P w h a L es ep t) (ha : ∀ o, h.get? a = some o → h'.get? a = some o) (ht : ∀ p ∈ L, IsS P w h' p.2 p.1) : SetS P w h' a L es ep t := by
  obtain ⟨o, ho, r⟩ := R.ob
  exact ⟨⟨o, ha o ho, r⟩, R.rows, R.tab, ht, R.led, R.room⟩
theorem setS_0 {h : Heap} {a : Addr} (ho : h.get? a = some (set0 w)) : SetS P w h a [] #[] 0 (.fresh 0 0 (!w.params.followText "set-order")) where
  ob := ⟨_, ho, ⟨rfl, rfl, rfl⟩, rfl⟩
  rows := rfl
  tab := ⟨List.Pairwise.nil, rfl, rfl, .inl rfl, fun x hx => (by cases hx), fun i h j hi => (by simp at hi)⟩
  tup := fun p hp => (by cases hp)
  led := by
    show _ ∨ (!w.params.followText "set-order") = true
    cases w.params.followText "set-order" with
    | false => exact .inr rfl
    | true => exact .inl rfl
  room := by
    show 0 * 5 < 7 * 3
    decide
/-- all of the list goes in -/
theorem loopS {I : Addr} {fp wr : List Addr} {G : Array GenState → Array GenState → Prop} {n : Nat} {Pv : Nat → Value → Prop} {St : Nat → Shared → Prop} {R : Result → Shared → Prop} (W : WalksS P w A.in1 I fp wr G n Pv St) (S : Addr) (out : S ∉ fp)
    (ks : Kys) (hn : n = ks.length) (few : ks.length < 64) (nd : (ks.map (·.2)).Nodup) (val : ∀ i v, Pv i v → ∃ p, ks[i]? = some p ∧ v = .ref p.1) (h0 : Heap) (hk : ∀ p ∈ ks, IsS P w h0 p.2 p.1) (hS0 : h0.get? S = none)
    (hw0 : ∀ b ∈ wr, h0.get? b = none) (hu : A.in1.units < cLine) :
    ∀ (m i : Nat) (s : Shared), n - i = m → i ≤ n → St i s → (∀ b o, h0.get? b = some o → s.heap.get? b = some o) → (∃ L es ep t, SetS P w s.heap S L es ep t ∧ L.Perm (ks.take i)) →
      (∀ s' L es ep t, Moved (S :: wr) G s s' → SetS P w s'.heap S L es ep t → L.Perm ks → (∀ b o, h0.get? b = some o → s'.heap.get? b = some o) → R (.ok (.ret .none)) s') →
      codeAny (model P w) A (.builtin "set.update.loop" ⟨[.ref S, .ref I], []⟩) R s := by
  have noS : S ∉ wr := fun h => out (W.sub _ h)
  have wide : ∀ b ∈ wr, b ∈ S :: wr := fun b hb => List.mem_cons_of_mem _ hb
  have still : ∀ {s s' : Shared}, Moved wr G s s' → (∀ b o, h0.get? b = some o → s.heap.get? b = some o) → ∀ b o, h0.get? b = some o → s'.heap.get? b = some o := fun hm kp b o e =>
    hm.heap b o (fun hb => by
      rw [hw0 b hb] at e
      cases e) (kp b o e)
  intro m
  induction m with
  | zero =>
    intro i s hm hi st kp ⟨L, es, ep, t, hS, pm⟩ hR
    have e : i = n := by omega
    subst e
    refine codeAny_builtin F.entry_set_update_loop ?_
    rw [Around.under_plainId F.plain_set_update_loop _]
    refine wpAny_bind (W.done s _ _ st fun s' mv => ?_)
    have kp' := still mv kp
    rw [hn, List.take_length] at pm
    exact wpAny_pure (hR s' L es ep t (mv.mono wide) (setS_keep hS (fun o q => mv.heap S o noS q) fun p hp => isS_keep (hk p (pm.mem_iff.mp hp)) (fun o q => kp' _ o q)) pm kp')
  | succ m ih =>
    intro i s hm hi st kp ⟨L, es, ep, t, hS, pm⟩ hR
    have lt : i < n := by omega
    refine codeAny_builtin F.entry_set_update_loop ?_
    rw [Around.under_plainId F.plain_set_update_loop _]
    refine wpAny_bind (W.item i s _ _ lt st fun v s' hP st' mv => ?_)
    obtain ⟨p, hp, rfl⟩ := val i v hP
    have kp' := still mv kp
    have sub : ∀ q ∈ L, q ∈ ks := fun q hq => List.mem_of_mem_take (pm.mem_iff.mp hq)
    have hS' : SetS P w s'.heap S L es ep t := setS_keep hS (fun o q => mv.heap S o noS q) fun q hq => isS_keep (hk q (sub q hq)) (fun o z => kp' _ o z)
    have hx : IsS P w s'.heap p.2 p.1 := isS_keep (hk p (List.mem_of_getElem? hp)) (fun o z => kp' _ o z)
    have hll : L.length = i := by
      rw [pm.length_eq, List.length_take]
      omega
    have fresh : ∀ q ∈ L, q.2 ≠ p.2 := fun q hq e => by
      obtain ⟨j, hj, ej⟩ := List.mem_iff_getElem.mp (pm.mem_iff.mp hq)
      rw [List.length_take] at hj
      rw [List.getElem_take] at ej
      have h1 : (ks.map (·.2))[j]? = some p.2 := by rw [List.getElem?_map, List.getElem?_eq_getElem (by omega), ej, Option.map_some, e]
      have h2 : (ks.map (·.2))[i]? = some p.2 := by rw [List.getElem?_map, hp, Option.map_some]
      have := nd_ix nd h1 h2
      omega
    show wpAny _ A.in1 (holding [Value.ref p.1] (setAdd S (.ref p.1)) >>= _) _ _ s'
    refine wpAny_bind (wpAny_holding ?_)
    unfold setAdd
    refine wpAny_holding ?_
    refine wpAny_bind (wpAny_pyHash_tuple hu hx ?_)
    refine addS (s := { s' with toks := s'.toks + ((kS p.2).length + 1) }) hS' hx hu (by omega) fresh fun h' L' es' ep' t' sb S2 pm2 => ?_
    have pm3 : L'.Perm (ks.take (i + 1)) := by
      rw [take_snoc hp]
      exact (pm2.trans (pm.cons p)).trans (List.perm_append_singleton p (ks.take i)).symm
    have kp2 : ∀ b o, h0.get? b = some o → h'.get? b = some o := fun b o e => (sb.2 b (fun z => by
      rw [z, hS0] at e
      cases e)).trans (kp' b o e)
    refine wpAny_pure ⟨plainId_quiet F.plain_set_update_loop _, ih (i + 1) _ (by omega) lt (W.frame _ s' _ _ st' (Nat.le_add_right _ _) fun b hb o e => ?_) kp2 ⟨L', es', ep', t', S2, pm3⟩ fun s'' L2 es2 ep2 t2 mv2 S3 pm4 kp3 => ?_⟩
    · rw [sb.2 b fun z => out (by rw [← z]; exact hb)]
      exact e
    · refine hR s'' L2 es2 ep2 t2 (Moved.trans W.gtrans ((mv.mono wide).then_heap (Nat.le_add_right _ _) fun b o hb e => ?_) mv2) S3 pm4 kp3
      rw [sb.2 b fun z => hb (by rw [z]; exact List.mem_cons_self)]
      exact e
/-- set(xs) -/
theorem callS {l : Addr} {items : Array Value} (ks : Kys) {Q : Value → Shared → Prop} (hh : A.handled = none) (hl : s.heap.IsList l items) (hit : items.toList = ks.map fun p => Value.ref p.1) (hk : ∀ p ∈ ks, IsS P w s.heap p.2 p.1) (few : ks.length < 64)
    (nd : (ks.map (·.2)).Nodup) (hu : A.units + 3 < cLine) (h : ∀ (h' : Heap) (tk : Nat) L es ep t, SetS P w h' s.heap.objs.size L es ep t → L.Perm ks → (∀ b o, s.heap.get? b = some o → h'.get? b = some o) → Q (.ref s.heap.objs.size) { s with heap := h', toks := tk }) :
    wpAny (model P w) A (call (.type "set") [.ref l]) Q E s := by
  have hisz : items.size = ks.length := by rw [← Array.length_toList, hit, List.length_map]
  obtain ⟨c, tl, hmro⟩ := F.called_set.mro
  have hmade := F.called_set.made
  have hsub := F.called_set.sub
  refine wpAny_call (codeAny_of_tree ?_)
  show wpAny _ _ (callAny (.type "set") _) _ _ _
  refine wpAny_pure ⟨Code.quiet_builtin _ (by decide +kernel), codeAny_builtin F.entry_type_call ?_⟩
  rw [Around.under_plain (weight_type_call_type "set" [.ref l] []) rfl]
  have h1 := F.called_set.notType
  have h2 := F.called_set.canCreate
  have hct := F.typeCall_set_1 (.ref l)
  repeat (any_goals (first | assumption | wp_step))
  refine codeAny_mono (code_set_led1 (.ref l) (E := E) (Q₁ := fun obj z => obj = .ref s.heap.objs.size ∧ z = { s with heap := s.heap.push (set0 w) }) ⟨rfl, rfl⟩) fun r z hr => ?_
  cases r with
  | error e => exact hr
  | ok fl =>
    cases fl with
    | ret obj =>
      obtain ⟨rfl, rfl⟩ := hr
      have hS : (s.heap.push (set0 w)).get? s.heap.objs.size = some (set0 w) := Heap.get?_push_size _ rfl
      have hT : Shared.TypeIs { s with heap := s.heap.push (set0 w) } (.ref s.heap.objs.size) "set" := ⟨_, hS, rfl⟩
      have hli := F.called_set.init.lookup
      have hbi := F.called_set.init.bind (.ref s.heap.objs.size)
      repeat (any_goals (first | assumption | wp_step))
      refine codeAny_mono (codeAny_call_builtin (R := wants (fun r z => r = .none ∧ ∃ h' tk L es ep t, z = { s with heap := h', toks := tk } ∧ SetS P w h' s.heap.objs.size L es ep t ∧ L.Perm ks ∧ ∀ b o, s.heap.get? b = some o → h'.get? b = some o) E)
        F.called_set.init.plain F.entry_set_init (check_set_init_1 hT ?_)) fun r2 z2 hr2 => ?_
      · obtain ⟨ol, hol, hcl, nl, hdl⟩ := hl
        obtain ⟨ocls, odict, odata, oslots⟩ := ol
        simp only at hcl hdl
        subst hcl hdl
        have hol' : (s.heap.push (set0 w)).get? l = some { cls := .type "list", dict := odict, data := .seq items nl, slots := oslots } := Heap.get?_push_of_some _ hol
        have hsls := F.sub_list_set
        have hslf := F.sub_list_frozenset
        have hne : (Value.type "list" == Value.type "dict") = false := by decide
        have hl1 : (s.heap.push (set0 w)).IsList l items := ⟨_, hol', rfl, nl, rfl⟩
        unfold Builtin.«set.__init__» noKeywords Builtin.Frozenset.updateFrom
        generalize hPI : pyIter = PI
        wp_walk
        subst hPI
        refine wpAny_pyIter_list hl1 ?_
        refine wpAny_bind (wpAny_runValue ?_)
        have lt : l < s.heap.objs.size := Heap.lt_size hol
        have calm3 : A.in1.in1.in1.handled = none := by simp [hh]
        have neI : l ≠ (s.heap.push (set0 w)).objs.size := by
          rw [Heap.size_push]
          exact Nat.ne_of_lt (Nat.lt_succ_of_lt lt)
        have outS : s.heap.objs.size ∉ [(s.heap.push (set0 w)).objs.size, l] := by
          rw [Heap.size_push]
          simp only [List.mem_cons, List.not_mem_nil, or_false, not_or]
          exact ⟨Nat.ne_of_lt (Nat.lt_succ_self _), Nat.ne_of_gt lt⟩
        have val : ∀ (i : Nat) (v : Value), items[i]? = some v → ∃ p, ks[i]? = some p ∧ v = .ref p.1 := fun i v hv => by
          have q : items.toList[i]? = some v := by
            rw [Array.getElem?_toList]
            exact hv
          rw [hit, List.getElem?_map] at q
          obtain ⟨p, e1, e2⟩ := Option.map_eq_some_iff.mp q
          exact ⟨p, e1, e2.symm⟩
        have none_of : ∀ b, s.heap.objs.size ≤ b → s.heap.get? b = none := fun b hb => by
          cases q : s.heap.get? b with
          | none => rfl
          | some o => exact absurd (Nat.lt_of_lt_of_le (Heap.lt_size q) hb) (Nat.lt_irrefl _)
        refine loopS ((Walks.list calm3 _ l neI items).toS) s.heap.objs.size outS ks hisz few nd val s.heap hk (none_of _ (Nat.le_refl _)) (fun b hb => none_of b (by
            rw [List.mem_singleton.mp hb, Heap.size_push]
            exact Nat.le_succ _)) hu (items.size - 0) 0 _ (by omega) (Nat.zero_le _)
          ⟨⟨_, Heap.get?_push_size _ rfl, rfl, rfl⟩, (hl1.push _)⟩ (fun b o e => Heap.get?_push_of_some _ (Heap.get?_push_of_some _ e)) ?hS0 ?hR
        case hS0 => exact ⟨[], #[], 0, _, setS_0 (Heap.get?_push_of_some _ hS), by rw [List.take_zero]⟩
        case hR =>
          intro s' L es ep t mv S' pm kp
          obtain ⟨h', g2, d', tk', os'⟩ := s'
          have eg : g2 = s.gens := mv.gens
          have ed : d' = s.drawn := mv.drawn
          have eo : os' = s.os := mv.os
          subst eg ed eo
          refine wpAny_pure ?_
          exact wpAny_pure ⟨rfl, h', tk', L, es, ep, t, rfl, S', pm, kp⟩
      · cases r2 with
        | error e => exact hr2
        | ok fl2 =>
          cases fl2 with
          | ret r =>
            obtain ⟨rfl, h', tk, L, es, ep, t, rfl, S', pm, k'⟩ := hr2
            repeat (any_goals (first | assumption | wp_step))
            exact h _ _ _ _ _ _ S' pm k'
          | _ => exact hr2.elim
    | _ => exact hr.elim
end
/-! ### the rules -/
/-- a set of so many -/
def SetN (a : Addr) (n : Nat) : HO := .ext fun h => ∃ (o : Obj) (es : Array (Int × Value)) (ep : Nat) (t : SetTable), h.get? a = some o ∧ o.ExactSet ∧ o.data = .set es ep t ∧ t.fits es.size = true ∧ es.size = n
def rSetPr : List V → Hp → VK → Prop := fun vs H Q => ∃ (a : Addr) (xs : List V) (ts : List Pr), vs = [.ref a] ∧ H a = some (.lst xs) ∧ DtAll H xs (ts.map dP) ∧ ts.length < 64 ∧ ts.Nodup ∧ ∀ p, H p = none → Q (.ref p) (upd H p (SetN p ts.length))
theorem dt_keys {H : Hp} : ∀ {bs : List (V × Pr)}, (∀ b ∈ bs, Dt H b.1 (dP b.2)) → ∃ ks : Kys, bs.map (·.1) = ks.map (fun p => V.ref p.1) ∧ bs.map (·.2) = ks.map (·.2) ∧ ∀ p ∈ ks, ∃ o, H p.1 = some o ∧ PrO o p.2.1 p.2.2
  | [], _ => ⟨[], rfl, rfl, fun p hp => nomatch hp⟩
  | b :: bs, h => by
    obtain ⟨ks, e1, e2, k⟩ := dt_keys fun c hc => h c (List.mem_cons_of_mem _ hc)
    obtain ⟨q, o, e3, hq, po⟩ := dt_pr (h b List.mem_cons_self)
    refine ⟨(q, b.2) :: ks, by rw [List.map_cons, List.map_cons, e1, e3], by rw [List.map_cons, List.map_cons, e2], fun p hp => ?_⟩
    rcases List.mem_cons.mp hp with e | hp
    · rw [e]
      exact ⟨o, hq, po⟩
    · exact k p hp
theorem ref_vals : ∀ {ks : Kys} {us : List Value}, Vals (ks.map fun p => V.ref p.1) us → us = ks.map fun p => Value.ref p.1
  | [], _, r => by
    cases r
    rfl
  | p :: ks, _, r => by
    cases r with
    | cons a t =>
      cases a
      rw [ref_vals t]
      rfl
section
variable {X : Cx}
theorem inv_isS {pins : List (Addr × Obj)} {σ : L2.St} {H : Hp} {s : Shared} (I : Inv X pins σ H s) {b : Addr} {t : Pr} (h : ∃ o, H b = some o ∧ PrO o t.1 t.2) : IsS X.prog X.w s.heap t b := by
  obtain ⟨u, hu, po⟩ := h
  obtain ⟨its, r, ⟨o, ho, hc, n, hd⟩, _⟩ := I.tuple (po.sq hu)
  cases r with
  | cons a r =>
    cases r with
    | cons b r =>
      cases r
      obtain ⟨t1, rfl⟩ := a
      obtain ⟨t2, rfl⟩ := b
      exact ⟨o, _, n, ho, hc, hd, .cons (strKind_is _ _ _ _) (.cons (strKind_is _ _ _ _) .nil)⟩
theorem cr_setPr (hc : X.calm = true) (hu : X.A.units + 64 < cLine) : CallR X (.type "set") rSetPr := by
  intro pins s σ H vs us Q I r h
  obtain ⟨a, xs, ts, rfl, hs, dt, hl, nd, q⟩ := h
  obtain ⟨its, rv, pl, _⟩ := I.list (SqL.of hs)
  obtain ⟨bs, e1, e2, each⟩ := dt_zip dt
  obtain ⟨ks, e3, e4, hk⟩ := dt_keys each
  have ets : ts = ks.map (·.2) := e2.symm.trans e4
  rw [← e1, e3] at rv
  rw [Vals.ref1 r]
  have few : ks.length < 64 := by
    rw [ets, List.length_map] at hl
    exact hl
  refine callS (P := X.prog) (w := X.w) ks (I.ok.hd hc) pl.isList (by simpa using ref_vals rv) (fun p hp => inv_isS I (hk p hp)) few (by rw [← ets]; exact nd) (by omega) fun h' tk L es ep t R pm k => ?_
  have hn : H s.heap.objs.size = none := I.hok.fresh (Nat.le_refl _)
  obtain ⟨o, ho, hex, hd⟩ := R.ob
  have hsz : es.size = ts.length := by
    have z := congrArg List.length R.rows
    rw [Array.length_toList, List.length_map, pm.length_eq] at z
    rw [z, ets, List.length_map]
  have ps : t.place.size = L.length := by
    have z := R.tab.sz
    rw [List.length_map] at z
    exact z
  have fit : t.fits es.size = true := fits_of (by rw [ps, hsz, ets, List.length_map, pm.length_eq]) R.tab.dm (by
    have z := R.room
    rw [pm.length_eq] at z
    rw [hsz, ets, List.length_map]
    omega)
  refine ⟨.ref s.heap.objs.size, upd H s.heap.objs.size (SetN s.heap.objs.size ts.length), I.laid (t' := tk) k (Nat.le_refl _) ?_, rfl, q _ hn⟩
  exact ⟨⟨o, es, ep, t, ho, hex, hd, fit, hsz⟩, ⟨o, ho⟩, fun h1 h2 z f => by
    obtain ⟨o1, es1, ep1, t1, z1, z2⟩ := z
    exact ⟨o1, es1, ep1, t1, f _ z1, z2⟩⟩
/-- len of it -/
theorem cr_lenN : CallR X (.builtin "len") (fun vs H Q => ∃ (a : Addr) (n : Nat), vs = [.ref a] ∧ H a = some (SetN a n) ∧ n ≤ 1000 ∧ Q (.int (n : Nat)) H) := by
  intro pins s σ H vs us Q I r h
  obtain ⟨a, n, rfl, ha, hn, q⟩ := h
  rw [Vals.ref1 r]
  have x : ObjOk X.prog X.w H s.heap a (SetN a n) := I.hok a _ ha
  obtain ⟨⟨o, es, ep, t, ho, hex, hd, fit, hsz⟩, _⟩ := x
  refine call_len_set ho hex hd fit (by rw [hsz]; omega) ⟨.int n, H, I.tok _, ⟨_, by rw [hsz]⟩, q⟩
end
end Kp
namespace Kp
open PySem PySem.Spec PyProof.Rows L2
/-! ### webs: the data -/
theorem valV_no {kvs : List (L2.Key × V)} {k : L2.Key} (h : ¬ k ∈ kvs.map (·.1)) : valV kvs k = none := by
  cases e : valV kvs k with
  | none => rfl
  | some v => exact absurd (valV_in e) h
theorem mergeK_app : ∀ (more acc : List (L2.Key × V)), ((acc ++ more).map (·.1)).Nodup → mergeK acc more = acc ++ more
  | [], acc, _ => by
    rw [List.append_nil]
    rfl
  | p :: more, acc, h => by
    have e : acc ++ p :: more = (acc ++ [p]) ++ more := by simp
    rw [e] at h ⊢
    have hn : ¬ p.1 ∈ acc.map (·.1) := by
      rw [List.map_append, List.map_append] at h
      have h1 := (List.nodup_append.mp h).1
      intro m
      exact (List.nodup_append.mp h1).2.2 _ m _ (by simp) rfl
    show mergeK (putK acc p.1 p.2) more = _
    rw [putK_new p.2 (valV_no hn)]
    exact mergeK_app more (acc ++ [p]) h
theorem mergeK_nil {kvs : List (L2.Key × V)} (h : (kvs.map (·.1)).Nodup) : mergeK [] kvs = kvs := mergeK_app kvs [] h
abbrev kk (x : Str) : L2.Key := Sum.inr x
theorem kk_inj {x y : Str} (h : kk x = kk y) : x = y := Sum.inr.inj h
def hK (hs : List (Str × Int)) : List (L2.Key × V) := hs.map fun h => (kk h.1, V.int h.2)
theorem hK_keys (hs : List (Str × Int)) : (hK hs).map (·.1) = (hs.map (·.1)).map kk := by
  unfold hK
  rw [List.map_map, List.map_map]
  rfl
theorem nodup_kk {xs : List Str} (h : xs.Nodup) : (xs.map kk).Nodup := by
  refine List.Pairwise.map _ (fun a b hab e => hab (kk_inj e)) h
structure HandsOk (hs : List (Str × Int)) : Prop where
  lo : 1 ≤ hs.length
  hi : hs.length ≤ 8
  nm : ∀ h ∈ hs, Nm h.1 ∧ 1 ≤ h.2 ∧ h.2 ≤ 1000
  nd : (hs.map (·.1)).Nodup
structure TiesOk (hs : List (Str × Int)) (ts : List Pr) : Prop where
  ne : ∀ t ∈ ts, t.1 ≠ t.2
  mem : ∀ t ∈ ts, t.1 ∈ hs.map (·.1) ∧ t.2 ∈ hs.map (·.1)
  nd : (ts.map sP).Nodup
  len : ts.length < 64
theorem HandsOk.nd' {hs : List (Str × Int)} (h : HandsOk hs) : ((hK hs).map (·.1)).Nodup := by
  rw [hK_keys]
  exact nodup_kk h.nd
theorem HandsOk.name {hs : List (Str × Int)} (h : HandsOk hs) {x : Str} (m : x ∈ hs.map (·.1)) : Nm x := by
  obtain ⟨p, hp, rfl⟩ := List.mem_map.mp m
  exact (h.nm p hp).1
theorem TiesOk.nm1 {hs : List (Str × Int)} {ts : List Pr} (k : TiesOk hs ts) (h : HandsOk hs) {t : Pr} (m : t ∈ ts) : Nm t.1 ∧ Nm t.2 := ⟨h.name (k.mem t m).1, h.name (k.mem t m).2⟩
theorem hK_has {hs : List (Str × Int)} {x : Str} (m : x ∈ hs.map (·.1)) : (valV (hK hs) (kk x)).isSome = true := by
  rw [← valV_any]
  refine List.any_eq_true.mpr ?_
  obtain ⟨p, hp, rfl⟩ := List.mem_map.mp m
  exact ⟨(kk p.1, V.int p.2), List.mem_map.mpr ⟨p, hp, rfl⟩, decide_eq_true rfl⟩
theorem dt_hK {K : PySem.W.Frag} {H : Hp} : ∀ {hs : List (Str × Int)} {xs : List V}, DtAll H xs (hs.map dH) → ∃ ps : List Addr, xs = ps.map V.ref ∧ Paired (fun (p : Addr) (kv : L2.Key × V) => SqT K H p [kV kv.1, kv.2]) ps (hK hs)
  | [], _, h => by
    cases h
    exact ⟨[], rfl, .nil⟩
  | h0 :: hs, _, h => by
    cases h with
    | cons a r =>
      obtain ⟨ps, e, k⟩ := dt_hK (K := K) r
      obtain ⟨q, e1, hq⟩ := dt_hd a
      exact ⟨q :: ps, by rw [List.map_cons, e1, e], .cons (SqT.of hq) k⟩
/-! ### the promises -/
def spStr : Sp := fun vs H Q _ => ∃ (l : Addr) (hs : List (Str × Int)), vs = [.ref l] ∧ Dt H (.ref l) (dHs hs) ∧ HandsOk hs ∧ ∀ H' d, Same H H' → H d = none → H' d = some (.dK (hK hs)) → Q (.ref d) H'
def spPairs : Sp := fun vs H Q _ => ∃ (l d : Addr) (hs : List (Str × Int)) (ts : List Pr), vs = [.ref l, .ref d] ∧ Dt H (.ref l) (dPs ts) ∧ H d = some (.dK (hK hs)) ∧ HandsOk hs ∧ TiesOk hs ts ∧
  ∀ H' p us, Same H H' → H p = none → us.Perm (ts.map sP) → Dt H' (.ref p) (dPs us) → Q (.ref p) H'
section
variable {P : Program} {w : World} {K : PySem.W.Frag} {mg : Str → Option Value} {base : Heap}
theorem bl1 {b : Bool} (h : b = true) : [V.bl b] ++ [] = [V.bl true] := by
  rw [h]
  rfl
theorem rep_all {n : Nat} : (List.replicate n true).all id = true := List.all_eq_true.mpr fun b hb => (List.mem_replicate.mp hb).2
theorem rep_at {n i : Nat} {d : PyData} (hi : i < n) (h : ((List.replicate n true).map PyData.bool)[i]? = some d) : d = PyData.bool true := by
  rw [List.getElem?_map, List.getElem?_replicate, if_pos hi] at h
  exact (Option.some.inj h).symm
theorem rep_len {n : Nat} : ((List.replicate n true).map PyData.bool).length = n := by rw [List.length_map, List.length_replicate]
theorem scStr : FnScope ["hands", "found", "row"] ["hands"] (defScope (top 29)) := ⟨rfl, rfl, rfl, by decide +kernel, rfl, by decide +kernel, by decide +kernel⟩
theorem ok_str {f : Addr} {fd : FuncData} (F : FnP K "strengths_of" "strengths_of" (top 29) f fd) (T : Txt K mg) (GS : Gn P w K mg base CX0 1 "sure" ["good"] spSure) (GH : Gn P w K mg base CX0 3 "is_hand_row" ["thing"] spHand) :
    FnOk P w K mg base CX0 4 f fd ["hands"] spStr := by
  obtain ⟨tm, hm⟩ := T.int 46
  refine def_ok F scStr (fun vs H Q E h => ?_) (fun cdv A outer s H vs Q E hr h => ?_)
  · obtain ⟨l, hs, rfl, _⟩ := h
    rfl
  · obtain ⟨l, hs, rfl, dt, ok, k⟩ := h
    obtain ⟨xs, hl, da⟩ := dt.list_inv
    have hlen : xs.length = hs.length := by rw [da.len, List.length_map]
    have h8 := ok.hi
    refine ⟨_, pss_cons (ps_expr (pe_g GS hr (pa_cons (pe_and (pe_isi (T.free 30) (T.free 35) boot_listT (pv 0)) (pe_one (pe_chain op_le op_le pe_int (pe_callB call_len_seq (by rfl) (T.free 37) PySem.boot_len (pa_cons (pv 0) pa_nil)) (pe_glob (v := .int 8) (by rfl) hm ⟨_, rfl⟩)))) pa_nil) pass0))
      (pss_cons (ps_expr (pe_g GS hr (pa_cons (pe_callB (cr_all rfl) (by rfl) (T.free 38) boot_allB (pa_cons (pe_lc (own := [("row", 2)]) (g := gName 2) (tt := tYes) rfl scStr.nd (pi_list (pv 0))
        (blkOk_by (N := ["hands", "found", "row"]) (sc := defScope (top 29)) (by decide +kernel)) (fun _ _ _ _ _ => pg_name (i := 2) scStr.nd rfl (Or.inl rfl)) (fun _ _ _ _ _ => pts_nil) (fun _ _ _ _ _ => pe_g GH hr (pa_cons (pv 2) pa_nil) pass0)) pa_nil)) pa_nil) pass0))
      (pss_cons (ps_set (i := 1) scStr.nd rfl (Or.inl rfl) (pe_callTy (call_dictP rfl) (by rfl) (T.free 36) boot_dictT (pa_cons (pv 0) pa_nil)))
      (pss_cons (ps_expr (pe_g GS hr (pa_cons (pe_cmpR op_eq (pe_callB call_lenD (by rfl) (T.free 37) PySem.boot_len (pa_cons (pv 1) pa_nil)) (pe_callB call_len_seq (by rfl) (T.free 37) PySem.boot_len (pa_cons (pv 0) pa_nil)) (nomark _)) pa_nil) pass0))
      (pss_one (ps_ret (pv 1)))))), ?_⟩
    refine ⟨_, rfl, .ref l, "list", true, rfl, .base (.lst hl), ki_ll, true, rfl, iteT ?_⟩
    refine ⟨_, rfl, l, _, rfl, .inl (SqL.of hl), _, _, rfl, rfl, _, rfl, iteB (decide_eq_true (by have := ok.lo; omega)) ⟨_, _, rfl, rfl, ?_⟩⟩
    refine ⟨bl1 (decide_eq_true (by omega)), ?_⟩
    refine ⟨_, rfl, l, rfl, ⟨_, SqL.of hl⟩, fun D hD => ?_⟩
    refine lc_data (walk_list (xs := xs)) ((List.replicate xs.length true).map PyData.bool) rep_len (small1000 (by omega)) hD (fun H1 s1 => s1.seq (SqL.of hl)) ?_ ?_
    · rintro i v d H1 H2 R hi hd s1 hn ⟨rfl, hv⟩ kk
      have ed := rep_at hi hd
      subst ed
      obtain ⟨d2, e2, dv⟩ := da.get hv
      rw [List.getElem?_map] at e2
      obtain ⟨h0, e3, rfl⟩ := Option.map_eq_some_iff.mp e2
      obtain ⟨q, rfl, hq⟩ := dt_hd dv
      have nm := ok.nm h0 (List.mem_of_getElem? e3)
      exact ⟨rfl, _, rfl, q, h0, rfl, s1 _ _ hq, nm.1, nm.2.1, nm.2.2, fun H3 s3 => kk _ _ s3 (.bl true)⟩
    · intro H1 s1 d1
      refine ⟨D, List.replicate xs.length true, rfl, d1.bools, ?_⟩
      refine ⟨bl1 rep_all, ?_⟩
      have hl1 := s1 _ _ hl
      obtain ⟨ps, ex, pd⟩ := dt_hK (K := K) (da.up s1)
      refine ⟨_, rfl, l, ps, hK hs, rfl, by rw [← ex]; exact SqL.of hl1, pd, fun d hd => ?_⟩
      rw [mergeK_nil ok.nd']
      have s2 := same_new (o := .dK (hK hs)) hd
      refine ⟨_, rfl, d, _, rfl, upd_same, _, rfl, l, _, rfl, .inl (SqL.of (s2 _ _ hl1)), rfl, ?_⟩
      refine ⟨?_, _, rfl, k _ d (s1.trans s2) (none_back s1 hd) upd_same⟩
      have e : ((hK hs).length : Int) = (xs.length : Int) := by
        unfold hK
        rw [List.length_map, hlen]
      exact bl1 (decide_eq_true (by rw [e]))
end
end Kp
namespace Kp
open PySem PySem.Spec PyProof.Rows L2
section
variable {P : Program} {w : World} {K : PySem.W.Frag} {mg : Str → Option Value} {base : Heap}
theorem at_map {α : Type} {f : α → PyData} {l : List α} {i : Nat} {d : PyData} (h : (l.map f)[i]? = some d) : ∃ x, l[i]? = some x ∧ d = f x := by
  rw [List.getElem?_map] at h
  obtain ⟨x, e, r⟩ := Option.map_eq_some_iff.mp h
  exact ⟨x, e, r.symm⟩
theorem scPairs : FnScope ["ties", "strengths", "found", "pair", "one", "other"] ["ties", "strengths"] (defScope (top 30)) := ⟨rfl, rfl, rfl, by decide +kernel, rfl, by decide +kernel, by decide +kernel⟩
theorem ok_pairs {f : Addr} {fd : FuncData} (F : FnP K "pairs_of" "pairs_of" (top 30) f fd) (T : Txt K mg) (GS : Gn P w K mg base CX0 1 "sure" ["good"] spSure) (GP : Gn P w K mg base CX0 2 "is_pair" ["thing"] spPair)
    (GO : Gn P w K mg base CX0 1 "sorted_pair" ["pair"] spSorted) : FnOk P w K mg base CX0 3 f fd ["ties", "strengths"] spPairs := by
  refine def_ok F scPairs (fun vs H Q E h => ?_) (fun cdv A outer s H vs Q E hr h => ?_)
  · obtain ⟨l, d, hs, ts, rfl, _⟩ := h
    rfl
  · obtain ⟨l, d, hs, ts, rfl, dt, hd, okh, okt, k⟩ := h
    obtain ⟨xs, hl, da⟩ := dt.list_inv
    have hlen : xs.length = ts.length := by rw [da.len, List.length_map]
    have h64 := okt.len
    have hu := hu_of hr
    refine ⟨_, pss_cons (ps_expr (pe_g GS hr (pa_cons (pe_and (pe_isi (T.free 30) (T.free 35) boot_listT (pv 0)) (pe_one (pe_callB (cr_all rfl) (by rfl) (T.free 38) boot_allB (pa_cons (pe_lc (own := [("pair", 3)]) (g := gName 3) (tt := tYes) rfl scPairs.nd (pi_list (pv 0))
        (blkOk_by (N := ["ties", "strengths", "found", "pair", "one", "other"]) (sc := defScope (top 30)) (by decide +kernel)) (fun _ _ _ _ _ => pg_name (i := 3) scPairs.nd rfl (Or.inl rfl)) (fun _ _ _ _ _ => pts_nil) (fun _ _ _ _ _ => pe_g GP hr (pa_cons (pv 3) pa_nil) pass0)) pa_nil)))) pa_nil) pass0))
      (pss_cons (ps_set (i := 2) scPairs.nd rfl (Or.inl rfl) (pe_callB (cr_sortedPr hr.units) (by rfl) (T.free 39) boot_sortedB (pa_cons (pe_lc (own := [("pair", 3)]) (g := gName 3) (tt := tYes) rfl scPairs.nd (pi_list (pv 0))
        (blkOk_by (N := ["ties", "strengths", "found", "pair", "one", "other"]) (sc := defScope (top 30)) (by decide +kernel)) (fun _ _ _ _ _ => pg_name (i := 3) scPairs.nd rfl (Or.inl rfl)) (fun _ _ _ _ _ => pts_nil) (fun _ _ _ _ _ => pe_g GO hr (pa_cons (pv 3) pa_nil) pass0)) pa_nil)))
      (pss_cons (ps_expr (pe_g GS hr (pa_cons (pe_callB (cr_all rfl) (by rfl) (T.free 38) boot_allB (pa_cons (pe_lc (own := [("one", 4), ("other", 5)]) (g := gTup K 2 (gCons (gName 4) (gCons (gName 5) gNil))) (tt := tYes) rfl scPairs.nd (pi_list (pv 2))
        (blkOk_by (N := ["ties", "strengths", "found", "pair", "one", "other"]) (sc := defScope (top 30)) (by decide +kernel)) (fun _ _ _ _ _ => pg_tup rfl (pgs_cons (pg_name (i := 4) scPairs.nd rfl (Or.inl rfl)) (pgs_cons (pg_name (i := 5) scPairs.nd rfl (Or.inl rfl)) pgs_nil))) (fun _ _ _ _ _ => pts_nil)
        (fun _ _ _ _ _ => pe_and (pe_cmp (pc_din hu (pv 4) (pv 1)) (by rfl)) (pe_one (pe_cmp (pc_din hu (pv 5) (pv 1)) (by rfl))))) pa_nil)) pa_nil) pass0))
      (pss_cons (ps_expr (pe_g GS hr (pa_cons (pe_cmpR op_eq (pe_callB cr_lenN (by rfl) (T.free 37) PySem.boot_len (pa_cons (pe_callTy (cr_setPr rfl hr.units) (by rfl) (T.free 40) boot_setT (pa_cons (pv 2) pa_nil)) pa_nil)) (pe_callB call_len_seq (by rfl) (T.free 37) PySem.boot_len (pa_cons (pv 2) pa_nil)) (nomark _)) pa_nil) pass0))
      (pss_one (ps_ret (pv 2)))))), ?_⟩
    -- sure(isinstance(ties, list) and all([is_pair(pair) for pair in ties]))
    refine ⟨_, rfl, .ref l, "list", true, rfl, .base (.lst hl), ki_ll, true, rfl, iteT ?_⟩
    refine ⟨_, rfl, l, rfl, ⟨_, SqL.of hl⟩, fun D hD => ?_⟩
    refine lc_data (walk_list (xs := xs)) ((List.replicate xs.length true).map PyData.bool) rep_len (small1000 (by omega)) hD (fun H1 s1 => s1.seq (SqL.of hl)) ?_ ?_
    · rintro i v d H1 H2 R hi hd' s1 hn ⟨rfl, hv⟩ kk
      have ed := rep_at hi hd'
      subst ed
      obtain ⟨d2, e2, dv⟩ := da.get hv
      obtain ⟨t, e3, rfl⟩ := at_map e2
      obtain ⟨q, oq, rfl, hq, po⟩ := dt_pr dv
      have mt := List.mem_of_getElem? e3
      have nm := okt.nm1 okh mt
      refine ⟨rfl, _, rfl, q, _, t, rfl, s1 _ _ hq, po, nm.1, nm.2, fun H3 s3 => ?_⟩
      rw [decide_eq_false (okt.ne t mt)]
      exact kk _ _ s3 (.bl true)
    · intro H1 s1 d1
      refine ⟨D, List.replicate xs.length true, rfl, d1.bools, ?_⟩
      refine ⟨bl1 rep_all, ?_⟩
      have hl1 := s1 _ _ hl
      have da1 := da.up s1
      -- found = sorted([sorted_pair(pair) for pair in ties])
      refine ⟨_, rfl, l, rfl, ⟨_, SqL.of hl1⟩, fun D2 hD2 => ?_⟩
      refine lc_data (walk_list (xs := xs)) ((ts.map sP).map dP) (by rw [List.length_map, List.length_map, hlen]) (small1000 (by omega)) hD2 (fun H2 s2 => s2.seq (SqL.of hl1)) ?_ ?_
      · rintro i v d H2 H3 R hi hd' s2 hn ⟨rfl, hv⟩ kk
        obtain ⟨d2, e2, dv⟩ := da1.get hv
        obtain ⟨t, e3, rfl⟩ := at_map e2
        obtain ⟨q, oq, rfl, hq, po⟩ := dt_pr dv
        obtain ⟨t', e4, rfl⟩ := at_map hd'
        rw [List.getElem?_map, e3] at e4
        have e5 := Option.some.inj e4
        subst e5
        refine ⟨rfl, _, rfl, q, _, t, rfl, s2 _ _ hq, po, fun H4 r s4 hr4 hr5 => kk _ _ s4 (dt_prM ?_)⟩
        have ne : r ≠ D2 := fun z => hn (by rw [← z]; exact hr4)
        rw [off_out (by simp [ne])]
        exact hr5
      · intro H2 s2 d2
        obtain ⟨ys, hys, dys⟩ := d2.list_inv
        refine ⟨D2, ys, ts.map sP, rfl, hys, dys, by rw [List.length_map]; omega, fun us zs p pm hp dz => ?_⟩
        have s3 := same_new (o := .lst zs) hp
        have hz : upd H2 p (.lst zs) p = some (.lst zs) := upd_same
        have dz3 := dz.up s3
        have hlz : zs.length = us.length := by rw [dz.len, List.length_map]
        have hlu : us.length = ts.length := by rw [pm.length_eq, List.length_map]
        generalize upd H2 p (.lst zs) = H3 at s3 hz dz3
        have hd3 := s3 _ _ (s2 _ _ (s1 _ _ hd))
        -- sure(all([one in strengths and other in strengths for one, other in found]))
        refine ⟨_, rfl, p, rfl, ⟨_, SqL.of hz⟩, fun D3 hD3 => ?_⟩
        refine lc_data (walk_list (xs := zs)) ((List.replicate zs.length true).map PyData.bool) rep_len (small1000 (by omega)) hD3 (fun H4 s4 => s4.seq (SqL.of hz)) ?_ ?_
        · rintro i v d' H4 H5 R hi hd' s4 hn ⟨rfl, hv⟩ kk
          have ed := rep_at hi hd'
          subst ed
          obtain ⟨d2, e2, dv⟩ := dz3.get hv
          obtain ⟨t, e3, rfl⟩ := at_map e2
          obtain ⟨q, oq, rfl, hq, po⟩ := dt_pr dv
          have mt : t ∈ ts.map sP := pm.mem_iff.mp (List.mem_of_getElem? e3)
          obtain ⟨t0, m0, e0⟩ := List.mem_map.mp mt
          have both : t.1 ∈ hs.map (·.1) ∧ t.2 ∈ hs.map (·.1) := by
            have m := okt.mem t0 m0
            rcases sP_or t0 with e | e <;> rw [e] at e0 <;> subst e0
            · exact m
            · exact ⟨m.2, m.1⟩
          have hd4 := s4 _ _ hd3
          refine ⟨q, _, rfl, po.sq (s4 _ _ hq), rfl, _, _, rfl, _, _, rfl, rfl, rfl, ?_⟩
          refine ⟨_, rfl, _, rfl, d, _, rfl, DGet.k (k := Sum.inr t.1) hd4, _, rfl, iteB (hK_has both.1) ?_⟩
          refine ⟨_, rfl, _, rfl, d, _, rfl, DGet.k (k := Sum.inr t.2) hd4, ?_⟩
          rw [hK_has both.2]
          exact kk _ _ (Same.refl _) (.bl true)
        · intro H4 s4 d4
          refine ⟨D3, List.replicate zs.length true, rfl, d4.bools, ?_⟩
          refine ⟨bl1 rep_all, ?_⟩
          have hz4 := s4 _ _ hz
          have dz4 := dz3.up s4
          -- sure(len(set(found)) == len(found))
          have nu : us.Nodup := pm.nodup_iff.mpr okt.nd
          refine ⟨_, rfl, p, zs, us, rfl, hz4, dz4, by omega, nu, fun q hq => ?_⟩
          have s5 := same_new (o := SetN q us.length) hq
          refine ⟨q, us.length, rfl, upd_same, by omega, _, rfl, p, _, rfl, .inl (SqL.of (s5 _ _ hz4)), rfl, ?_⟩
          refine ⟨bl1 (decide_eq_true (by rw [hlz])), ?_⟩
          refine ⟨_, rfl, k _ p us ((((s1.trans s2).trans s3).trans s4).trans s5) (none_back (s1.trans s2) hp) pm (.lst (s5 _ _ hz4) (dz4.up s5))⟩
end
end Kp
namespace Kp
open PySem PySem.Spec PyProof.Rows L2
theorem hu65 {A : Around} {k : Nat} (hr : Room k A) : A.units + 65 < cLine := by
  have := hr.un
  omega
/-! ### classes -/
section
variable {K : PySem.W.Frag} {mg : Str → Option Value}
theorem Txt.cls (T : Txt K mg) (i : Nat) {x : Str} (h : fa[i]? = some (.cls x) := by rfl) : Cls K (He.ga K x) := He.cls_ok (T.d.fact i h)
theorem Txt.noat (T : Txt K mg) (i : Nat) {x f : Str} (h : fa[i]? = some (.noat x f) := by rfl) : NoAttr K (He.ga K x) f := He.noat_ok (T.d.fact i h)
theorem Txt.meth (T : Txt K mg) (i : Nat) {x m : Str} (h : fa[i]? = some (.meth x m) := by rfl) : Meth K (He.ga K x) m (He.ma K (He.ga K x) m) := He.meth_ok (T.d.fact i h)
theorem Txt.mkr (T : Txt K mg) (i : Nat) {x : Str} (h : fa[i]? = some (.mkr x) := by rfl) : Mk K (He.ga K x) (He.ma K (He.ga K x) "__init__") := He.mkr_ok (T.d.fact i h)
end
section
variable {X : Cx} {CX : CXT} {k j : Nat} {c m x : Str} {ps : List Str} {sp : Sp} {E : XK} {p pos apos : Pos} {e o : Expr} {es : List Expr} {t : TA} {ta : TE}
theorem pe_new (M : Mk X.K (He.ga X.K x) (He.ma X.K (He.ga X.K x) "__init__")) (G : Mn X.prog X.w X.K X.mg X.base CX k x "__init__" ps sp) (hr : Room j X.A) (hm : X.mg x = some (.ref (He.ga X.K x))) (ha : PA X (e :: es) t) (hx : Passes CX X E) (hk : k + 1 ≤ j := by decide)
    (hg : Gl X x := by rfl) (hdb : (x == ("__debug__" : Str)) = false := by decide) (he : starEach (e :: es) X.env = (false, eval e X.env) :: starEach es X.env := by rfl) (hpl : (backTo pos (starEach es X.env)).any (·.1) = false := by rfl) :
    PE X (.Call (.Name x p) (e :: es) [] pos) (tMake (He.ga X.K x) sp [] E t) := by
  obtain ⟨fd, F, b⟩ := G.ok
  exact pe_make M F (hr.mono hk) hg hm b .nil hx ha hdb he hpl
end
/-! ### the web as an object -/
theorem ps_ne : ¬ (("strong" : Str) = "pairs") := by decide +kernel
def wf (d l : Addr) : List (Str × V) := putF "pairs" (.ref l) (putF "strong" (.ref d) [])
theorem wf_strong (d l : Addr) : (wf d l).lookup ("strong" : Str) = some (.ref d) := by
  unfold wf
  rw [lookup_putF, if_neg ps_ne, lookup_putF, if_pos rfl]
theorem wf_pairs (d l : Addr) : (wf d l).lookup ("pairs" : Str) = some (.ref l) := by
  unfold wf
  rw [lookup_putF, if_pos rfl]
theorem wf_no (d l : Addr) {m : Str} (h1 : ¬ m = "pairs") (h2 : ¬ m = "strong") : (wf d l).lookup m = none := by
  unfold wf
  rw [lookup_putF, if_neg h1, lookup_putF, if_neg h2]
  rfl
theorem one_strong (d : Addr) : (putF "strong" (.ref d) ([] : List (Str × V))).lookup ("strong" : Str) = some (.ref d) := by
  rw [lookup_putF, if_pos rfl]
structure WebAt (K : PySem.W.Frag) (H : Hp) (x : Addr) (hs : List (Str × Int)) (ts : List Pr) : Prop where
  ob : ∃ dx d l us, H x = some (.ins (He.ga K "Web") dx (wf d l)) ∧ H d = some (.dK (hK hs)) ∧ us.Perm (ts.map sP) ∧ Dt H (.ref l) (dPs us)
  okh : HandsOk hs
  okt : TiesOk hs ts
theorem WebAt.up {K : PySem.W.Frag} {H H' : Hp} {x : Addr} {hs : List (Str × Int)} {ts : List Pr} (w : WebAt K H x hs ts) (s : Same H H') : WebAt K H' x hs ts := by
  obtain ⟨dx, d, l, us, h1, h2, h3, h4⟩ := w.ob
  exact ⟨⟨dx, d, l, us, s _ _ h1, s _ _ h2, h3, h4.up s⟩, w.okh, w.okt⟩
def tied (ts : List Pr) (a b : Str) : Bool := decide ((a, b) ∈ ts) || decide ((b, a) ∈ ts)
theorem tied_iff {ts us : List Pr} {a b : Str} (pm : us.Perm (ts.map sP)) : decide (sP (a, b) ∈ us) = tied ts a b := by
  have e : sP (a, b) ∈ us ↔ ((a, b) ∈ ts ∨ (b, a) ∈ ts) := by
    rw [pm.mem_iff, List.mem_map]
    constructor
    · rintro ⟨t, m, q⟩
      rcases sP_iff.mp q with rfl | rfl
      · exact .inl m
      · exact .inr m
    · rintro (m | m)
      · exact ⟨_, m, rfl⟩
      · exact ⟨_, m, sP_sw (a, b)⟩
  unfold tied
  rw [← Bool.decide_or]
  exact decide_eq_decide.mpr e
theorem dP_eqv (t u : Pr) : PyData.eqv (dP t) (dP u) = decide (t = u) := by
  obtain ⟨a, b⟩ := t
  obtain ⟨c, d⟩ := u
  have e : PyData.eqv (dP (a, b)) (dP (c, d)) = ((a == c) && ((b == d) && true)) := by simp only [dP, PyData.eqv, PyData.eqvAll]
  rw [e, Bool.and_true]
  by_cases h1 : a = c
  · by_cases h2 : b = d
    · subst h1 h2
      simp
    · have q : (b == d) = false := beq_eq_false_iff_ne.mpr h2
      rw [q, Bool.and_false, decide_eq_false fun z => h2 (Prod.mk.inj z).2]
  · have q : (a == c) = false := beq_eq_false_iff_ne.mpr h1
    rw [q, Bool.false_and, decide_eq_false fun z => h1 (Prod.mk.inj z).1]
theorem lets_low : ∀ c ∈ lets.cps.toList, c < 1114112 := by decide +kernel
theorem nm_ok {x : Str} (h : Nm x) : PyData.strOk x = true := by
  show x.cps.all (fun c => decide (c < 0x110000)) = true
  rw [Array.all_eq_true']
  intro c hc
  exact decide_eq_true (lets_low c (h.ok c (Array.mem_toList_iff.mpr hc)))
theorem dP_lay {t : Pr} (h : Nm t.1 ∧ Nm t.2) : (dP t).canLay0 = true := by simp [dP, PyData.canLay0, PyData.canLayAll0, nm_ok h.1, nm_ok h.2]
theorem dPs_lay : ∀ {ts : List Pr}, (∀ t ∈ ts, Nm t.1 ∧ Nm t.2) → PyData.canLayAll0 (ts.map dP) = true
  | [], _ => by simp [PyData.canLayAll0]
  | t :: ts, h => by simp [PyData.canLayAll0, dP_lay (h t List.mem_cons_self), dPs_lay fun u hu => h u (List.mem_cons_of_mem _ hu)]
theorem dPs_depth : ∀ ts : List Pr, PyData.depthAll (ts.map dP) ≤ 1
  | [] => by simp [PyData.depthAll]
  | t :: ts => by
    have h1 := dPs_depth ts
    have h2 := dP_depth t
    simp only [List.map_cons, PyData.depthAll]
    omega
theorem dP_shaped {t : Pr} (h : Nm t.1 ∧ Nm t.2) : SeqAt.shaped (dP t) = true := by
  show ((dP t).canLay0 && decide ((dP t).depth ≤ 64)) = true
  rw [Bool.and_eq_true]
  exact ⟨dP_lay h, decide_eq_true (by rw [dP_depth]; decide)⟩
theorem dPs_shaped {ts : List Pr} (h : ∀ t ∈ ts, Nm t.1 ∧ Nm t.2) : SeqAt.shaped (dPs ts) = true := by
  have h1 := dPs_depth ts
  show ((dPs ts).canLay0 && decide ((dPs ts).depth ≤ 64)) = true
  rw [Bool.and_eq_true]
  refine ⟨by simp only [dPs, PyData.canLay0]; exact dPs_lay h, decide_eq_true ?_⟩
  simp only [dPs, PyData.depth]
  omega
theorem any_dP (us : List Pr) (t : Pr) : ((us.map dP).any fun z => PyData.eqv z (dP t)) = decide (t ∈ us) := by
  induction us with
  | nil => simp
  | cons u us ih =>
    rw [List.map_cons, List.any_cons, ih, dP_eqv]
    by_cases e : u = t
    · subst e
      simp
    · have e' : ¬ t = u := fun z => e z.symm
      simp [e, e']
/-! ### its methods -/
def spWeb (K : PySem.W.Frag) : Sp := fun vs H Q _ => ∃ (x dx lh lt : Addr) (hs : List (Str × Int)) (ts : List Pr), vs = [.ref x, .ref lh, .ref lt] ∧ H x = some (.ins (He.ga K "Web") dx []) ∧ Dt H (.ref lh) (dHs hs) ∧ Dt H (.ref lt) (dPs ts) ∧ HandsOk hs ∧ TiesOk hs ts ∧
  ∀ H', But x H H' → WebAt K H' x hs ts → Q .non H'
def spHands (K : PySem.W.Frag) : Sp := fun vs H Q _ => ∃ (x : Addr) (hs : List (Str × Int)) (ts : List Pr), vs = [.ref x] ∧ WebAt K H x hs ts ∧ ∀ (H' : Hp) (p : Addr) (xs : List Str), Same H H' → H p = none → xs.Perm (hs.map (·.1)) → H' p = some (.lst (xs.map V.str)) → Q (.ref p) H'
def spTied (K : PySem.W.Frag) : Sp := fun vs H Q _ => ∃ (x : Addr) (a b : Str) (hs : List (Str × Int)) (ts : List Pr), vs = [.ref x, .str a, .str b] ∧ WebAt K H x hs ts ∧ Nm a ∧ Nm b ∧ ∀ H', Same H H' → Q (.bl (tied ts a b)) H'
section
variable {P : Program} {w : World} {K : PySem.W.Frag} {mg : Str → Option Value} {base : Heap}
abbrev sWeb (j : Nat) : Stmt := inClass (top 31) j
theorem scWeb : FnScope ["self", "hands", "ties"] ["self", "hands", "ties"] (defScope (sWeb 0)) := ⟨rfl, rfl, rfl, by decide +kernel, rfl, by decide +kernel, by decide +kernel⟩
theorem ok_web {f : Addr} {fd : FuncData} (F : FnP K "__init__" "Web.__init__" (sWeb 0) f fd) (T : Txt K mg) (GS : Gn P w K mg base CX0 4 "strengths_of" ["hands"] spStr) (GP : Gn P w K mg base CX0 3 "pairs_of" ["ties", "strengths"] spPairs) :
    FnOk P w K mg base CX0 5 f fd ["self", "hands", "ties"] (spWeb K) := by
  refine def_ok F scWeb (fun vs H Q E h => ?_) (fun cdv A outer s H vs Q E hr h => ?_)
  · obtain ⟨x, dx, lh, lt, hs, ts, rfl, _⟩ := h
    rfl
  · obtain ⟨x, dx, lh, lt, hs, ts, rfl, hx, dh, dt, okh, okt, k⟩ := h
    have C := T.cls 53
    refine ⟨_, pss_cons (ps_fld (pv 0) (pe_g GS hr (pa_cons (pv 1) pa_nil) pass0) rfl) (pss_one (ps_fld (pv 0) (pe_g GP hr (pa_cons (pv 2) (pa_cons (pe_fld (pv 0) rfl) pa_nil)) pass0) rfl)), ?_⟩
    refine ⟨_, rfl, lh, hs, rfl, dh, okh, fun H1 d s1 nd hd => ?_⟩
    have hx1 := s1 _ _ hx
    have hne : d ≠ x := ne_of hd hx1 (by intro z; cases z)
    have lxne : x ≠ lt := by
      obtain ⟨xs, q, _⟩ := dt.list_inv
      exact ne_of hx q (by intro z; cases z)
    refine ⟨_, rfl, x, _, dx, _, rfl, hx1, C, T.noat 57, (by show 0 < 1000; decide), ?_⟩
    -- the tuples of ties are no instance: they stand
    have dt2 : Dt (upd H1 x (.ins (He.ga K "Web") dx (putF "strong" (.ref d) []))) (.ref lt) (dPs ts) := by
      obtain ⟨xs, q, da⟩ := (dt.up s1).list_inv
      have key : ∀ {us : List Pr} {zs : List V}, DtAll H1 zs (us.map dP) → DtAll (upd H1 x (.ins (He.ga K "Web") dx (putF "strong" (.ref d) []))) zs (us.map dP) := by
        intro us
        induction us with
        | nil =>
          intro zs h
          cases h
          exact .nil
        | cons u us ih =>
          intro zs h
          cases h with
          | cons a r =>
            obtain ⟨q, oq, rfl, hq, po⟩ := dt_pr a
            refine .cons (dt_prO ?_ po) (ih r)
            rw [upd_ne (ne_of hq hx1 (po.no (by intro _ z; cases z) (by intro _ _ z; cases z)))]
            exact hq
      refine .lst ?_ (key da)
      rw [upd_ne (ne_of q hx1 (by intro z; cases z))]
      exact q
    have hd2 : upd H1 x (.ins (He.ga K "Web") dx (putF "strong" (.ref d) [])) d = some (.dK (hK hs)) := by
      rw [upd_ne hne]
      exact hd
    refine ⟨_, rfl, _, rfl, x, _, dx, _, _, rfl, upd_same, C, T.noat 57, one_strong d, ?_⟩
    refine ⟨lt, d, hs, ts, rfl, dt2, hd2, okh, okt, fun H3 l us s3 nl pm dl => ?_⟩
    have hx3 := s3 _ _ (upd_same (H := H1) (a := x) (o := .ins (He.ga K "Web") dx (putF "strong" (.ref d) [])))
    refine ⟨_, rfl, x, _, dx, _, rfl, hx3, C, T.noat 58, (by show 1 < 1000; decide), ?_⟩
    have b1 : But x H (upd H3 x (.ins (He.ga K "Web") dx (putF "pairs" (.ref l) (putF "strong" (.ref d) [])))) :=
      (((But.of x s1).trans But.put).trans (But.of x s3)).trans But.put
    refine k _ b1 ⟨⟨dx, d, l, us, upd_same, ?_, pm, ?_⟩, okh, okt⟩
    · rw [upd_ne hne]
      exact s3 _ _ hd2
    · obtain ⟨xs, q, da⟩ := dl.list_inv
      have key : ∀ {us : List Pr} {zs : List V}, DtAll H3 zs (us.map dP) → DtAll (upd H3 x (.ins (He.ga K "Web") dx (putF "pairs" (.ref l) (putF "strong" (.ref d) [])))) zs (us.map dP) := by
        intro us
        induction us with
        | nil =>
          intro zs h
          cases h
          exact .nil
        | cons u us ih =>
          intro zs h
          cases h with
          | cons a r =>
            obtain ⟨q, oq, rfl, hq, po⟩ := dt_pr a
            refine .cons (dt_prO ?_ po) (ih r)
            rw [upd_ne (ne_of hq hx3 (po.no (by intro _ z; cases z) (by intro _ _ z; cases z)))]
            exact hq
      refine .lst ?_ (key da)
      rw [upd_ne (ne_of q hx3 (by intro z; cases z))]
      exact q
theorem hK_strs (hs : List (Str × Int)) : ((hK hs).map fun kv => kV kv.1) = (hs.map (·.1)).map V.str := by
  unfold hK
  rw [List.map_map, List.map_map]
  rfl
theorem scHands : FnScope ["self"] ["self"] (defScope (sWeb 1)) := ⟨rfl, rfl, rfl, by decide +kernel, rfl, by decide +kernel, by decide +kernel⟩
theorem ok_hands {f : Addr} {fd : FuncData} (F : FnP K "hands" "Web.hands" (sWeb 1) f fd) (T : Txt K mg) : FnOk P w K mg base CX0 1 f fd ["self"] (spHands K) := by
  refine def_ok F scHands (fun vs H Q E h => ?_) (fun cdv A outer s H vs Q E hr h => ?_)
  · obtain ⟨x, hs, ts, rfl, _⟩ := h
    rfl
  · obtain ⟨x, hs, ts, rfl, wb, k⟩ := h
    obtain ⟨dx, d, l, us, h1, h2, h3, h4⟩ := wb.ob
    have h8 := wb.okh.hi
    refine ⟨_, pss_one (ps_ret (pe_callB cr_sortedS (by rfl) (T.free 39) boot_sortedB (pa_cons (pe_callTy (call_list_dK rfl) (by rfl) (T.free 35) boot_listT (pa_cons (pe_fld (pv 0) rfl) pa_nil)) pa_nil))), ?_⟩
    refine ⟨_, rfl, x, _, dx, _, _, rfl, h1, T.cls 53, T.noat 57, wf_strong d l, d, _, rfl, h2, fun q hq => ?_⟩
    rw [hK_strs]
    refine ⟨q, hs.map (·.1), rfl, SqL.of upd_same, by rw [List.length_map]; omega, fun ys p pm hs' hp => ?_⟩
    have s1 := same_new (o := .lst ((hs.map (·.1)).map V.str)) hq
    exact k _ p ys (s1.trans (same_new hp)) (none_back s1 hp) pm upd_same
theorem scTied : FnScope ["self", "one", "other"] ["self", "one", "other"] (defScope (sWeb 5)) := ⟨rfl, rfl, rfl, by decide +kernel, rfl, by decide +kernel, by decide +kernel⟩
theorem ok_tied {f : Addr} {fd : FuncData} (F : FnP K "are_tied" "Web.are_tied" (sWeb 5) f fd) (T : Txt K mg) (GP : Gn P w K mg base CX0 2 "is_pair" ["thing"] spPair) (GO : Gn P w K mg base CX0 1 "sorted_pair" ["pair"] spSorted) :
    FnOk P w K mg base CX0 3 f fd ["self", "one", "other"] (spTied K) := by
  refine def_ok F scTied (fun vs H Q E h => ?_) (fun cdv A outer s H vs Q E hr h => ?_)
  · obtain ⟨x, a, b, hs, ts, rfl, _⟩ := h
    rfl
  · obtain ⟨x, a, b, hs, ts, rfl, wb, na, nb, k⟩ := h
    refine ⟨_, pss_one (ps_ret (pe_and (pe_g GP hr (pa_cons (pe_tup (pa_cons (pv 1) (pa_cons (pv 2) pa_nil))) pa_nil) pass0)
      (pe_one (pe_cmpR (op_inD (hu65 hr)) (pe_g GO hr (pa_cons (pe_tup (pa_cons (pv 1) (pa_cons (pv 2) pa_nil))) pa_nil) pass0) (pe_fld (pv 0) rfl) (by rfl))))), ?_⟩
    refine ⟨_, rfl, _, rfl, (by show 2 ≤ sizeLine; decide), fun p hp => ?_⟩
    have s0 := same_new (o := .tup [.str a, .str b]) hp
    refine ⟨p, _, (a, b), rfl, upd_same, .tup, na, nb, fun H1 s1 => ⟨_, rfl, ?_⟩⟩
    by_cases e : a = b
    · refine iteC (by rw [decide_eq_true e]; rfl) ?_
      have ht : tied ts a b = false := by
        subst e
        have hn : ¬ (a, a) ∈ ts := fun m => wb.okt.ne _ m rfl
        unfold tied
        rw [decide_eq_false hn]
        rfl
      have kq := k H1 (s0.trans s1)
      rw [ht] at kq
      exact kq
    · refine iteB (by rw [decide_eq_false e]; rfl) ?_
      refine ⟨_, rfl, _, rfl, (by show 2 ≤ sizeLine; decide), fun q hq => ?_⟩
      have s2 := same_new (o := .tup [.str a, .str b]) hq
      refine ⟨q, _, (a, b), rfl, upd_same, .tup, fun H2 r s3 nr hr' => ?_⟩
      have s := ((s0.trans s1).trans s2).trans s3
      obtain ⟨dx, d, l, us, h1, h2, h3, h4⟩ := (wb.up s).ob
      have nms : ∀ t ∈ us, Nm t.1 ∧ Nm t.2 := fun t m => by
        obtain ⟨t0, m0, e0⟩ := List.mem_map.mp (h3.mem_iff.mp m)
        have nn := wb.okt.nm1 wb.okh m0
        rcases sP_or t0 with e | e <;> rw [e] at e0 <;> subst e0
        · exact nn
        · exact ⟨nn.2, nn.1⟩
      have nab : Nm (sP (a, b)).1 ∧ Nm (sP (a, b)).2 := by
        rcases sP_or (a, b) with e | e <;> rw [e]
        · exact ⟨na, nb⟩
        · exact ⟨nb, na⟩
      refine ⟨_, rfl, x, _, dx, _, _, rfl, h1, T.cls 53, T.noat 58, wf_pairs d l, dP (sP (a, b)), us.map dP, (dt_prM hr').dp, h4.dp, dP_shaped nab, dPs_shaped nms, ?_⟩
      rw [any_dP, tied_iff h3]
      exact k _ s
end
end Kp
namespace Kp
open PySem PySem.Spec PyProof.Rows L2
/-! ### lists and tuples stand where something else changes -/
def Seqs (H H' : Hp) : Prop := (∀ b xs, H b = some (.lst xs) → H' b = some (.lst xs)) ∧ (∀ b xs, H b = some (.tup xs) → H' b = some (.tup xs)) ∧ ∀ b o u, H b = some (.frz o u) → H' b = some (.frz o u)
theorem Seqs.of {H H' : Hp} (s : Same H H') : Seqs H H' := ⟨fun b _ e => s b _ e, fun b _ e => s b _ e, fun b _ _ e => s b _ e⟩
theorem Seqs.trans {H H1 H2 : Hp} (a : Seqs H H1) (b : Seqs H1 H2) : Seqs H H2 := ⟨fun c xs e => b.1 c xs (a.1 c xs e), fun c xs e => b.2.1 c xs (a.2.1 c xs e), fun c o u e => b.2.2 c o u (a.2.2 c o u e)⟩
theorem Seqs.ins {H : Hp} {x C dx : Addr} {fs : List (Str × V)} {o : HO} (h : H x = some (.ins C dx fs)) : Seqs H (upd H x o) :=
  ⟨fun b xs e => by rw [upd_ne (ne_of e h (by intro z; cases z))]; exact e, fun b xs e => by rw [upd_ne (ne_of e h (by intro z; cases z))]; exact e, fun b o u e => by rw [upd_ne (ne_of e h (by intro z; cases z))]; exact e⟩
theorem Seqs.dct {H : Hp} {x : Addr} {kvs : List (L2.Key × V)} {o : HO} (h : H x = some (.dK kvs)) : Seqs H (upd H x o) :=
  ⟨fun b xs e => by rw [upd_ne (ne_of e h (by intro z; cases z))]; exact e, fun b xs e => by rw [upd_ne (ne_of e h (by intro z; cases z))]; exact e, fun b o u e => by rw [upd_ne (ne_of e h (by intro z; cases z))]; exact e⟩
mutual
theorem dt_seq {H H' : Hp} (s : Seqs H H') : ∀ {d : PyData} {v : V}, Dt H v d → Dt H' v d
  | .none, _, h => by
    cases h
    exact .non
  | .bool b, _, h => by
    cases h
    exact .bl b
  | .int i, _, h => by
    cases h
    exact .int i
  | .str x, _, h => by
    cases h
    exact .str x
  | .list ds, _, h => by
    cases h with
    | lst q r => exact .lst (s.1 _ _ q) (dt_seqs s r)
  | .tuple ds, _, h => by
    cases h with
    | tup q r => exact .tup (s.2.1 _ _ q) (dt_seqs s r)
    | pr d q => exact .pr d (s.2.2 _ _ _ q)
  | .dict _, _, h => by cases h
theorem dt_seqs {H H' : Hp} (s : Seqs H H') : ∀ {ds : List PyData} {vs : List V}, DtAll H vs ds → DtAll H' vs ds
  | [], _, h => by
    cases h
    exact .nil
  | d :: ds, _, h => by
    cases h with
    | cons a b => exact .cons (dt_seq s a) (dt_seqs s b)
end
/-! ### goods: the data -/
structure SomeOk (ts us : List Pr) : Prop where
  mem : ∀ u ∈ us, tied ts u.1 u.2 = true
  nd : (us.map sP).Nodup
  len : us.length < 64
def WaysOk (ts : List Pr) : Option (List Pr) → Prop
  | none => True
  | some us => SomeOk ts us
structure PieceOk (ts : List Pr) (c : Pc) : Prop where
  nm : Nm c.1
  lo : 1 ≤ c.2.1
  hi : c.2.1 ≤ 1000000000
  ways : WaysOk ts c.2.2
structure PiecesOk (ts : List Pr) (cs : List Pc) : Prop where
  ok : ∀ c ∈ cs, PieceOk ts c
  nd : (cs.map (·.1)).Nodup
  len : cs.length < 64
theorem tied_or {ts : List Pr} {a b : Str} (h : tied ts a b = true) : (a, b) ∈ ts ∨ (b, a) ∈ ts := by
  unfold tied at h
  rw [Bool.or_eq_true] at h
  exact h.imp of_decide_eq_true of_decide_eq_true
theorem tied_nm {hs : List (Str × Int)} {ts : List Pr} {a b : Str} (okh : HandsOk hs) (okt : TiesOk hs ts) (h : tied ts a b = true) : Nm a ∧ Nm b ∧ a ≠ b := by
  rcases tied_or h with m | m
  · exact ⟨(okt.nm1 okh m).1, (okt.nm1 okh m).2, okt.ne _ m⟩
  · exact ⟨(okt.nm1 okh m).2, (okt.nm1 okh m).1, fun e => okt.ne _ m e.symm⟩
theorem tied_sw (ts : List Pr) (a b : Str) : tied ts a b = tied ts b a := Bool.or_comm _ _
theorem tied_sP {ts : List Pr} {u : Pr} (h : tied ts u.1 u.2 = true) : tied ts (sP u).1 (sP u).2 = true := by
  rcases sP_or u with e | e <;> rw [e]
  · exact h
  · exact (tied_sw ts _ _).trans h
/-- ways as they are kept -/
def Kept (H : Hp) (z : V) : Option (List Pr) → Prop
  | none => z = .non
  | some us => ∃ p vs, z = .ref p ∧ vs.Perm (us.map sP) ∧ Dt H (.ref p) (dPs vs)
theorem Kept.seq {H H' : Hp} {z : V} {o : Option (List Pr)} (k : Kept H z o) (s : Seqs H H') : Kept H' z o := by
  cases o with
  | none => exact k
  | some us =>
    obtain ⟨p, vs, e, pm, d⟩ := k
    exact ⟨p, vs, e, pm, dt_seq s d⟩
/-! ### the promises -/
def spAreWays (K : PySem.W.Frag) : Sp := fun vs H Q _ => ∃ (x : Addr) (v : V) (hs : List (Str × Int)) (ts : List Pr) (o : Option (List Pr)), vs = [.ref x, v] ∧ WebAt K H x hs ts ∧ Dt H v (dW o) ∧ WaysOk ts o ∧ ∀ H', Same H H' → Q (.bl true) H'
def spPiece (K : PySem.W.Frag) : Sp := fun vs H Q _ => ∃ (x : Addr) (v : V) (hs : List (Str × Int)) (ts : List Pr) (c : Pc), vs = [.ref x, v] ∧ WebAt K H x hs ts ∧ Dt H v (dC c) ∧ PieceOk ts c ∧ ∀ H', Same H H' → Q (.bl true) H'
def spKept : Sp := fun vs H Q _ => ∃ (v : V) (ts : List Pr) (o : Option (List Pr)), vs = [v] ∧ Dt H v (dW o) ∧ WaysOk ts o ∧ ∀ H' z, Same H H' → Kept H' z o → Q z H'
section
variable {P : Program} {w : World} {K : PySem.W.Frag} {mg : Str → Option Value} {base : Heap}
theorem scWays : FnScope ["web", "thing", "pairs", "pair", "one", "other"] ["web", "thing"] (defScope (top 33)) := ⟨rfl, rfl, rfl, by decide +kernel, rfl, by decide +kernel, by decide +kernel⟩
theorem ok_ways {f : Addr} {fd : FuncData} (F : FnP K "are_ways" "are_ways" (top 33) f fd) (T : Txt K mg) (GP : Gn P w K mg base CX0 2 "is_pair" ["thing"] spPair) (GO : Gn P w K mg base CX0 1 "sorted_pair" ["pair"] spSorted)
    (GT : Mn P w K mg base CX0 3 "Web" "are_tied" ["self", "one", "other"] (spTied K)) : FnOk P w K mg base CX0 4 f fd ["web", "thing"] (spAreWays K) := by
  obtain ⟨fdT, FT, bT⟩ := GT.ok
  refine def_ok F scWays (fun vs H Q E h => ?_) (fun cdv A outer s H vs Q E hr h => ?_)
  · obtain ⟨x, v, hs, ts, o, rfl, _⟩ := h
    rfl
  · obtain ⟨x, v, hs, ts, o, rfl, wb, dt, ok, k⟩ := h
    refine ⟨_, pss_cons (ps_if (pt_cmp (pc_isN (pv 1)) rfl) (pss_one (ps_ret pe_bl)) pss_nil)
      (pss_cons (ps_if (PW.pt (pw_or (pt_not (pt_val (pe_isi (T.free 30) (T.free 35) boot_listT (pv 1)))) (pw_or1 (pt_not (pt_val (pe_callB (cr_all rfl) (by rfl) (T.free 38) boot_allB (pa_cons (pe_lc (own := [("pair", 3)]) (g := gName 3) (tt := tYes) rfl scWays.nd (pi_list (pv 1))
        (blkOk_by (N := ["web", "thing", "pairs", "pair", "one", "other"]) (sc := defScope (top 33)) (by decide +kernel)) (fun _ _ _ _ _ => pg_name (i := 3) scWays.nd rfl (Or.inl rfl)) (fun _ _ _ _ _ => pts_nil) (fun _ _ _ _ _ => pe_g GP hr (pa_cons (pv 3) pa_nil) pass0)) pa_nil)))))))
        (pss_one (ps_ret pe_bl)) pss_nil)
      (pss_cons (ps_setLc (i := 2) (own := [("pair", 3)]) (g := gName 3) (tt := tYes) rfl scWays.nd rfl rfl (sw_true rfl rfl rfl (by decide +kernel)) (pi_list (pv 1))
        (blkOk_by (N := ["web", "thing", "pairs", "pair", "one", "other"]) (sc := defScope (top 33)) (by decide +kernel)) (fun _ _ _ _ _ => pg_name (i := 3) scWays.nd rfl (Or.inl rfl)) (fun _ _ _ _ _ => pts_nil) (fun _ _ _ _ _ => pe_g GO hr (pa_cons (pv 3) pa_nil) pass0))
      (pss_one (ps_ret (pe_and (pe_callB (cr_all rfl) (by rfl) (T.free 38) boot_allB (pa_cons (pe_lc (own := [("one", 4), ("other", 5)]) (g := gTup K 2 (gCons (gName 4) (gCons (gName 5) gNil))) (tt := tYes) rfl scWays.nd (pi_list (pv 2))
        (blkOk_by (N := ["web", "thing", "pairs", "pair", "one", "other"]) (sc := defScope (top 33)) (by decide +kernel)) (fun _ _ _ _ _ => pg_tup rfl (pgs_cons (pg_name (i := 4) scWays.nd rfl (Or.inl rfl)) (pgs_cons (pg_name (i := 5) scWays.nd rfl (Or.inl rfl)) pgs_nil))) (fun _ _ _ _ _ => pts_nil)
        (fun _ _ _ _ _ => pe_meth (pv 0) (T.cls 53) (T.meth 63) FT (hr.mono (by decide)) bT .nil pass0 (pa_cons (pv 4) (pa_cons (pv 5) pa_nil)))) pa_nil))
        (pe_one (pe_cmpR op_eq (pe_callB cr_lenN (by rfl) (T.free 37) PySem.boot_len (pa_cons (pe_callTy (cr_setPr rfl hr.units) (by rfl) (T.free 40) boot_setT (pa_cons (pv 2) pa_nil)) pa_nil)) (pe_callB call_len_seq (by rfl) (T.free 37) PySem.boot_len (pa_cons (pv 2) pa_nil)) (nomark _)))))))), ?_⟩
    cases o with
    | none =>
      cases dt
      exact ⟨_, rfl, _, rfl, iteB (decide_eq_true rfl) (k _ (Same.refl _))⟩
    | some us =>
      have dt : Dt H v (dPs us) := dt
      obtain ⟨l, xs, rfl, hl, da⟩ := dt.list_inv'
      have hlen : xs.length = us.length := by rw [da.len, List.length_map]
      have h64 := ok.len
      refine ⟨_, rfl, _, rfl, iteC (decide_eq_false fun z => nomatch z) ?_⟩
      refine ⟨_, rfl, .ref l, "list", true, rfl, .base (.lst hl), ki_ll, true, rfl, iteF ?_⟩
      refine ⟨_, rfl, l, rfl, ⟨_, SqL.of hl⟩, fun D hD => ?_⟩
      refine lc_data (walk_list (xs := xs)) ((List.replicate xs.length true).map PyData.bool) rep_len (small1000 (by omega)) hD (fun H1 s1 => s1.seq (SqL.of hl)) ?_ ?_
      · rintro i v d H1 H2 R hi hd' s1 hn ⟨rfl, hv⟩ kk
        have ed := rep_at hi hd'
        subst ed
        obtain ⟨d2, e2, dv⟩ := da.get hv
        obtain ⟨t, e3, rfl⟩ := at_map e2
        obtain ⟨q, oq, rfl, hq, po⟩ := dt_pr dv
        have nm := tied_nm wb.okh wb.okt (ok.mem t (List.mem_of_getElem? e3))
        refine ⟨rfl, _, rfl, q, _, t, rfl, s1 _ _ hq, po, nm.1, nm.2.1, fun H3 s3 => ?_⟩
        rw [decide_eq_false nm.2.2]
        exact kk _ _ s3 (.bl true)
      · intro H1 s1 d1
        refine ⟨D, List.replicate xs.length true, rfl, d1.bools, _, rfl, ?_⟩
        refine iteC (by rw [rep_all]; rfl) ?_
        have hl1 := s1 _ _ hl
        have da1 := da.up s1
        -- pairs = [sorted_pair(pair) for pair in thing]
        refine ⟨_, rfl, l, rfl, ⟨_, SqL.of hl1⟩, fun D2 hD2 => ?_⟩
        refine lc_data (walk_list (xs := xs)) ((us.map sP).map dP) (by rw [List.length_map, List.length_map, hlen]) (small1000 (by omega)) hD2 (fun H2 s2 => s2.seq (SqL.of hl1)) ?_ ?_
        · rintro i v d H2 H3 R hi hd' s2 hn ⟨rfl, hv⟩ kk
          obtain ⟨d2, e2, dv⟩ := da1.get hv
          obtain ⟨t, e3, rfl⟩ := at_map e2
          obtain ⟨q, oq, rfl, hq, po⟩ := dt_pr dv
          obtain ⟨t', e4, rfl⟩ := at_map hd'
          rw [List.getElem?_map, e3] at e4
          have e5 := Option.some.inj e4
          subst e5
          refine ⟨rfl, _, rfl, q, _, t, rfl, s2 _ _ hq, po, fun H4 r s4 hr4 hr5 => kk _ _ s4 (dt_prM ?_)⟩
          have ne : r ≠ D2 := fun z => hn (by rw [← z]; exact hr4)
          rw [off_out (by simp [ne])]
          exact hr5
        · intro H2 s2 d2
          obtain ⟨ys, hys, dys⟩ := d2.list_inv
          have hly : ys.length = us.length := by rw [dys.len, List.length_map, List.length_map]
          have s12 := s1.trans s2
          refine ⟨_, rfl, D2, rfl, ⟨_, SqL.of hys⟩, fun D3 hD3 => ?_⟩
          refine lc_data (walk_list (xs := ys)) ((List.replicate ys.length true).map PyData.bool) rep_len (small1000 (by omega)) hD3 (fun H3 s3 => s3.seq (SqL.of hys)) ?_ ?_
          · rintro i v d' H3 H4 R hi hd' s3 hn ⟨rfl, hv⟩ kk
            have ed := rep_at hi hd'
            subst ed
            obtain ⟨d2, e2, dv⟩ := dys.get hv
            obtain ⟨t, e3, rfl⟩ := at_map e2
            obtain ⟨q, oq, rfl, hq, po⟩ := dt_pr dv
            obtain ⟨u, mu, eu⟩ := List.mem_map.mp (List.mem_of_getElem? e3)
            have tt := tied_sP (ok.mem u mu)
            rw [eu] at tt
            have nm := tied_nm wb.okh wb.okt tt
            have wb3 := wb.up (s12.trans s3)
            obtain ⟨dx, dd, ll, vv, h1, _⟩ := wb3.ob
            refine ⟨q, _, rfl, po.sq (s3 _ _ hq), rfl, _, _, rfl, _, _, rfl, rfl, rfl, ?_⟩
            refine ⟨_, rfl, x, dx, _, rfl, h1, wf_no _ _ (by decide +kernel) (by decide +kernel), _, rfl, _, rfl, x, t.1, t.2, hs, ts, rfl, wb3, nm.1, nm.2.1, fun H5 s5 => ?_⟩
            rw [tt]
            exact kk _ _ s5 (.bl true)
          · intro H3 s3 d3
            refine ⟨D3, List.replicate ys.length true, rfl, d3.bools, _, rfl, iteB rep_all ?_⟩
            have hz4 := s3 _ _ hys
            have dz4 := dys.up s3
            refine ⟨_, rfl, D2, ys, us.map sP, rfl, hz4, dz4, by rw [List.length_map]; omega, ok.nd, fun q hq => ?_⟩
            have s5 := same_new (o := SetN q (us.map sP).length) hq
            refine ⟨q, _, rfl, upd_same, by rw [List.length_map]; omega, _, rfl, D2, _, rfl, .inl (SqL.of (s5 _ _ hz4)), rfl, ?_⟩
            exact q_true (by rw [List.length_map, hly]) (k _ ((s12.trans s3).trans s5))
theorem scPiece : FnScope ["web", "thing"] ["web", "thing"] (defScope (top 34)) := ⟨rfl, rfl, rfl, by decide +kernel, rfl, by decide +kernel, by decide +kernel⟩
theorem ok_piece {f : Addr} {fd : FuncData} (F : FnP K "is_piece_row" "is_piece_row" (top 34) f fd) (T : Txt K mg) (GN : Gn P w K mg base CX0 1 "is_name" ["thing"] spName) (GW : Gn P w K mg base CX0 2 "is_within" ["thing", "low", "high"] spWithin)
    (GA : Gn P w K mg base CX0 4 "are_ways" ["web", "thing"] (spAreWays K)) : FnOk P w K mg base CX0 5 f fd ["web", "thing"] (spPiece K) := by
  obtain ⟨tm, hm⟩ := T.int 45
  refine def_ok F scPiece (fun vs H Q E h => ?_) (fun cdv A outer s H vs Q E hr h => ?_)
  · obtain ⟨x, v, hs, ts, c, rfl, _⟩ := h
    rfl
  · obtain ⟨x, v, hs, ts, c, rfl, wb, dt, ok, k⟩ := h
    obtain ⟨t, u, rfl, ht, du⟩ := dt_pc dt
    refine ⟨_, pss_cons (ps_if (PW.pt (pw_or (pt_not (pt_val (pe_isi (T.free 30) (T.free 34) boot_tupleT (pv 1)))) (pw_or1 (pt_cmpR op_ne (pe_callB call_len_seq (by rfl) (T.free 37) PySem.boot_len (pa_cons (pv 1) pa_nil)) pe_int (nomark _)))))
        (pss_one (ps_ret pe_bl)) pss_nil)
      (pss_one (ps_ret (pe_and (pe_g GN hr (pa_cons (pe_ix ix_tup (pv 1) pe_int (fun _ _ => rfl)) pa_nil) pass0) (pe_and (pe_g GW hr (pa_cons (pe_ix ix_tup (pv 1) pe_int (fun _ _ => rfl)) (pa_cons pe_int (pa_cons (pe_glob (v := .int 1000000000) (by rfl) hm ⟨_, rfl⟩) pa_nil))) pass0)
        (pe_one (pe_g GA hr (pa_cons (pv 0) (pa_cons (pe_ix ix_tup (pv 1) pe_int (fun _ _ => rfl)) pa_nil)) pass0)))))), ?_⟩
    refine ⟨_, rfl, .ref t, "tuple", true, rfl, .base (.tup ht), ki_tt, true, rfl, iteF ?_⟩
    refine ⟨_, rfl, t, _, rfl, .inr (SqT.of ht), rfl, _, rfl, iteF ?_⟩
    refine ⟨_, rfl, t, _, 0, _, rfl, rfl, SqT.of ht, rfl, c.1, rfl, ok.nm, fun H1 s1 => ⟨true, rfl, iteT ?_⟩⟩
    refine ⟨_, rfl, t, _, 1, _, rfl, rfl, SqT.of (s1 _ _ ht), rfl, c.2.1, 1, 1000000000, rfl, ok.lo, ok.hi, ⟨true, rfl, iteT ?_⟩⟩
    exact ⟨_, rfl, _, rfl, t, _, 2, _, rfl, rfl, SqT.of (s1 _ _ ht), rfl, x, u, hs, ts, c.2.2, rfl, wb.up s1, du.up s1, ok.ways, fun H2 s2 => k _ (s1.trans s2)⟩
theorem scKept : FnScope ["ways", "pair"] ["ways"] (defScope (top 35)) := ⟨rfl, rfl, rfl, by decide +kernel, rfl, by decide +kernel, by decide +kernel⟩
theorem ok_kept {f : Addr} {fd : FuncData} (F : FnP K "kept_ways" "kept_ways" (top 35) f fd) (T : Txt K mg) (GO : Gn P w K mg base CX0 1 "sorted_pair" ["pair"] spSorted) : FnOk P w K mg base CX0 2 f fd ["ways"] spKept := by
  refine def_ok F scKept (fun vs H Q E h => ?_) (fun cdv A outer s H vs Q E hr h => ?_)
  · obtain ⟨v, ts, o, rfl, _⟩ := h
    rfl
  · obtain ⟨v, ts, o, rfl, dt, ok, k⟩ := h
    refine ⟨_, pss_cons (ps_if (pt_cmp (pc_isN (pv 0)) rfl) (pss_one (ps_ret pe_non)) pss_nil)
      (pss_one (ps_ret (pe_callB (cr_sortedPr hr.units) (by rfl) (T.free 39) boot_sortedB (pa_cons (pe_lc (own := [("pair", 1)]) (g := gName 1) (tt := tYes) rfl scKept.nd (pi_list (pv 0))
        (blkOk_by (N := ["ways", "pair"]) (sc := defScope (top 35)) (by decide +kernel)) (fun _ _ _ _ _ => pg_name (i := 1) scKept.nd rfl (Or.inl rfl)) (fun _ _ _ _ _ => pts_nil) (fun _ _ _ _ _ => pe_g GO hr (pa_cons (pv 1) pa_nil) pass0)) pa_nil)))), ?_⟩
    cases o with
    | none =>
      cases dt
      exact ⟨_, rfl, _, rfl, iteB (decide_eq_true rfl) (k _ .non (Same.refl _) rfl)⟩
    | some us =>
      have dt : Dt H v (dPs us) := dt
      obtain ⟨l, xs, rfl, hl, da⟩ := dt.list_inv'
      have hlen : xs.length = us.length := by rw [da.len, List.length_map]
      have h64 := ok.len
      refine ⟨_, rfl, _, rfl, iteC (decide_eq_false fun z => nomatch z) ?_⟩
      refine ⟨_, rfl, l, rfl, ⟨_, SqL.of hl⟩, fun D2 hD2 => ?_⟩
      refine lc_data (walk_list (xs := xs)) ((us.map sP).map dP) (by rw [List.length_map, List.length_map, hlen]) (small1000 (by omega)) hD2 (fun H2 s2 => s2.seq (SqL.of hl)) ?_ ?_
      · rintro i v d H2 H3 R hi hd' s2 hn ⟨rfl, hv⟩ kk
        obtain ⟨d2, e2, dv⟩ := da.get hv
        obtain ⟨t, e3, rfl⟩ := at_map e2
        obtain ⟨q, oq, rfl, hq, po⟩ := dt_pr dv
        obtain ⟨t', e4, rfl⟩ := at_map hd'
        rw [List.getElem?_map, e3] at e4
        have e5 := Option.some.inj e4
        subst e5
        refine ⟨rfl, _, rfl, q, _, t, rfl, s2 _ _ hq, po, fun H4 r s4 hr4 hr5 => kk _ _ s4 (dt_prM ?_)⟩
        have ne : r ≠ D2 := fun z => hn (by rw [← z]; exact hr4)
        rw [off_out (by simp [ne])]
        exact hr5
      · intro H2 s2 d2
        obtain ⟨ys, hys, dys⟩ := d2.list_inv
        refine ⟨D2, ys, us.map sP, rfl, hys, dys, by rw [List.length_map]; omega, fun vs zs p pm hp dz => ?_⟩
        have s3 := same_new (o := .lst zs) hp
        exact k _ (.ref p) (s2.trans s3) ⟨p, vs, rfl, pm, .lst upd_same (dz.up s3)⟩
end
end Kp
namespace Kp
open PySem PySem.Spec PyProof.Rows L2
/-! ### goods as an object -/
theorem ww_ne : ¬ (("web" : Str) = "weights") := by decide +kernel
theorem wo_ne : ¬ (("web" : Str) = "own_ways") := by decide +kernel
theorem eo_ne : ¬ (("weights" : Str) = "own_ways") := by decide +kernel
theorem ow_ne : ¬ (("own_ways" : Str) = "weights") := by decide +kernel
def g1 (a : Addr) : List (Str × V) := putF "web" (.ref a) []
def g2 (a b : Addr) : List (Str × V) := putF "weights" (.ref b) (g1 a)
def gf (a b c : Addr) : List (Str × V) := putF "own_ways" (.ref c) (g2 a b)
theorem gf_web (a b c : Addr) : (gf a b c).lookup ("web" : Str) = some (.ref a) := by
  unfold gf g2 g1
  rw [lookup_putF, if_neg wo_ne, lookup_putF, if_neg ww_ne, lookup_putF, if_pos rfl]
theorem gf_wts (a b c : Addr) : (gf a b c).lookup ("weights" : Str) = some (.ref b) := by
  unfold gf g2 g1
  rw [lookup_putF, if_neg eo_ne, lookup_putF, if_pos rfl]
theorem gf_own (a b c : Addr) : (gf a b c).lookup ("own_ways" : Str) = some (.ref c) := by
  unfold gf g2 g1
  rw [lookup_putF, if_pos rfl]
theorem gf_no (a b c : Addr) {m : Str} (h1 : ¬ m = "own_ways") (h2 : ¬ m = "weights") (h3 : ¬ m = "web") : (gf a b c).lookup m = none := by
  unfold gf g2 g1
  rw [lookup_putF, if_neg h1, lookup_putF, if_neg h2, lookup_putF, if_neg h3]
  rfl
def wtK (cs : List Pc) : List (L2.Key × V) := cs.map fun c => (kk c.1, V.int c.2.1)
theorem wtK_keys (cs : List Pc) : (wtK cs).map (·.1) = (cs.map (·.1)).map kk := by
  unfold wtK
  rw [List.map_map, List.map_map]
  rfl
theorem wtK_strs (cs : List Pc) : ((wtK cs).map fun kv => kV kv.1) = (cs.map (·.1)).map V.str := by
  unfold wtK
  rw [List.map_map, List.map_map]
  rfl
theorem wtK_has {cs : List Pc} {x : Str} : (valV (wtK cs) (kk x)).isSome = decide (x ∈ cs.map (·.1)) := by
  rw [← valV_any]
  have e : ((wtK cs).any fun kv => decide (kv.1 = kk x)) = true ↔ x ∈ cs.map (·.1) := by
    rw [List.any_eq_true]
    constructor
    · rintro ⟨kv, m, h⟩
      obtain ⟨c, mc, rfl⟩ := List.mem_map.mp m
      exact List.mem_map.mpr ⟨c, mc, kk_inj (of_decide_eq_true h)⟩
    · intro m
      obtain ⟨c, mc, rfl⟩ := List.mem_map.mp m
      exact ⟨(kk c.1, V.int c.2.1), List.mem_map.mpr ⟨c, mc, rfl⟩, decide_eq_true rfl⟩
  by_cases m : x ∈ cs.map (·.1)
  · rw [decide_eq_true m]
    exact e.mpr m
  · rw [decide_eq_false m]
    cases q : ((wtK cs).any fun kv => decide (kv.1 = kk x)) with
    | false => rfl
    | true => exact absurd (e.mp q) m
/-- each piece's kept ways -/
def OwnK (H : Hp) (kvs : List (L2.Key × V)) (cs : List Pc) : Prop := Paired (fun (kv : L2.Key × V) (c : Pc) => kv.1 = kk c.1 ∧ Kept H kv.2 c.2.2) kvs cs
theorem OwnK.seq {H H' : Hp} {kvs : List (L2.Key × V)} {cs : List Pc} (o : OwnK H kvs cs) (s : Seqs H H') : OwnK H' kvs cs := Paired.mapP o fun _ _ q => ⟨q.1, q.2.seq s⟩
theorem OwnK.keys {H : Hp} : ∀ {kvs : List (L2.Key × V)} {cs : List Pc}, OwnK H kvs cs → kvs.map (·.1) = (cs.map (·.1)).map kk
  | _, _, .nil => rfl
  | _, _, .cons q r => by
    rw [List.map_cons, List.map_cons, List.map_cons, q.1, OwnK.keys r]
theorem OwnK.snoc {H : Hp} : ∀ {kvs : List (L2.Key × V)} {cs : List Pc} {kv : L2.Key × V} {c : Pc}, OwnK H kvs cs → kv.1 = kk c.1 ∧ Kept H kv.2 c.2.2 → OwnK H (kvs ++ [kv]) (cs ++ [c])
  | _, _, _, _, .nil, q => .cons q .nil
  | _, _, _, _, .cons a r, q => .cons a (OwnK.snoc r q)
theorem OwnK.at_ {H : Hp} : ∀ {kvs : List (L2.Key × V)} {cs : List Pc} {c : Pc}, OwnK H kvs cs → (cs.map (·.1)).Nodup → c ∈ cs → ∃ z, valV kvs (kk c.1) = some z ∧ Kept H z c.2.2
  | _, _, c, .nil, _, m => nomatch m
  | _, _, c, .cons (a := kv) (b := c0) q r, nd, m => by
    rw [List.map_cons, List.nodup_cons] at nd
    rcases List.mem_cons.mp m with rfl | m
    · exact ⟨kv.2, valV_pos q.1, q.2⟩
    · obtain ⟨z, e, kz⟩ := OwnK.at_ r nd.2 m
      refine ⟨z, ?_, kz⟩
      rw [valV_neg fun h => nd.1 ?_]
      · exact e
      · rw [q.1] at h
        rw [kk_inj h]
        exact List.mem_map.mpr ⟨c, m, rfl⟩
structure GoodsAt (K : PySem.W.Frag) (H : Hp) (g : Addr) (hs : List (Str × Int)) (ts : List Pr) (cs : List Pc) : Prop where
  ob : ∃ dx wb wd od kvs, H g = some (.ins (He.ga K "Goods") dx (gf wb wd od)) ∧ WebAt K H wb hs ts ∧ H wd = some (.dK (wtK cs)) ∧ H od = some (.dK kvs) ∧ OwnK H kvs cs
  okc : PiecesOk ts cs
theorem GoodsAt.up {K : PySem.W.Frag} {H H' : Hp} {g : Addr} {hs : List (Str × Int)} {ts : List Pr} {cs : List Pc} (w : GoodsAt K H g hs ts cs) (s : Same H H') : GoodsAt K H' g hs ts cs := by
  obtain ⟨dx, wb, wd, od, kvs, h1, h2, h3, h4, h5⟩ := w.ob
  exact ⟨⟨dx, wb, wd, od, kvs, s _ _ h1, h2.up s, s _ _ h3, s _ _ h4, h5.seq (.of s)⟩, w.okc⟩
theorem WebAt.seqs {K : PySem.W.Frag} {H H' : Hp} {x y : Addr} {hs : List (Str × Int)} {ts : List Pr} (w : WebAt K H x hs ts) (b : But y H H') (s : Seqs H H') (n1 : x ≠ y) (n2 : ∀ kvs, H y ≠ some (.dK kvs)) : WebAt K H' x hs ts := by
  obtain ⟨dx, d, l, us, h1, h2, h3, h4⟩ := w.ob
  exact ⟨⟨dx, d, l, us, b _ _ n1 h1, b _ _ (fun z => n2 _ (by rw [← z]; exact h2)) h2, h3, dt_seq s h4⟩, w.okh, w.okt⟩
/-! ### the promises -/
def spGoods (K : PySem.W.Frag) : Sp := fun vs H Q _ => ∃ (x dx y lp : Addr) (hs : List (Str × Int)) (ts : List Pr) (cs : List Pc), vs = [.ref x, .ref y, .ref lp] ∧ H x = some (.ins (He.ga K "Goods") dx []) ∧ x ≠ y ∧ WebAt K H y hs ts ∧ Dt H (.ref lp) (dCs cs) ∧ PiecesOk ts cs ∧
  ∀ H', But x H H' → GoodsAt K H' x hs ts cs → Q .non H'
def spNames (K : PySem.W.Frag) : Sp := fun vs H Q _ => ∃ (x : Addr) (hs : List (Str × Int)) (ts : List Pr) (cs : List Pc), vs = [.ref x] ∧ GoodsAt K H x hs ts cs ∧ ∀ (H' : Hp) (p : Addr) (xs : List Str), Same H H' → H p = none → xs.Perm (cs.map (·.1)) → H' p = some (.lst (xs.map V.str)) → Q (.ref p) H'
def spCheck (K : PySem.W.Frag) : Sp := fun vs H Q _ => ∃ (x : Addr) (z : Str) (hs : List (Str × Int)) (ts : List Pr) (cs : List Pc), vs = [.ref x, .str z] ∧ GoodsAt K H x hs ts cs ∧ z ∈ cs.map (·.1) ∧ Q .non H
def goes (a b : Str) : Option (List Pr) → Bool
  | none => true
  | some us => tied us a b
def spMayGo (K : PySem.W.Frag) : Sp := fun vs H Q _ => ∃ (x : Addr) (c : Pc) (a b : Str) (hs : List (Str × Int)) (ts : List Pr) (cs : List Pc), vs = [.ref x, .str c.1, .str a, .str b] ∧ GoodsAt K H x hs ts cs ∧ c ∈ cs ∧ Nm a ∧ Nm b ∧ tied ts a b = true ∧ ∀ H', Same H H' → Q (.bl (goes a b c.2.2)) H'
section
variable {P : Program} {w : World} {K : PySem.W.Frag} {mg : Str → Option Value} {base : Heap}
abbrev sGoods (j : Nat) : Stmt := inClass (top 36) j
theorem scGoods : FnScope ["self", "web", "pieces", "name", "weight", "ways", "row"] ["self", "web", "pieces"] (defScope (sGoods 0)) := ⟨rfl, rfl, rfl, by decide +kernel, rfl, by decide +kernel, by decide +kernel⟩
theorem ok_goods {f : Addr} {fd : FuncData} (F : FnP K "__init__" "Goods.__init__" (sGoods 0) f fd) (T : Txt K mg) (GR : Gn P w K mg base CX0 5 "is_piece_row" ["web", "thing"] (spPiece K)) (GK : Gn P w K mg base CX0 2 "kept_ways" ["ways"] spKept) :
    FnOk P w K mg base CX0 6 f fd ["self", "web", "pieces"] (spGoods K) := by
  refine def_ok F scGoods (fun vs H Q E h => ?_) (fun cdv A outer s H vs Q E hr h => ?_)
  · obtain ⟨x, dx, y, lp, hs, ts, cs, rfl, _⟩ := h
    rfl
  · obtain ⟨x, dx, y, lp, hs, ts, cs, rfl, hx, nxy, wb, dt, ok, k⟩ := h
    have C := T.cls 54
    have hu := hu_of hr
    obtain ⟨xs, hl, da⟩ := dt.list_inv
    have hlen : xs.length = cs.length := by rw [da.len, List.length_map]
    have h64 := ok.len
    refine ⟨_, pss_cons (ps_if (PW.pt (pw_or (pt_not (pt_val (pe_isi (T.free 30) (T.free 35) boot_listT (pv 2)))) (pw_or1 (pt_not (pt_val (pe_callB (cr_all rfl) (by rfl) (T.free 38) boot_allB (pa_cons (pe_lc (own := [("row", 6)]) (g := gName 6) (tt := tYes) rfl scGoods.nd (pi_list (pv 2))
        (blkOk_by (N := ["self", "web", "pieces", "name", "weight", "ways", "row"]) (sc := defScope (sGoods 0)) (by decide +kernel)) (fun _ _ _ _ _ => pg_name (i := 6) scGoods.nd rfl (Or.inl rfl)) (fun _ _ _ _ _ => pts_nil) (fun _ _ _ _ _ => pe_g GR hr (pa_cons (pv 1) (pa_cons (pv 6) pa_nil)) pass0)) pa_nil)))))))
        (pss_one ps_never) pss_nil)
      (pss_cons (ps_fld (pv 0) (pv 1) rfl)
      (pss_cons (ps_fld (pv 0) pe_dnewK rfl)
      (pss_cons (ps_fld (pv 0) pe_dnewK rfl)
      (pss_cons (ps_for PassesOwn.never rfl (pi_list (pv 2)) (pg_tup rfl (pgs_cons (pg_name (i := 3) scGoods.nd rfl (Or.inl rfl)) (pgs_cons (pg_name (i := 4) scGoods.nd rfl (Or.inl rfl)) (pgs_cons (pg_name (i := 5) scGoods.nd rfl (Or.inl rfl)) pgs_nil))))
        (pss_cons (ps_dput hu (pe_fld (pv 0) rfl) (pv 3) (pv 4) rfl) (pss_one (ps_dput hu (pe_fld (pv 0) rfl) (pv 3) (pe_g GK hr (pa_cons (pv 5) pa_nil) pass0) rfl))))
      (pss_one (ps_if (pt_cmpR op_lt (pe_callB call_lenD (by rfl) (T.free 37) PySem.boot_len (pa_cons (pe_fld (pv 0) rfl) pa_nil)) (pe_callB call_len_seq (by rfl) (T.free 37) PySem.boot_len (pa_cons (pv 2) pa_nil)) (nomark _)) (pss_one ps_never) pss_nil)))))), ?_⟩
    -- the test
    refine ⟨_, rfl, .ref lp, "list", true, rfl, .base (.lst hl), ki_ll, true, rfl, iteF ?_⟩
    refine ⟨_, rfl, lp, rfl, ⟨_, SqL.of hl⟩, fun D hD => ?_⟩
    refine lc_data (walk_list (xs := xs)) ((List.replicate xs.length true).map PyData.bool) rep_len (small1000 (by omega)) hD (fun H1 s1 => s1.seq (SqL.of hl)) ?_ ?_
    · rintro i v d H1 H2 R hi hd' s1 hn ⟨rfl, hv⟩ kk
      have ed := rep_at hi hd'
      subst ed
      obtain ⟨d2, e2, dv⟩ := da.get hv
      obtain ⟨c, e3, rfl⟩ := at_map e2
      exact ⟨rfl, _, rfl, _, rfl, y, v, hs, ts, c, rfl, wb.up s1, dv.up s1, ok.ok c (List.mem_of_getElem? e3), fun H3 s3 => kk _ _ s3 (.bl true)⟩
    · intro H1 s1 d1
      refine ⟨D, List.replicate xs.length true, rfl, d1.bools, _, rfl, ?_⟩
      refine iteC (by rw [rep_all]; rfl) ?_
      -- self.web = web; self.weights = {}; self.own_ways = {}
      have hx1 := s1 _ _ hx
      refine ⟨_, rfl, _, rfl, x, He.ga K "Goods", dx, [], rfl, hx1, C, T.noat 59, (by show 0 < 1000; decide), ?_⟩
      have q1 : Seqs H1 (upd H1 x (.ins (He.ga K "Goods") dx (putF "web" (.ref y) []))) := Seqs.ins hx1
      have b1 : But x H1 (upd H1 x (.ins (He.ga K "Goods") dx (putF "web" (.ref y) []))) := But.put
      have e1 : upd H1 x (.ins (He.ga K "Goods") dx (putF "web" (.ref y) [])) x = some (.ins (He.ga K "Goods") dx (g1 y)) := upd_same
      generalize upd H1 x (.ins (He.ga K "Goods") dx (putF "web" (.ref y) [])) = H2 at q1 b1 e1 ⊢
      intro wd nwd
      have nx2 : x ≠ wd := ne_of_none e1 nwd
      refine ⟨_, rfl, x, He.ga K "Goods", dx, g1 y, rfl, (by rw [upd_ne nx2]; exact e1), C, T.noat 60, (by show 1 < 1000; decide), ?_⟩
      have q2 : Seqs H2 (upd (upd H2 wd (.dK [])) x (.ins (He.ga K "Goods") dx (putF "weights" (.ref wd) (g1 y)))) := (Seqs.of (same_new nwd)).trans (Seqs.ins (by rw [upd_ne nx2]; exact e1))
      have b2 : But x H2 (upd (upd H2 wd (.dK [])) x (.ins (He.ga K "Goods") dx (putF "weights" (.ref wd) (g1 y)))) := (But.new x nwd).trans But.put
      have e2 : upd (upd H2 wd (.dK [])) x (.ins (He.ga K "Goods") dx (putF "weights" (.ref wd) (g1 y))) x = some (.ins (He.ga K "Goods") dx (g2 y wd)) := upd_same
      have w2 : upd (upd H2 wd (.dK [])) x (.ins (He.ga K "Goods") dx (putF "weights" (.ref wd) (g1 y))) wd = some (.dK []) := by rw [upd_ne nx2.symm, upd_same]
      have n2 : H2 wd = none := nwd
      generalize upd (upd H2 wd (.dK [])) x (.ins (He.ga K "Goods") dx (putF "weights" (.ref wd) (g1 y))) = H3 at q2 b2 e2 w2 ⊢
      intro od nod
      have nx3 : x ≠ od := ne_of_none e2 nod
      have nwo : wd ≠ od := ne_of_none w2 nod
      refine ⟨_, rfl, x, He.ga K "Goods", dx, g2 y wd, rfl, (by rw [upd_ne nx3]; exact e2), C, T.noat 61, (by show 2 < 1000; decide), ?_⟩
      have q3 : Seqs H3 (upd (upd H3 od (.dK [])) x (.ins (He.ga K "Goods") dx (putF "own_ways" (.ref od) (g2 y wd)))) := (Seqs.of (same_new nod)).trans (Seqs.ins (by rw [upd_ne nx3]; exact e2))
      have b3 : But x H3 (upd (upd H3 od (.dK [])) x (.ins (He.ga K "Goods") dx (putF "own_ways" (.ref od) (g2 y wd)))) := (But.new x nod).trans But.put
      have e3 : upd (upd H3 od (.dK [])) x (.ins (He.ga K "Goods") dx (putF "own_ways" (.ref od) (g2 y wd))) x = some (.ins (He.ga K "Goods") dx (gf y wd od)) := upd_same
      have w3 : upd (upd H3 od (.dK [])) x (.ins (He.ga K "Goods") dx (putF "own_ways" (.ref od) (g2 y wd))) wd = some (.dK []) := by rw [upd_ne nx2.symm, upd_ne nwo]; exact w2
      have o3 : upd (upd H3 od (.dK [])) x (.ins (He.ga K "Goods") dx (putF "own_ways" (.ref od) (g2 y wd))) od = some (.dK []) := by rw [upd_ne nx3.symm, upd_same]
      have n3 : H3 od = none := nod
      generalize upd (upd H3 od (.dK [])) x (.ins (He.ga K "Goods") dx (putF "own_ways" (.ref od) (g2 y wd))) = H4 at q3 b3 e3 w3 o3 ⊢
      have hw1 : H1 wd = none := by
        cases z : H1 wd with
        | none => rfl
        | some o =>
          have := b1 _ _ nx2.symm z
          rw [n2] at this
          cases this
      have ho1 : H1 od = none := by
        cases z : H1 od with
        | none => rfl
        | some o =>
          have := b2 _ _ nx3.symm (b1 _ _ nx3.symm z)
          rw [n3] at this
          cases this
      have bAll : But x H1 H4 := (b1.trans b2).trans b3
      have qAll : Seqs H1 H4 := (q1.trans q2).trans q3
      -- for name, weight, ways in pieces
      refine ⟨_, rfl, lp, rfl, ⟨_, SqL.of (qAll.1 _ _ (s1 _ _ hl))⟩, for_list (K := K) (a := lp) (xs := xs) (fun i σ H5 => ∃ (kvs : List (L2.Key × V)) (v3 v4 v5 : Option V), σ = [some (.ref x), some (.ref y), some (.ref lp), v3, v4, v5, none] ∧ But x H1 H5 ∧ Seqs H1 H5 ∧
          H5 x = some (.ins (He.ga K "Goods") dx (gf y wd od)) ∧ H5 wd = some (.dK (wtK (cs.take i))) ∧ H5 od = some (.dK kvs) ∧ OwnK H5 kvs (cs.take i))
        ⟨[], none, none, none, rfl, bAll, qAll, e3, by rw [List.take_zero]; exact w3, o3, by rw [List.take_zero]; exact .nil⟩
        (fun i σ H5 _ ⟨_, _, _, _, _, _, q, _⟩ => SqL.of (q.1 _ _ (s1 _ _ hl))) ?_ ?_⟩
      · rintro i v σ H5 hi ⟨kvs, v3, v4, v5, rfl, b5, q5, e5, w5, o5, p5⟩
        obtain ⟨d2, f2, dv⟩ := da.get hi
        obtain ⟨c, f3, rfl⟩ := at_map f2
        have dv5 := dt_seq q5 (dv.up s1)
        obtain ⟨t, u, rfl, ht, du⟩ := dt_pc dv5
        have okc := ok.ok c (List.mem_of_getElem? f3)
        have hlt : i < cs.length := (List.getElem?_eq_some_iff.mp f3).1
        have tk : cs.take (i + 1) = cs.take i ++ [c] := take_snoc f3
        have fresh : ¬ kk c.1 ∈ ((cs.take i).map (·.1)).map kk := by
          intro m
          obtain ⟨z, mz, ez⟩ := List.mem_map.mp m
          obtain ⟨c2, mc, rfl⟩ := List.mem_map.mp mz
          have ez := kk_inj ez
          obtain ⟨j, hj, ej⟩ := List.mem_iff_getElem.mp mc
          rw [List.length_take] at hj
          rw [List.getElem_take] at ej
          have h1 : (cs.map (·.1))[j]? = some c.1 := by rw [List.getElem?_map, List.getElem?_eq_getElem (by omega), ej, Option.map_some, ez]
          have h2 : (cs.map (·.1))[i]? = some c.1 := by rw [List.getElem?_map, f3, Option.map_some]
          have := nd_ix ok.nd h1 h2
          omega
        have l1 : (wtK (cs.take i)).length = i := by
          unfold wtK
          rw [List.length_map, List.length_take]
          omega
        have l2 : kvs.length = i := by
          have z := congrArg List.length p5.keys
          rw [List.length_map, List.length_map, List.length_map, List.length_take] at z
          omega
        refine ⟨t, _, rfl, SqT.of ht, rfl, _, _, rfl, _, _, rfl, _, _, rfl, rfl, ?_⟩
        -- self.weights[name] = weight
        refine ⟨_, rfl, _, rfl, x, _, dx, _, _, rfl, e5, C, T.noat 60, gf_wts _ _ _, _, rfl, wd, _, rfl, DPut.k (k := Sum.inr c.1) w5 (small1000 (by omega)), ?_⟩
        have pw : putK (wtK (cs.take i)) (kk c.1) (V.int c.2.1) = wtK (cs.take (i + 1)) := by
          rw [putK_new _ (valV_no (by rw [wtK_keys]; exact fresh)), tk]
          unfold wtK
          rw [List.map_append]
          rfl
        rw [pw]
        have q6 : Seqs H5 (upd H5 wd (.dK (wtK (cs.take (i + 1))))) := Seqs.dct w5
        have du6 := dt_seq q6 du
        -- self.own_ways[name] = kept_ways(ways)
        refine ⟨_, rfl, u, ts, c.2.2, rfl, du6, okc.ways, fun H7 z s7 kz => ?_⟩
        have e7 : H7 x = some (.ins (He.ga K "Goods") dx (gf y wd od)) := s7 _ _ (by rw [upd_ne nx2]; exact e5)
        have w7 : H7 wd = some (.dK (wtK (cs.take (i + 1)))) := s7 _ _ upd_same
        have o7 : H7 od = some (.dK kvs) := s7 _ _ (by rw [upd_ne nwo.symm]; exact o5)
        refine ⟨_, rfl, x, _, dx, _, _, rfl, e7, C, T.noat 61, gf_own _ _ _, _, rfl, od, _, rfl, DPut.k (k := Sum.inr c.1) o7 (small1000 (by omega)), ?_⟩
        have po : putK kvs (kk c.1) z = kvs ++ [(kk c.1, z)] := putK_new _ (valV_no (by rw [p5.keys]; exact fresh))
        rw [po]
        have q8 : Seqs H7 (upd H7 od (.dK (kvs ++ [(kk c.1, z)]))) := Seqs.dct o7
        refine ⟨_, _, _, _, rfl, ?_, ((q5.trans q6).trans (.of s7)).trans q8, by rw [upd_ne nx3]; exact e7, by rw [upd_ne nwo]; exact w7, upd_same, ?_⟩
        · intro b o nb hb
          rw [upd_ne (ne_of_none hb ho1)]
          refine s7 _ _ ?_
          rw [upd_ne (ne_of_none hb hw1)]
          exact b5 _ _ nb hb
        · rw [tk]
          exact ((p5.seq ((q6.trans (.of s7)).trans q8)).snoc ⟨rfl, kz.seq q8⟩)
      · rintro σ H5 ⟨kvs, v3, v4, v5, rfl, b5, q5, e5, w5, o5, p5⟩
        rw [hlen, List.take_length] at w5 p5
        refine ⟨_, rfl, x, _, dx, _, _, rfl, e5, C, T.noat 60, gf_wts _ _ _, wd, _, rfl, w5, _, rfl, lp, _, rfl, .inl (SqL.of (q5.1 _ _ (s1 _ _ hl))), _, _, rfl, rfl, _, rfl, ?_⟩
        refine iteC (decide_eq_false (by unfold wtK; rw [List.length_map, hlen]; omega)) ?_
        refine k _ ((But.of x s1).trans b5) ⟨⟨dx, y, wd, od, kvs, e5, (wb.up s1).seqs b5 q5 nxy.symm (fun kvs z => ?_), w5, o5, p5⟩, ok⟩
        rw [hx1] at z
        cases z
end
end Kp
namespace Kp
open PySem PySem.Spec PyProof.Rows L2
section
variable {P : Program} {w : World} {K : PySem.W.Frag} {mg : Str → Option Value} {base : Heap}
theorem scCheck : FnScope ["self", "piece"] ["self", "piece"] (defScope (sGoods 1)) := ⟨rfl, rfl, rfl, by decide +kernel, rfl, by decide +kernel, by decide +kernel⟩
theorem ok_check {f : Addr} {fd : FuncData} (F : FnP K "check_piece" "Goods.check_piece" (sGoods 1) f fd) (T : Txt K mg) : FnOk P w K mg base CX0 1 f fd ["self", "piece"] (spCheck K) := by
  refine def_ok F scCheck (fun vs H Q E h => ?_) (fun cdv A outer s H vs Q E hr h => ?_)
  · obtain ⟨x, z, hs, ts, cs, rfl, _⟩ := h
    rfl
  · obtain ⟨x, z, hs, ts, cs, rfl, gd, hm, k⟩ := h
    obtain ⟨dx, wb, wd, od, kvs, h1, h2, h3, h4, h5⟩ := gd.ob
    have hu := hu_of hr
    refine ⟨_, pss_one (ps_if (PW.pt (pw_or (pt_not (pt_val (pe_isi (T.free 30) (T.free 33) boot_strT (pv 1)))) (pw_or1 (pt_cmp (pc_dnotin hu (pv 1) (pe_fld (pv 0) rfl)) (by rfl))))) (pss_one ps_never) pss_nil), ?_⟩
    refine ⟨_, rfl, .str z, "str", true, rfl, .base (.str z), ki_ss, true, rfl, iteF ?_⟩
    refine ⟨_, rfl, _, rfl, x, _, dx, _, _, rfl, h1, T.cls 54, T.noat 60, gf_wts _ _ _, wd, _, rfl, DGet.k (k := Sum.inr z) h3, _, rfl, ?_⟩
    exact iteC (by rw [wtK_has, decide_eq_true hm]; rfl) k
theorem scNames : FnScope ["self"] ["self"] (defScope (sGoods 2)) := ⟨rfl, rfl, rfl, by decide +kernel, rfl, by decide +kernel, by decide +kernel⟩
theorem ok_names {f : Addr} {fd : FuncData} (F : FnP K "names" "Goods.names" (sGoods 2) f fd) (T : Txt K mg) : FnOk P w K mg base CX0 1 f fd ["self"] (spNames K) := by
  refine def_ok F scNames (fun vs H Q E h => ?_) (fun cdv A outer s H vs Q E hr h => ?_)
  · obtain ⟨x, hs, ts, cs, rfl, _⟩ := h
    rfl
  · obtain ⟨x, hs, ts, cs, rfl, gd, k⟩ := h
    obtain ⟨dx, wb, wd, od, kvs, h1, h2, h3, h4, h5⟩ := gd.ob
    have h64 := gd.okc.len
    refine ⟨_, pss_one (ps_ret (pe_callB cr_sortedS (by rfl) (T.free 39) boot_sortedB (pa_cons (pe_callTy (call_list_dK rfl) (by rfl) (T.free 35) boot_listT (pa_cons (pe_fld (pv 0) rfl) pa_nil)) pa_nil))), ?_⟩
    refine ⟨_, rfl, x, _, dx, _, _, rfl, h1, T.cls 54, T.noat 60, gf_wts _ _ _, wd, _, rfl, h3, fun q hq => ?_⟩
    rw [wtK_strs]
    refine ⟨q, cs.map (·.1), rfl, SqL.of upd_same, by rw [List.length_map]; omega, fun ys p pm hs' hp => ?_⟩
    have s1 := same_new (o := .lst ((cs.map (·.1)).map V.str)) hq
    exact k _ p ys (s1.trans (same_new hp)) (none_back s1 hp) pm upd_same
theorem scMay : FnScope ["self", "piece", "one", "other"] ["self", "piece", "one", "other"] (defScope (sGoods 5)) := ⟨rfl, rfl, rfl, by decide +kernel, rfl, by decide +kernel, by decide +kernel⟩
theorem ok_may {f : Addr} {fd : FuncData} (F : FnP K "may_go" "Goods.may_go" (sGoods 5) f fd) (T : Txt K mg) (GC : Mn P w K mg base CX0 1 "Goods" "check_piece" ["self", "piece"] (spCheck K)) (GT : Mn P w K mg base CX0 3 "Web" "are_tied" ["self", "one", "other"] (spTied K))
    (GO : Gn P w K mg base CX0 1 "sorted_pair" ["pair"] spSorted) : FnOk P w K mg base CX0 4 f fd ["self", "piece", "one", "other"] (spMayGo K) := by
  obtain ⟨fdC, FC, bC⟩ := GC.ok
  obtain ⟨fdT, FT, bT⟩ := GT.ok
  refine def_ok F scMay (fun vs H Q E h => ?_) (fun cdv A outer s H vs Q E hr h => ?_)
  · obtain ⟨x, c, a, b, hs, ts, cs, rfl, _⟩ := h
    rfl
  · obtain ⟨x, c, a, b, hs, ts, cs, rfl, gd, hc, na, nb, ht, k⟩ := h
    have hu := hu_of hr
    refine ⟨_, pss_cons (ps_expr (pe_meth (pv 0) (T.cls 54) (T.meth 64) FC (hr.mono (by decide)) bC .nil pass0 (pa_cons (pv 1) pa_nil)))
      (pss_cons (ps_if (pt_not (pt_val (pe_meth (pe_fld (pv 0) rfl) (T.cls 53) (T.meth 63) FT (hr.mono (by decide)) bT .nil pass0 (pa_cons (pv 2) (pa_cons (pv 3) pa_nil))))) (pss_one (ps_ret pe_bl)) pss_nil)
      (pss_one (ps_ret (pe_or (pe_cmp (pc_isN (pe_dget hu (pe_fld (pv 0) rfl) (pv 1) (fun _ _ => rfl))) rfl)
        (pe_one (pe_cmpR (op_inD (hu65 hr)) (pe_g GO hr (pa_cons (pe_tup (pa_cons (pv 2) (pa_cons (pv 3) pa_nil))) pa_nil) pass0) (pe_dget hu (pe_fld (pv 0) rfl) (pv 1) (fun _ _ => rfl)) (by rfl))))))), ?_⟩
    obtain ⟨dx, wb, wd, od, kvs, h1, h2, h3, h4, h5⟩ := gd.ob
    refine ⟨_, rfl, x, dx, _, rfl, h1, gf_no _ _ _ (by decide +kernel) (by decide +kernel) (by decide +kernel), _, rfl, x, c.1, hs, ts, cs, rfl, gd, List.mem_map.mpr ⟨c, hc, rfl⟩, ?_⟩
    obtain ⟨dy, d, l, us, w1, _⟩ := h2.ob
    refine ⟨_, rfl, x, _, dx, _, _, rfl, h1, T.cls 54, T.noat 59, gf_web _ _ _, wb, dy, _, rfl, w1, wf_no _ _ (by decide +kernel) (by decide +kernel), _, rfl, _, rfl, wb, a, b, hs, ts, rfl, h2, na, nb, fun H1 s1 => ?_⟩
    rw [ht]
    refine ⟨true, rfl, iteF ?_⟩
    have gd1 := gd.up s1
    obtain ⟨dx', wb', wd', od', kvs', h1', h2', h3', h4', h5'⟩ := gd1.ob
    obtain ⟨z, ez, kz⟩ := h5'.at_ gd.okc.nd hc
    refine ⟨_, rfl, x, _, dx', _, _, rfl, h1', T.cls 54, T.noat 61, gf_own _ _ _, _, rfl, od', z, rfl, by rw [← ez]; exact DGet.k (k := Sum.inr c.1) h4', _, rfl, ?_⟩
    obtain ⟨cn, cw, co⟩ := c
    cases co with
    | none =>
      have kz : z = .non := kz
      subst kz
      exact iteB (decide_eq_true rfl) (k _ s1)
    | some us2 =>
      obtain ⟨p, vs2, rfl, pm, dp⟩ := kz
      refine iteC (decide_eq_false fun q => nomatch q) ?_
      refine ⟨_, rfl, _, rfl, (by show 2 ≤ sizeLine; decide), fun q hq => ?_⟩
      have s2 := same_new (o := .tup [.str a, .str b]) hq
      refine ⟨q, _, (a, b), rfl, upd_same, .tup, fun H2 r s3 nr hr' => ?_⟩
      have s23 := s2.trans s3
      have okc := gd.okc.ok _ hc
      have okw : SomeOk ts us2 := okc.ways
      have nms : ∀ t ∈ vs2, Nm t.1 ∧ Nm t.2 := fun t m => by
        obtain ⟨t0, m0, e0⟩ := List.mem_map.mp (pm.mem_iff.mp m)
        have nn := tied_nm h2.okh h2.okt (okw.mem t0 m0)
        rcases sP_or t0 with e | e <;> rw [e] at e0 <;> subst e0
        · exact ⟨nn.1, nn.2.1⟩
        · exact ⟨nn.2.1, nn.1⟩
      have nab : Nm (sP (a, b)).1 ∧ Nm (sP (a, b)).2 := by
        rcases sP_or (a, b) with e | e <;> rw [e]
        · exact ⟨na, nb⟩
        · exact ⟨nb, na⟩
      refine ⟨_, rfl, x, _, dx', _, _, rfl, s23 _ _ h1', T.cls 54, T.noat 61, gf_own _ _ _, _, rfl, od', .ref p, rfl, by rw [← ez]; exact DGet.k (k := Sum.inr cn) (s23 _ _ h4'), ?_⟩
      refine ⟨dP (sP (a, b)), vs2.map dP, (dt_prM hr').dp, (dp.up s23).dp, dP_shaped nab, dPs_shaped nms, ?_⟩
      rw [any_dP, tied_iff pm]
      exact k _ (s1.trans s23)
end
end Kp
namespace Kp
open PySem PySem.Spec PyProof.Rows L2
/-! ### stands -/
abbrev Std := List (Str × Str)
def stK (st : Std) : List (L2.Key × V) := st.map fun p => (kk p.1, V.str p.2)
theorem stK_keys (st : Std) : (stK st).map (·.1) = (st.map (·.1)).map kk := by
  unfold stK
  rw [List.map_map, List.map_map]
  rfl
def lk (st : Std) (x : Str) : Option Str := (st.find? fun p => decide (p.1 = x)).map (·.2)
theorem lk_val (st : Std) (x : Str) : valV (stK st) (kk x) = (lk st x).map V.str := by
  induction st with
  | nil => rfl
  | cons p st ih =>
    by_cases e : p.1 = x
    · have e1 : valV (stK (p :: st)) (kk x) = some (V.str p.2) := valV_pos (p := (kk p.1, V.str p.2)) (congrArg kk e)
      have e2 : lk (p :: st) x = some p.2 := by
        unfold lk
        rw [List.find?_cons_of_pos (by simpa using e)]
        rfl
      rw [e1, e2]
      rfl
    · have e1 : valV (stK (p :: st)) (kk x) = valV (stK st) (kk x) := valV_neg (p := (kk p.1, V.str p.2)) fun z => e (kk_inj z)
      have e2 : lk (p :: st) x = lk st x := by
        unfold lk
        rw [List.find?_cons_of_neg (by simpa using e)]
      rw [e1, e2, ih]
theorem lk_none {st : Std} {x : Str} : lk st x = none ↔ ¬ x ∈ st.map (·.1) := by
  constructor
  · intro h m
    have q : valV (stK st) (kk x) = none := by rw [lk_val, h]; rfl
    have z := valV_not q
    rw [stK_keys] at z
    exact z (List.mem_map.mpr ⟨x, m, rfl⟩)
  · intro h
    have q : valV (stK st) (kk x) = none := valV_no (by
      rw [stK_keys]
      intro m
      obtain ⟨y, my, ey⟩ := List.mem_map.mp m
      rw [kk_inj ey] at my
      exact h my)
    rw [lk_val] at q
    cases e : lk st x with
    | none => rfl
    | some v =>
      rw [e] at q
      cases q
theorem lk_mem {st : Std} {x h : Str} (e : lk st x = some h) : h ∈ st.map (·.2) := by
  unfold lk at e
  obtain ⟨p, hp, rfl⟩ := Option.map_eq_some_iff.mp e
  exact List.mem_map.mpr ⟨p, List.mem_of_find?_eq_some hp, rfl⟩
/-- each piece, in the pieces' order, at a hand -/
structure StOk (hs : List (Str × Int)) (cs : List Pc) (st : Std) : Prop where
  keys : st.map (·.1) = cs.map (·.1)
  at_ : ∀ p ∈ st, p.2 ∈ hs.map (·.1)
theorem inV_strs (x : Str) (xs : List Str) : inV (.str x) (xs.map V.str) = decide (x ∈ xs) := by
  unfold inV
  induction xs with
  | nil => simp
  | cons y ys ih =>
    rw [List.map_cons, List.any_cons, ih]
    show ((y == x) || _) = _
    by_cases e : y = x
    · subst e
      simp
    · have e' : ¬ x = y := fun z => e z.symm
      simp [e, e']
theorem flat_strs (xs : List Str) : (xs.map V.str).all flatV = true := by
  rw [List.all_eq_true]
  intro v hv
  obtain ⟨x, _, rfl⟩ := List.mem_map.mp hv
  rfl
def spIsStand (K : PySem.W.Frag) : Sp := fun vs H Q _ => ∃ (g d : Addr) (hs : List (Str × Int)) (ts : List Pr) (cs : List Pc) (st : Std), vs = [.ref g, .ref d] ∧ GoodsAt K H g hs ts cs ∧ H d = some (.dK (stK st)) ∧ StOk hs cs st ∧ ∀ H', Same H H' → Q (.bl true) H'
def spSureStand (K : PySem.W.Frag) : Sp := fun vs H Q _ => ∃ (g d : Addr) (hs : List (Str × Int)) (ts : List Pr) (cs : List Pc) (st : Std), vs = [.ref g, .ref d] ∧ GoodsAt K H g hs ts cs ∧ H d = some (.dK (stK st)) ∧ StOk hs cs st ∧ ∀ H', Same H H' → Q .non H'
section
variable {P : Program} {w : World} {K : PySem.W.Frag} {mg : Str → Option Value} {base : Heap}
theorem scIsStand : FnScope ["goods", "thing", "names", "hands", "name", "hand"] ["goods", "thing"] (defScope (top 15)) := ⟨rfl, rfl, rfl, by decide +kernel, rfl, by decide +kernel, by decide +kernel⟩
theorem ok_isStand {f : Addr} {fd : FuncData} (F : FnP K "is_stand" "is_stand" (top 15) f fd) (T : Txt K mg) (GN : Mn P w K mg base CX0 1 "Goods" "names" ["self"] (spNames K)) (GH : Mn P w K mg base CX0 1 "Web" "hands" ["self"] (spHands K)) :
    FnOk P w K mg base CX0 2 f fd ["goods", "thing"] (spIsStand K) := by
  obtain ⟨fdN, FN, bN⟩ := GN.ok
  obtain ⟨fdH, FH, bH⟩ := GH.ok
  refine def_ok F scIsStand (fun vs H Q E h => ?_) (fun cdv A outer s H vs Q E hr h => ?_)
  · obtain ⟨g, d, hs, ts, cs, st, rfl, _⟩ := h
    rfl
  · obtain ⟨g, d, hs, ts, cs, st, rfl, gd, hd, ok, k⟩ := h
    have hu := hu_of hr
    have h64 := gd.okc.len
    refine ⟨_, pss_cons (ps_set (i := 2) scIsStand.nd rfl (Or.inl rfl) (pe_meth0 (pv 0) (T.cls 54) (T.meth 65) FN (hr.mono (by decide)) bN .nil pass0))
      (pss_cons (ps_if (PW.pt (pw_or (pt_not (pt_val (pe_isi (T.free 30) (T.free 36) boot_dictT (pv 1)))) (pw_or (pt_cmpR op_ne (pe_callB call_lenD (by rfl) (T.free 37) PySem.boot_len (pa_cons (pv 1) pa_nil)) (pe_callB call_len_seq (by rfl) (T.free 37) PySem.boot_len (pa_cons (pv 2) pa_nil)) (nomark _))
          (pw_or1 (pt_not (pt_val (pe_callB (cr_all rfl) (by rfl) (T.free 38) boot_allB (pa_cons (pe_lc (own := [("name", 4)]) (g := gName 4) (tt := tYes) rfl scIsStand.nd (pi_list (pv 2))
        (blkOk_by (N := ["goods", "thing", "names", "hands", "name", "hand"]) (sc := defScope (top 15)) (by decide +kernel)) (fun _ _ _ _ _ => pg_name (i := 4) scIsStand.nd rfl (Or.inl rfl)) (fun _ _ _ _ _ => pts_nil) (fun _ _ _ _ _ => pe_cmp (pc_din hu (pv 4) (pv 1)) (by rfl))) pa_nil)))))))) (pss_one (ps_ret pe_bl)) pss_nil)
      (pss_cons (ps_set (i := 3) scIsStand.nd rfl (Or.inr rfl) (pe_meth0 (pe_fld (pv 0) rfl) (T.cls 53) (T.meth 62) FH (hr.mono (by decide)) bH .nil pass0))
      (pss_one (ps_ret (pe_callB (cr_all rfl) (by rfl) (T.free 38) boot_allB (pa_cons (pe_lock (pe_lc (own := [("hand", 5)]) (g := gName 5) (tt := tYes) rfl scIsStand.nd (pi_values (pv 1))
        (blkOk_by (N := ["goods", "thing", "names", "hands", "name", "hand"]) (sc := defScope (top 15)) (by decide +kernel)) (fun _ _ _ _ _ => pg_name (i := 5) scIsStand.nd rfl (Or.inl rfl)) (fun _ _ _ _ _ => pts_nil)
        (fun _ _ _ _ _ => pe_and (show PE _ _ (tCB (rIsiB K "str") (tCons (tVar 5) (tCons (tC (.ty "str")) tNil))) from pe_isi (T.free 30) (T.free 33) boot_strT (pv 5)) (pe_one (pe_cmpR (r := rIn K false) op_in_seq (pv 5) (pv 3) (by rfl)))))) pa_nil)))))), ?_⟩
    obtain ⟨dx, wb, wd, od, kvs, h1, h2, h3, h4, h5⟩ := gd.ob
    refine ⟨_, rfl, g, dx, _, rfl, h1, gf_no _ _ _ (by decide +kernel) (by decide +kernel) (by decide +kernel), g, hs, ts, cs, rfl, gd, fun H1 p xs s1 np pm hp => ?_⟩
    have hd1 := s1 _ _ hd
    have hlx : xs.length = cs.length := by rw [pm.length_eq, List.length_map]
    have hls : st.length = cs.length := by
      have z := congrArg List.length ok.keys
      rw [List.length_map, List.length_map] at z
      exact z
    refine ⟨_, rfl, .ref d, "dict", true, rfl, .base (.dK hd1), ki_dd, true, rfl, iteF ?_⟩
    refine ⟨_, rfl, d, _, rfl, hd1, _, rfl, p, _, rfl, .inl (SqL.of hp), rfl, _, rfl, ?_⟩
    refine iteC (by rw [decide_eq_true]; · rfl
                    · unfold stK; rw [List.length_map, List.length_map, hlx, hls]) ?_
    refine ⟨_, rfl, p, rfl, ⟨_, SqL.of hp⟩, fun D hD => ?_⟩
    refine lc_data (walk_list (xs := xs.map V.str)) ((List.replicate (xs.map V.str).length true).map PyData.bool) rep_len (small1000 (by rw [List.length_map]; omega)) hD (fun H2 s2 => s2.seq (SqL.of hp)) ?_ ?_
    · rintro i v d' H2 H3 R hi hd' s2 hn ⟨rfl, hv⟩ kk
      have ed := rep_at hi hd'
      subst ed
      rw [List.getElem?_map] at hv
      obtain ⟨x, hx, rfl⟩ := Option.map_eq_some_iff.mp hv
      refine ⟨rfl, _, rfl, _, rfl, d, _, rfl, DGet.k (k := Sum.inr x) (s2 _ _ hd1), ?_⟩
      have hm : x ∈ st.map (·.1) := by
        rw [ok.keys]
        exact pm.mem_iff.mp (List.mem_of_getElem? hx)
      have e : (valV (stK st) (Sum.inr x)).isSome = true := by
        show (valV (stK st) (Kp.kk x)).isSome = true
        rw [lk_val]
        cases q : lk st x with
        | none => exact absurd hm (lk_none.mp q)
        | some z => rfl
      rw [e]
      exact kk _ _ (Same.refl _) (.bl true)
    · intro H2 s2 d2
      refine ⟨D, List.replicate (xs.map V.str).length true, rfl, d2.bools, _, rfl, ?_⟩
      refine iteC (by rw [rep_all]; rfl) ?_
      have gd2 := gd.up (s1.trans s2)
      obtain ⟨dx2, wb2, wd2, od2, kvs2, i1, i2, i3, i4, i5⟩ := gd2.ob
      obtain ⟨dy, dd, l, us, w1, _⟩ := i2.ob
      refine ⟨_, rfl, g, _, dx2, _, _, rfl, i1, T.cls 54, T.noat 59, gf_web _ _ _, wb2, dy, _, rfl, w1, wf_no _ _ (by decide +kernel) (by decide +kernel), wb2, hs, ts, rfl, i2, fun H3 q ys s3 nq pm3 hq => ?_⟩
      have hd3 := s3 _ _ (s2 _ _ hd1)
      -- the dict is locked while it is walked
      refine ⟨d, _, hd3, trivial, fun od' => ?_⟩
      have nqd : q ≠ d := ne_of hq hd3 (by intro z; cases z)
      have hq4 : upd H3 d (.frz od' (.dK (stK st))) q = some (.lst (ys.map V.str)) := by
        rw [upd_ne nqd]
        exact hq
      refine ⟨_, rfl, d, od', _, rfl, upd_same, fun D3 hD3 => ?_⟩
      have nDd : D3 ≠ d := fun z => by
        rw [z, upd_same] at hD3
        cases hD3
      refine lc_data (walk_values (kvs := stK st)) ((List.replicate (stK st).length true).map PyData.bool) rep_len (small1000 (by unfold stK; rw [List.length_map]; omega)) hD3 (fun H5 s5 => s5 _ _ upd_same) ?_ ?_
      · rintro i v d' H5 H6 R hi hd' s5 hn ⟨rfl, key, hv⟩ kk
        have ed := rep_at hi hd'
        subst ed
        unfold stK at hv
        rw [List.getElem?_map] at hv
        obtain ⟨pr, hpr, epr⟩ := Option.map_eq_some_iff.mp hv
        have ev : v = .str pr.2 := (Prod.mk.inj epr).2.symm
        subst ev
        refine ⟨rfl, _, rfl, .str pr.2, "str", true, rfl, .base (.str _), ki_ss, true, rfl, iteT ?_⟩
        refine ⟨_, rfl, _, rfl, q, _, rfl, .inl (SqL.of (s5 _ _ hq4)), rfl, flat_strs ys, ?_⟩
        have e : inV (.str pr.2) (ys.map V.str) = true := by
          rw [inV_strs]
          exact decide_eq_true (pm3.mem_iff.mpr (ok.at_ pr (List.mem_of_getElem? hpr)))
        show R (.bl (inV (.str pr.2) (ys.map V.str))) _
        rw [e]
        exact kk _ _ (Same.refl _) (.bl true)
      · intro H5 s5 d5
        have hfr := s5 _ _ (upd_same (H := H3) (a := d) (o := .frz od' (.dK (stK st))))
        obtain ⟨zs, hzs, dzs⟩ := d5.list_inv
        have ezs := DtAll.bools dzs
        refine ⟨hfr, D3, List.replicate (stK st).length true, rfl, SqL.of (by rw [upd_ne nDd, ← ezs]; exact hzs), q_eq rep_all (k _ (((s1.trans s2).trans s3).trans fun b o e => ?_))⟩
        by_cases hb : b = d
        · rw [hb, upd_same]
          rw [hb, hd3] at e
          exact e
        · rw [upd_ne hb]
          refine s5 _ _ ?_
          rw [upd_ne hb]
          exact e
theorem scSureStand : FnScope ["goods", "stand"] ["goods", "stand"] (defScope (top 16)) := ⟨rfl, rfl, rfl, by decide +kernel, rfl, by decide +kernel, by decide +kernel⟩
theorem ok_sureStand {f : Addr} {fd : FuncData} (F : FnP K "sure_stand" "sure_stand" (top 16) f fd) (GS : Gn P w K mg base CX0 2 "is_stand" ["goods", "thing"] (spIsStand K)) : FnOk P w K mg base CX0 3 f fd ["goods", "stand"] (spSureStand K) := by
  refine def_ok F scSureStand (fun vs H Q E h => ?_) (fun cdv A outer s H vs Q E hr h => ?_)
  · obtain ⟨g, d, hs, ts, cs, st, rfl, _⟩ := h
    rfl
  · obtain ⟨g, d, hs, ts, cs, st, rfl, gd, hd, ok, k⟩ := h
    refine ⟨_, pss_one (ps_if (pt_not (pt_val (pe_g GS hr (pa_cons (pv 0) (pa_cons (pv 1) pa_nil)) pass0))) (pss_one ps_never) pss_nil), ?_⟩
    exact ⟨_, rfl, _, rfl, g, d, hs, ts, cs, st, rfl, gd, hd, ok, fun H1 s1 => ⟨true, rfl, iteF (k _ s1)⟩⟩
end
end Kp
namespace Kp
open PySem PySem.Spec PyProof.Rows L2
/-! ### moves -/
/-- what stands in a row: a move, or one of the things that are none -/
inductive Mv where
  | ok (p a b : Str)
  | lst (p a b : Str)
  | two (p a : Str)
  | five (p a : Str)
  | non
  | four (p a b c : Str)
def dMv : Mv → PyData
  | .ok p a b => .tuple [.str p, .str a, .str b]
  | .lst p a b => .list [.str p, .str a, .str b]
  | .two p a => .tuple [.str p, .str a]
  | .five p a => .tuple [.str p, .str a, .int 5]
  | .non => .none
  | .four p a b c => .tuple [.str p, .str a, .str b, .str c]
def Mv.form : Mv → Bool
  | .ok .. => true
  | _ => false
/-- its hands are names -/
def MvOk : Mv → Prop
  | .ok _ a b => Nm a ∧ Nm b
  | _ => True
def wy (cs : List Pc) (x : Str) : Option (List Pr) := match cs.find? fun c => decide (c.1 = x) with
  | some c => c.2.2
  | none => none
theorem wy_of {cs : List Pc} {x : Str} (m : x ∈ cs.map (·.1)) : ∃ c ∈ cs, c.1 = x ∧ wy cs x = c.2.2 := by
  unfold wy
  cases e : cs.find? fun c => decide (c.1 = x) with
  | none =>
    obtain ⟨c, mc, ec⟩ := List.mem_map.mp m
    have := List.find?_eq_none.mp e c mc
    exact absurd (decide_eq_true ec) this
  | some c =>
    have h := List.find?_some e
    exact ⟨c, List.mem_of_find?_eq_some e, of_decide_eq_true h, rfl⟩
def why (ts : List Pr) (cs : List Pc) (p a b : Str) (h : Option Str) : Option Str := match h with
  | none => some "piece"
  | some h => if h = a then (if tied ts a b = true then (if goes a b (wy cs p) = true then none else some "ways") else some "tie") else some "place"
def reason (ts : List Pr) (cs : List Pc) (st : Std) : Mv → Option Str
  | .ok p a b => why ts cs p a b (lk st p)
  | _ => some "form"
def rV : Option Str → V
  | none => .non
  | some r => .str r
def spIsMove : Sp := fun vs H Q _ => ∃ (v : V) (m : Mv), vs = [v] ∧ Dt H v (dMv m) ∧ ∀ H', Same H H' → Q (.bl m.form) H'
def spReason (K : PySem.W.Frag) : Sp := fun vs H Q _ => ∃ (g d : Addr) (v : V) (hs : List (Str × Int)) (ts : List Pr) (cs : List Pc) (st : Std) (m : Mv), vs = [.ref g, .ref d, v] ∧ GoodsAt K H g hs ts cs ∧ H d = some (.dK (stK st)) ∧ StOk hs cs st ∧ Dt H v (dMv m) ∧ MvOk m ∧
  ∀ H', Same H H' → Q (rV (reason ts cs st m)) H'
section
variable {H : Hp}
theorem dt_flat {v : V} {xs : List Str} (h : Dt H v (.tuple (xs.map PyData.str))) (n : xs.length ≠ 2 := by simp) : ∃ t, v = .ref t ∧ H t = some (.tup (xs.map V.str)) := by
  obtain ⟨t, us, e, q, r⟩ := h.tup_inv fun x y e => n (by
    have z := congrArg List.length e
    rw [List.length_map] at z
    exact z)
  have key : ∀ {xs : List Str} {us : List V}, DtAll H us (xs.map PyData.str) → us = xs.map V.str := by
    intro xs
    induction xs with
    | nil =>
      intro us r
      cases r
      rfl
    | cons x xs ih =>
      intro us r
      cases r with
      | cons a r =>
        cases a
        rw [ih r]
        rfl
  rw [key r] at q
  exact ⟨t, e, q⟩
theorem dt_five {v : V} {p a : Str} (h : Dt H v (dMv (.five p a))) : ∃ t, v = .ref t ∧ H t = some (.tup [.str p, .str a, .int 5]) := by
  obtain ⟨t, us, e, q, r⟩ := h.tup_inv fun _ _ e => by cases e
  cases r with
  | cons h1 r =>
    cases r with
    | cons h2 r =>
      cases r with
      | cons h3 r =>
        cases r
        cases h1
        cases h2
        cases h3
        exact ⟨t, e, q⟩
end
section
variable {P : Program} {w : World} {K : PySem.W.Frag} {mg : Str → Option Value} {base : Heap}
theorem scIsMove : FnScope ["thing", "part"] ["thing"] (defScope (top 18)) := ⟨rfl, rfl, rfl, by decide +kernel, rfl, by decide +kernel, by decide +kernel⟩
/-- is a text: of a text, a number -/
def isT : V → Bool
  | .str _ => true
  | _ => false
theorem isT_at {H : Hp} {v : V} (h : (∃ x, v = .str x) ∨ ∃ i, v = .int i) : ∃ (t : String), TyX K H v (.type t) ∧ kitB t "str" = some (isT v) := by
  rcases h with ⟨x, rfl⟩ | ⟨i, rfl⟩
  · exact ⟨"str", .base (.str x), ki_ss⟩
  · exact ⟨"int", .base (.int i), ki_is⟩
theorem ok_isMove {f : Addr} {fd : FuncData} (F : FnP K "is_move" "is_move" (top 18) f fd) (T : Txt K mg) : FnOk P w K mg base CX0 1 f fd ["thing"] spIsMove := by
  refine def_ok F scIsMove (fun vs H Q E h => ?_) (fun cdv A outer s H vs Q E hr h => ?_)
  · obtain ⟨v, m, rfl, _⟩ := h
    rfl
  · obtain ⟨v, m, rfl, dt, k⟩ := h
    refine ⟨_, pss_one (ps_ret (pe_and (pe_isi (T.free 30) (T.free 34) boot_tupleT (pv 0)) (pe_and (pe_cmpR op_eq (pe_callB call_len_seq (by rfl) (T.free 37) PySem.boot_len (pa_cons (pv 0) pa_nil)) pe_int (nomark _))
      (pe_one (pe_callB (cr_all rfl) (by rfl) (T.free 38) boot_allB (pa_cons (pe_lc (own := [("part", 1)]) (g := gName 1) (tt := tYes) rfl scIsMove.nd (pi_tup (pv 0))
        (blkOk_by (N := ["thing", "part"]) (sc := defScope (top 18)) (by decide +kernel)) (fun _ _ _ _ _ => pg_name (i := 1) scIsMove.nd rfl (Or.inl rfl)) (fun _ _ _ _ _ => pts_nil)
        (fun _ _ _ _ _ => show PE _ _ (tCB (rIsiB K "str") (tCons (tVar 1) (tCons (tC (.ty "str")) tNil))) from pe_isi (T.free 30) (T.free 33) boot_strT (pv 1))) pa_nil)))))), ?_⟩
    -- three parts, each a text or a number
    have three : ∀ (t : Addr) (x y z : V), v = .ref t → H t = some (.tup [x, y, z]) → (∀ u ∈ [x, y, z], (∃ x, u = V.str x) ∨ ∃ i, u = V.int i) → m.form = ([x, y, z].map isT).all id →
        tAndV (tCB (rIsiB K "tuple") (tCons (tVar 0) (tCons (tC (V.ty "tuple")) tNil))) (tAndV (tOp rEq (tCB (fun xs H Q => ∃ p ys, xs = [V.ref p] ∧ (SqL K H p ys ∨ SqT K H p ys) ∧ Q (V.int ys.length) H) (tCons (tVar 0) tNil)) (tC (.int 3)))
          (tCB (rAll K) (tCons (tLc (iTup K (tVar 0)) (gName 1) tYes (tCB (rIsiB K "str") (tCons (tVar 1) (tCons (tC (.ty "str")) tNil))) [1]) tNil))) [some v, none] H Q := by
      intro t x y z ev ht hu hf
      subst ev
      refine ⟨_, rfl, .ref t, "tuple", true, rfl, .base (.tup ht), ki_tt, true, rfl, iteT ?_⟩
      refine ⟨_, rfl, t, _, rfl, .inr (SqT.of ht), rfl, true, rfl, iteT ?_⟩
      refine ⟨_, rfl, t, rfl, ⟨_, SqT.of ht⟩, fun D hD => ?_⟩
      refine lc_data (walk_tup (xs := [x, y, z])) (([x, y, z].map isT).map PyData.bool) (by rw [List.length_map, List.length_map]) (by show 3 < sizeLine; decide) hD (fun H1 s1 => SqT.of (s1 _ _ ht)) ?_ ?_
      · rintro i u d H1 H2 R hi hd s1 hn ⟨rfl, hv⟩ kk
        have hv : [x, y, z][i]? = some u := hv
        obtain ⟨b, eb, rfl⟩ := at_map hd
        rw [List.getElem?_map, hv] at eb
        have eb := Option.some.inj eb
        subst eb
        obtain ⟨ty, h1, h2⟩ := isT_at (K := K) (hu u (List.mem_of_getElem? hv))
        exact ⟨rfl, _, rfl, u, ty, isT u, rfl, h1, h2, kk _ _ (Same.refl _) (.bl _)⟩
      · intro H1 s1 d1
        refine ⟨D, [x, y, z].map isT, rfl, d1.bools, ?_⟩
        rw [← hf]
        exact k _ s1
    have short : ∀ (t : Addr) (xs : List V), v = .ref t → TyX K H (.ref t) (.type "tuple") → SqT K H t xs → xs.length ≠ 3 → m.form = false →
        tAndV (tCB (rIsiB K "tuple") (tCons (tVar 0) (tCons (tC (V.ty "tuple")) tNil))) (tAndV (tOp rEq (tCB (fun xs H Q => ∃ p ys, xs = [V.ref p] ∧ (SqL K H p ys ∨ SqT K H p ys) ∧ Q (V.int ys.length) H) (tCons (tVar 0) tNil)) (tC (.int 3)))
          (tCB (rAll K) (tCons (tLc (iTup K (tVar 0)) (gName 1) tYes (tCB (rIsiB K "str") (tCons (tVar 1) (tCons (tC (.ty "str")) tNil))) [1]) tNil))) [some v, none] H Q := by
      intro t xs ev hty ht hl hf
      subst ev
      refine ⟨_, rfl, .ref t, "tuple", true, rfl, hty, ki_tt, true, rfl, iteT ?_⟩
      refine ⟨_, rfl, t, _, rfl, .inr (ht), rfl, _, rfl, iteC (decide_eq_false fun z => hl ?_) ?_⟩
      · have := V.int.inj z
        omega
      · rw [← hf]
        exact k _ (Same.refl _)
    cases m with
    | ok p a b =>
      obtain ⟨t, e, q⟩ := dt_flat (xs := [p, a, b]) dt
      exact three t _ _ _ e q (fun u hu => by
        simp only [List.mem_cons, List.not_mem_nil, or_false] at hu
        rcases hu with rfl | rfl | rfl <;> exact .inl ⟨_, rfl⟩) rfl
    | five p a =>
      obtain ⟨t, e, q⟩ := dt_five dt
      exact three t _ _ _ e q (fun u hu => by
        simp only [List.mem_cons, List.not_mem_nil, or_false] at hu
        rcases hu with rfl | rfl | rfl
        · exact .inl ⟨_, rfl⟩
        · exact .inl ⟨_, rfl⟩
        · exact .inr ⟨_, rfl⟩) rfl
    | two p a =>
      obtain ⟨t, o, e, q, po⟩ := dt_pr (t := (p, a)) dt
      exact short t _ e (po.ty q) (po.sq q) (by show 2 ≠ 3; decide) rfl
    | four p a b c =>
      obtain ⟨t, e, q⟩ := dt_flat (xs := [p, a, b, c]) dt
      exact short t _ e (.base (.tup q)) (SqT.of q) (by show 4 ≠ 3; decide) rfl
    | lst p a b =>
      obtain ⟨l, xs, rfl, hl, _⟩ := dt.list_inv'
      exact ⟨_, rfl, .ref l, "list", false, rfl, .base (.lst hl), ki_lt, false, rfl, iteF (k _ (Same.refl _))⟩
    | non =>
      cases dt
      exact ⟨_, rfl, .non, "NoneType", false, rfl, .base .non, ki_nt, false, rfl, iteF (k _ (Same.refl _))⟩
theorem scReason : FnScope ["goods", "stand", "move", "piece", "one", "other"] ["goods", "stand", "move"] (defScope (top 19)) := ⟨rfl, rfl, rfl, by decide +kernel, rfl, by decide +kernel, by decide +kernel⟩
theorem ok_reason {f : Addr} {fd : FuncData} (F : FnP K "reason_against" "reason_against" (top 19) f fd) (T : Txt K mg) (GM : Gn P w K mg base CX0 1 "is_move" ["thing"] spIsMove) (GN : Mn P w K mg base CX0 1 "Goods" "names" ["self"] (spNames K))
    (GT : Mn P w K mg base CX0 3 "Web" "are_tied" ["self", "one", "other"] (spTied K)) (GY : Mn P w K mg base CX0 4 "Goods" "may_go" ["self", "piece", "one", "other"] (spMayGo K)) : FnOk P w K mg base CX0 5 f fd ["goods", "stand", "move"] (spReason K) := by
  obtain ⟨fdN, FN, bN⟩ := GN.ok
  obtain ⟨fdT, FT, bT⟩ := GT.ok
  obtain ⟨fdY, FY, bY⟩ := GY.ok
  refine def_ok F scReason (fun vs H Q E h => ?_) (fun cdv A outer s H vs Q E hr h => ?_)
  · obtain ⟨g, d, v, hs, ts, cs, st, m, rfl, _⟩ := h
    rfl
  · obtain ⟨g, d, v, hs, ts, cs, st, m, rfl, gd, hd, ok, dt, okm, k⟩ := h
    have hu := hu_of hr
    refine ⟨_, pss_cons (ps_if (pt_not (pt_val (pe_g GM hr (pa_cons (pv 2) pa_nil) pass0))) (pss_one (ps_ret pe_str)) pss_nil)
      (pss_cons (ps_asg (pv 2) (pg_tup rfl (pgs_cons (pg_name (i := 3) scReason.nd rfl (Or.inl rfl)) (pgs_cons (pg_name (i := 4) scReason.nd rfl (Or.inl rfl)) (pgs_cons (pg_name (i := 5) scReason.nd rfl (Or.inl rfl)) pgs_nil)))))
      (pss_cons (ps_if (pt_cmpR op_notIn_seq (pv 3) (pe_meth0 (pv 0) (T.cls 54) (T.meth 65) FN (hr.mono (by decide)) bN .nil pass0) (by rfl)) (pss_one (ps_ret pe_str)) pss_nil)
      (pss_cons (ps_if (pt_cmpR op_ne (pe_dget hu (pv 1) (pv 3) (fun _ _ => rfl)) (pv 4) (nomark _)) (pss_one (ps_ret pe_str)) pss_nil)
      (pss_cons (ps_if (pt_not (pt_val (pe_meth (pe_fld (pv 0) rfl) (T.cls 53) (T.meth 63) FT (hr.mono (by decide)) bT .nil pass0 (pa_cons (pv 4) (pa_cons (pv 5) pa_nil))))) (pss_one (ps_ret pe_str)) pss_nil)
      (pss_cons (ps_if (pt_not (pt_val (pe_meth (pv 0) (T.cls 54) (T.meth 66) FY (hr.mono (by decide)) bY .nil pass0 (pa_cons (pv 3) (pa_cons (pv 4) (pa_cons (pv 5) pa_nil)))))) (pss_one (ps_ret pe_str)) pss_nil)
      (pss_one (ps_ret pe_non))))))), ?_⟩
    refine ⟨_, rfl, v, m, rfl, dt, fun H1 s1 => ⟨_, rfl, ?_⟩⟩
    cases m with
    | lst => exact iteT (k _ s1)
    | two => exact iteT (k _ s1)
    | five => exact iteT (k _ s1)
    | non => exact iteT (k _ s1)
    | four => exact iteT (k _ s1)
    | ok p a b =>
      refine iteF ?_
      obtain ⟨t, rfl, q⟩ := dt_flat (xs := [p, a, b]) dt
      refine ⟨_, rfl, t, _, rfl, SqT.of (s1 _ _ q), rfl, _, _, rfl, _, _, rfl, _, _, rfl, rfl, ?_⟩
      have gd1 := gd.up s1
      obtain ⟨dx, wb, wd, od, kvs, h1, h2, h3, h4, h5⟩ := gd1.ob
      refine ⟨_, rfl, _, rfl, g, dx, _, rfl, h1, gf_no _ _ _ (by decide +kernel) (by decide +kernel) (by decide +kernel), g, hs, ts, cs, rfl, gd1, fun H2 l xs s2 nl pm hl => ?_⟩
      refine ⟨l, _, rfl, .inl (SqL.of hl), rfl, flat_strs xs, _, rfl, ?_⟩
      have en : inV (.str p) (xs.map V.str) = decide (p ∈ cs.map (·.1)) := by
        rw [inV_strs]
        exact decide_eq_decide.mpr pm.mem_iff
      show if (!inV (.str p) (xs.map V.str)) = true then _ else _
      rw [en]
      have s12 := s1.trans s2
      by_cases hm : p ∈ cs.map (·.1)
      · refine iteC (by rw [decide_eq_true hm]; rfl) ?_
        obtain ⟨h, eh⟩ : ∃ h, lk st p = some h := by
          cases e : lk st p with
          | none => exact absurd (by rw [ok.keys]; exact hm) (lk_none.mp e)
          | some h => exact ⟨h, rfl⟩
        have ev : valV (stK st) (kk p) = some (V.str h) := by
          rw [lk_val, eh]
          rfl
        have hd2 := s12 _ _ hd
        have hRe : reason ts cs st (.ok p a b) = (if h = a then (if tied ts a b = true then (if goes a b (wy cs p) = true then none else some "ways") else some "tie") else some "place" : Option Str) := by
          show why ts cs p a b (lk st p) = _
          rw [eh]
          rfl
        refine ⟨_, rfl, _, rfl, d, _, rfl, by rw [← ev]; exact DGet.k (k := Sum.inr p) hd2, _, rfl, rfl, _, rfl, ?_⟩
        by_cases e : h = a
        · refine iteC (by rw [e]; simp) ?_
          rw [if_pos e] at hRe
          have gd2 := gd.up s12
          obtain ⟨dx2, wb2, wd2, od2, kvs2, i1, i2, i3, i4, i5⟩ := gd2.ob
          obtain ⟨dy, dd, ll, us, w1, _⟩ := i2.ob
          refine ⟨_, rfl, g, _, dx2, _, _, rfl, i1, T.cls 54, T.noat 59, gf_web _ _ _, wb2, dy, _, rfl, w1, wf_no _ _ (by decide +kernel) (by decide +kernel), _, rfl, _, rfl, wb2, a, b, hs, ts, rfl, i2, okm.1, okm.2, fun H3 s3 => ⟨_, rfl, ?_⟩⟩
          by_cases ht : tied ts a b = true
          · rw [if_pos ht] at hRe
            refine iteC (by rw [ht]; rfl) ?_
            obtain ⟨c, mc, ec, ew⟩ := wy_of hm
            have gd3 := gd2.up s3
            obtain ⟨dx3, _, _, _, _, j1, _⟩ := gd3.ob
            subst ec
            refine ⟨_, rfl, g, dx3, _, rfl, j1, gf_no _ _ _ (by decide +kernel) (by decide +kernel) (by decide +kernel), _, rfl, _, rfl, _, rfl, g, c, a, b, hs, ts, cs, rfl, gd3, mc, okm.1, okm.2, ht, fun H4 s4 => ⟨_, rfl, ?_⟩⟩
            have kq := k _ ((s12.trans s3).trans s4)
            rw [hRe, ew] at kq
            by_cases hg : goes a b c.2.2 = true
            · rw [if_pos hg] at kq
              exact iteC (by rw [hg]; rfl) kq
            · rw [if_neg hg] at kq
              have hg' : goes a b c.2.2 = false := by simpa using hg
              exact iteB (by rw [hg']; rfl) kq
          · rw [if_neg ht] at hRe
            have ht' : tied ts a b = false := by simpa using ht
            have kq := k _ (s12.trans s3)
            rw [hRe] at kq
            exact iteB (by rw [ht']; rfl) kq
        · rw [if_neg e] at hRe
          have kq := k _ s12
          rw [hRe] at kq
          refine iteB ?_ kq
          rw [decide_eq_false fun z => e (V.str.inj z)]
          rfl
      · refine iteB (by rw [decide_eq_false hm]; rfl) ?_
        have kq := k _ s12
        have eh : lk st p = none := lk_none.mpr (by rw [ok.keys]; exact hm)
        have hRe : reason ts cs st (.ok p a b) = some "piece" := by
          show why ts cs p a b (lk st p) = _
          rw [eh]
          rfl
        rw [hRe] at kq
        exact kq
end
end Kp
namespace Kp
open PySem PySem.Spec PyProof.Rows L2
/-! ### a row of moves, walked -/
def setS (st : Std) (p b : Str) : Std := st.map fun q => if q.1 = p then (q.1, b) else q
theorem setS_keys (st : Std) (p b : Str) : (setS st p b).map (·.1) = st.map (·.1) := by
  unfold setS
  rw [List.map_map]
  refine List.map_congr_left fun q _ => ?_
  show (if q.1 = p then (q.1, b) else q).1 = q.1
  by_cases e : q.1 = p
  · rw [if_pos e]
  · rw [if_neg e]
theorem setS_val {st : Std} {p b x : Str} (m : x ∈ (setS st p b).map (·.2)) : x = b ∨ x ∈ st.map (·.2) := by
  unfold setS at m
  rw [List.map_map] at m
  obtain ⟨q, mq, e⟩ := List.mem_map.mp m
  have e : (if q.1 = p then (q.1, b) else q).2 = x := e
  by_cases h : q.1 = p
  · rw [if_pos h] at e
    exact .inl e.symm
  · rw [if_neg h] at e
    exact .inr (List.mem_map.mpr ⟨q, mq, e⟩)
theorem stK_put {st : Std} {p b : Str} (m : p ∈ st.map (·.1)) : putK (stK st) (kk p) (V.str b) = stK (setS st p b) := by
  have h : (valV (stK st) (kk p)).isSome = true := by
    rw [lk_val]
    cases e : lk st p with
    | none => exact absurd m (lk_none.mp e)
    | some v => rfl
  unfold putK
  rw [if_pos (by rw [valV_any]; exact h)]
  unfold stK setS
  rw [List.map_map, List.map_map]
  refine List.map_congr_left fun q _ => ?_
  show (if (kk q.1) = kk p then (kk q.1, V.str b) else (kk q.1, V.str q.2)) = (kk (if q.1 = p then (q.1, b) else q).1, V.str (if q.1 = p then (q.1, b) else q).2)
  by_cases e : q.1 = p
  · rw [if_pos e, if_pos (congrArg kk e)]
  · rw [if_neg e, if_neg fun z => e (kk_inj z)]
def stp (st : Std) : Mv → Std
  | .ok p _ b => setS st p b
  | _ => st
def walk (ts : List Pr) (cs : List Pc) : Nat → List Mv → Std → (Nat × Str) ⊕ Std
  | _, [], st => .inr st
  | k, m :: ms, st => match reason ts cs st m with
    | some r => .inl (k, r)
    | none => walk ts cs (k + 1) ms (stp st m)
theorem reason_ok {ts : List Pr} {cs : List Pc} {st : Std} {m : Mv} (h : reason ts cs st m = none) : ∃ p a b, m = .ok p a b ∧ lk st p = some a ∧ tied ts a b = true := by
  cases m with
  | ok p a b =>
    refine ⟨p, a, b, rfl, ?_⟩
    have h : why ts cs p a b (lk st p) = none := h
    cases e : lk st p with
    | none =>
      rw [e] at h
      cases h
    | some x =>
      rw [e] at h
      have h : (if x = a then (if tied ts a b = true then (if goes a b (wy cs p) = true then none else some "ways") else some "tie") else some "place" : Option Str) = none := h
      by_cases e1 : x = a
      · rw [if_pos e1] at h
        by_cases e2 : tied ts a b = true
        · exact ⟨by rw [e1], e2⟩
        · rw [if_neg e2] at h
          cases h
      · rw [if_neg e1] at h
        cases h
  | _ => cases h
theorem StOk.set {hs : List (Str × Int)} {cs : List Pc} {st : Std} {p b : Str} (k : StOk hs cs st) (m : b ∈ hs.map (·.1)) : StOk hs cs (setS st p b) where
  keys := by rw [setS_keys, k.keys]
  at_ q mq := by
    rcases setS_val (List.mem_map.mpr ⟨q, mq, rfl⟩) with e | e
    · rw [e]
      exact m
    · obtain ⟨z, mz, ez⟩ := List.mem_map.mp e
      rw [← ez]
      exact k.at_ z mz
theorem tied_mem {hs : List (Str × Int)} {ts : List Pr} {a b : Str} (k : TiesOk hs ts) (h : tied ts a b = true) : a ∈ hs.map (·.1) ∧ b ∈ hs.map (·.1) := by
  rcases tied_or h with m | m
  · exact k.mem _ m
  · exact ⟨(k.mem _ m).2, (k.mem _ m).1⟩
theorem GoodsAt.okt {K : PySem.W.Frag} {H : Hp} {g : Addr} {hs : List (Str × Int)} {ts : List Pr} {cs : List Pc} (w : GoodsAt K H g hs ts cs) : TiesOk hs ts := by
  obtain ⟨_, _, _, _, _, _, h, _⟩ := w.ob
  exact h.okt
/-- what a walk answers, on the heap -/
def Res (H : Hp) (v : V) : (Nat × Str) ⊕ Std → Prop
  | .inl kr => ∃ t, v = .ref t ∧ H t = some (.tup [.str "bad", .int (kr.1 : Nat), .str kr.2])
  | .inr st => ∃ t d, v = .ref t ∧ H t = some (.tup [.str "good", .ref d]) ∧ H d = some (.dK (stK st))
theorem Res.up {H H' : Hp} {v : V} {r : (Nat × Str) ⊕ Std} (h : Res H v r) (s : Same H H') : Res H' v r := by
  cases r with
  | inl kr =>
    obtain ⟨t, e, q⟩ := h
    exact ⟨t, e, s _ _ q⟩
  | inr st =>
    obtain ⟨t, d, e, q, q2⟩ := h
    exact ⟨t, d, e, s _ _ q, s _ _ q2⟩
def spJudged (K : PySem.W.Frag) : Sp := fun vs H Q _ => ∃ (g d l : Addr) (hs : List (Str × Int)) (ts : List Pr) (cs : List Pc) (st : Std) (ms : List Mv), vs = [.ref g, .ref d, .ref l] ∧ GoodsAt K H g hs ts cs ∧ H d = some (.dK (stK st)) ∧ StOk hs cs st ∧
  Dt H (.ref l) (.list (ms.map dMv)) ∧ (∀ m ∈ ms, MvOk m) ∧ ∀ H' v, Same H H' → Res H' v (walk ts cs 0 ms st) → Q v H'
section
variable {P : Program} {w : World} {K : PySem.W.Frag} {mg : Str → Option Value} {base : Heap}
theorem scJudged : FnScope ["goods", "stand", "moves", "later", "k", "move", "reason"] ["goods", "stand", "moves"] (defScope (top 20)) := ⟨rfl, rfl, rfl, by decide +kernel, rfl, by decide +kernel, by decide +kernel⟩
theorem ok_judged {f : Addr} {fd : FuncData} (F : FnP K "judged" "judged" (top 20) f fd) (T : Txt K mg) (GS : Gn P w K mg base CX0 3 "sure_stand" ["goods", "stand"] (spSureStand K)) (GR : Gn P w K mg base CX0 5 "reason_against" ["goods", "stand", "move"] (spReason K)) :
    FnOk P w K mg base CX0 6 f fd ["goods", "stand", "moves"] (spJudged K) := by
  refine def_ok F scJudged (fun vs H Q E h => ?_) (fun cdv A outer s H vs Q E hr h => ?_)
  · obtain ⟨g, d, l, hs, ts, cs, st, ms, rfl, _⟩ := h
    rfl
  · obtain ⟨g, d, l, hs, ts, cs, st, ms, rfl, gd, hd, ok, dt, okm, k⟩ := h
    have hu := hu_of hr
    obtain ⟨xs, hl, da⟩ := dt.list_inv
    have hlx : xs.length = ms.length := by rw [da.len, List.length_map]
    have h64 := gd.okc.len
    refine ⟨_, pss_cons (ps_expr (pe_g GS hr (pa_cons (pv 0) (pa_cons (pv 1) pa_nil)) pass0))
      (pss_cons (ps_if (pt_not (pt_val (pe_isi (T.free 30) (T.free 35) boot_listT (pv 2)))) (pss_one ps_never) pss_nil)
      (pss_cons (ps_set (i := 3) scJudged.nd rfl (Or.inl rfl) (pe_callTy call_dictD (by rfl) (T.free 36) boot_dictT (pa_cons (pv 1) pa_nil)))
      (pss_cons (ps_for PassesOwn.never rfl (pi_enum (by rfl) (T.free 42) (pa_cons (pv 2) pa_nil)) (pg_tup rfl (pgs_cons (pg_name (i := 4) scJudged.nd rfl (Or.inl rfl)) (pgs_cons (pg_name (i := 5) scJudged.nd rfl (Or.inl rfl)) pgs_nil)))
        (pss_cons (ps_set (i := 6) scJudged.nd rfl (Or.inl rfl) (pe_g GR hr (pa_cons (pv 0) (pa_cons (pv 3) (pa_cons (pv 5) pa_nil))) pass0))
        (pss_cons (ps_if (pt_cmp (pc_notN (pv 6)) rfl) (pss_one (ps_ret (pe_tup (pa_cons pe_str (pa_cons (pv 4) (pa_cons (pv 6) pa_nil)))))) pss_nil)
        (pss_one (ps_dput hu (pv 3) (pe_ix ix_tup (pv 5) pe_int (fun _ _ => rfl)) (pe_ix ix_tup (pv 5) pe_int (fun _ _ => rfl)) rfl)))))
      (pss_one (ps_ret (pe_tup (pa_cons pe_str (pa_cons (pv 3) pa_nil)))))))), ?_⟩
    refine ⟨_, rfl, _, rfl, g, d, hs, ts, cs, st, rfl, gd, hd, ok, fun H1 s1 => ?_⟩
    have hl1 := s1 _ _ hl
    refine ⟨_, rfl, .ref l, "list", true, rfl, .base (.lst hl1), ki_ll, true, rfl, iteF ?_⟩
    refine ⟨_, rfl, d, _, rfl, .inl (s1 _ _ hd), fun p np => ?_⟩
    have np0 : H p = none := none_back s1 np
    have s2 : Same H (upd H1 p (.dK (stK st))) := s1.trans (same_new np)
    refine ⟨_, rfl, l, xs, rfl, SqL.of (s2 _ _ hl), for_it (walk_enum (K := K) (a := l) (xs := xs)) (fun i σ H5 => ∃ (st2 : Std) (v4 v5 v6 : Option V), σ = [some (.ref g), some (.ref d), some (.ref l), some (.ref p), v4, v5, v6] ∧ Same H H5 ∧ H5 p = some (.dK (stK st2)) ∧ StOk hs cs st2 ∧
        walk ts cs i (ms.drop i) st2 = walk ts cs 0 ms st) ⟨st, none, none, none, rfl, s2, upd_same, ok, rfl⟩ (fun i σ H5 _ ⟨_, _, _, _, _, q, _⟩ => SqL.of (q _ _ hl)) ?_ ?_⟩
    · rintro i x σ H5 H6 hi ⟨st2, v4, v5, v6, rfl, q5, p5, o5, w5⟩ ⟨t, x1, x2, rfl, nt, rfl, e1, e2⟩
      have e1 := Option.some.inj e1
      subst e1
      have e2 : xs[i]? = some x2 := e2
      obtain ⟨d2, f2, dv⟩ := da.get e2
      obtain ⟨m, f3, rfl⟩ := at_map f2
      have q6 : Same H (upd H5 t (.tup [.int (i : Nat), x2])) := q5.trans (same_new nt)
      have ntp : p ≠ t := ne_of_none p5 nt
      have p6 : upd H5 t (.tup [.int (i : Nat), x2]) p = some (.dK (stK st2)) := by
        rw [upd_ne ntp]
        exact p5
      have t6 : upd H5 t (.tup [.int (i : Nat), x2]) t = some (.tup [.int (i : Nat), x2]) := upd_same
      generalize upd H5 t (.tup [.int (i : Nat), x2]) = H6 at q6 p6 t6 ⊢
      have hdr : ms.drop i = m :: ms.drop (i + 1) := List.drop_eq_getElem_cons (List.getElem?_eq_some_iff.mp f3).1 |>.trans (by rw [(List.getElem?_eq_some_iff.mp f3).2])
      rw [hdr] at w5
      refine ⟨t, _, rfl, SqT.of t6, rfl, _, _, rfl, _, _, rfl, rfl, ?_⟩
      refine ⟨_, rfl, _, rfl, _, rfl, g, p, x2, hs, ts, cs, st2, m, rfl, gd.up q6, p6, o5, dv.up q6, okm m (List.mem_of_getElem? f3), fun H7 s7 => ?_⟩
      have q7 := q6.trans s7
      have w5 : (match reason ts cs st2 m with | some r => .inl (i, r) | none => walk ts cs (i + 1) (ms.drop (i + 1)) (stp st2 m)) = walk ts cs 0 ms st := w5
      cases hre : reason ts cs st2 m with
      | some r =>
        rw [hre] at w5
        refine ⟨_, rfl, _, rfl, iteT ?_⟩
        refine ⟨_, rfl, _, rfl, (by show 3 ≤ sizeLine; decide), fun z nz => ?_⟩
        refine k _ _ (q7.trans (same_new nz)) ?_
        rw [← w5]
        exact ⟨z, rfl, upd_same⟩
      | none =>
        rw [hre] at w5
        refine ⟨_, rfl, _, rfl, iteF ?_⟩
        obtain ⟨pn, a, b, rfl, ela, etd⟩ := reason_ok hre
        obtain ⟨tm, rfl, htm⟩ := dt_flat (xs := [pn, a, b]) (dv.up q7)
        have mp : pn ∈ st2.map (·.1) := by
          cases Classical.em (pn ∈ st2.map (·.1)) with
          | inl h => exact h
          | inr h =>
            rw [lk_none.mpr h] at ela
            cases ela
        have l2 : (stK st2).length < sizeLine := by
          have z := congrArg List.length o5.keys
          rw [List.length_map, List.length_map] at z
          unfold stK
          rw [List.length_map]
          exact small1000 (by omega)
        refine ⟨_, rfl, tm, _, 2, _, rfl, rfl, SqT.of htm, rfl, _, rfl, _, rfl, tm, _, 0, _, rfl, rfl, SqT.of htm, rfl, p, _, rfl, DPut.k (k := Sum.inr pn) (s7 _ _ p6) l2, ?_⟩
        have ep : putK (stK st2) (kk pn) (V.str b) = stK (setS st2 pn b) := stK_put mp
        show ∃ _ _ _ _, _
        refine ⟨setS st2 pn b, _, _, _, rfl, same_put q7 np0, ?_, o5.set (tied_mem gd.okt etd).2, w5⟩
        rw [upd_same]
        exact congrArg (fun z => some (HO.dK z)) ep
    · rintro σ H5 ⟨st2, v4, v5, v6, rfl, q5, p5, o5, w5⟩
      rw [hlx, List.drop_length] at w5
      refine ⟨_, rfl, (by show 2 ≤ sizeLine; decide), fun z nz => ?_⟩
      refine k _ _ (q5.trans (same_new nz)) ?_
      rw [← w5]
      exact ⟨z, p, rfl, upd_same, by rw [upd_ne (ne_of_none p5 nz)]; exact p5⟩
end
end Kp
namespace Kp
open PySem PySem.Spec PyProof.Rows L2
/-! ### the error of a move: Base.__init__(self, text), Base a class of the text -/
section
variable {X : Cx} {e : Expr} {es : List Expr} {ta : TA} {x : Str} {B : Addr} {p1 p2 pos : Pos}
theorem pe_binit {pl : Sem Bool} (hg : Gl X x) (hm : X.mg x = some (.ref B)) (rd : PySem.W.readsIn X.K B (.type "type") = true) (ga : PySem.W.specialIn X.K (.ref B) "__getattribute__" = some (some (.builtin "type.__getattribute__")))
    (vV : PySem.W.findCls X.K (.ref B) (.type "type") "__init__" = some (.val (.builtin "ValueError.__init__"))) (ha : PA X (e :: es) ta)
    (hc : eval (.Call (.Attribute (.Name x p1) "__init__" p2) (e :: es) [] pos) X.env = (do
      let ov ← eval (.Name x p1) X.env
      standAt p2.atName
      let (f, first) ← holding [ov] (getMethod ov "__init__" pl)
      callWith pos f first (backTo pos (starEach (e :: es) X.env)) (backToKw pos (keywordEach [] X.env))) := by rfl)
    (he : starEach (e :: es) X.env = (false, eval e X.env) :: starEach es X.env := by rfl) (hpl : (backTo pos (starEach es X.env)).any (·.1) = false := by rfl) (hdb : (x == ("__debug__" : Str)) = false := by decide) :
    PE X (.Call (.Attribute (.Name x p1) "__init__" p2) (e :: es) [] pos) (tVeI X.K ta) := by
  refine ⟨fun pins s σ H Q I h => ?_⟩
  refine PySem.W.methodCall_KW (ld_glob I hg hm ?_ hdb) hc
  refine PySem.W.method_cls I.kIn ga (PySem.W.cls_value I.kIn rd vV (by decide +kernel) ?_)
  show wpAny _ _ (callWith pos (Value.builtin "ValueError.__init__") [] (backTo pos (starEach (e :: es) X.env)) []) _ _ _
  refine PyProof.Rows.callWith_method1 (thn (ha.run pos pins _ σ H _ (I.tok _) h) fun us s1 ⟨vs, H1, I1, r1, a, C, ws, ev, hl, T, ea, q⟩ => ?_) he hpl
  subst ev
  cases r1 with
  | @cons _ u0 _ ur ra rw' =>
    obtain rfl : u0 = Value.ref a := ra
    have hlen : ur.length ≤ sizeLine := by
      rw [← Paired.length rw', sizeLine_eq]
      omega
    exact oinit_ok T I1 ea hlen fun s' J => ⟨.non, H1, J, rfl, q⟩
end
def nmF (k r : V) : List (Str × V) := [("reason", r), ("k", k)]
def spNm (K : PySem.W.Frag) : Sp := fun vs H Q _ => ∃ (a : Addr) (k r : V), vs = [.ref a, k, r] ∧ H a = some (exo a (nmC K) none) ∧ ∀ H' dx, But a H H' → H' a = some (exo a (nmC K) (some dx)) → H' dx = some (exd dx (nmF k r)) → H dx = none → dx ≠ a → Q .non H'
def spMoved (K : PySem.W.Frag) : Sp := fun vs H Q E => ∃ (g d l : Addr) (hs : List (Str × Int)) (ts : List Pr) (cs : List Pc) (st : Std) (ms : List Mv), vs = [.ref g, .ref d, .ref l] ∧ GoodsAt K H g hs ts cs ∧ H d = some (.dK (stK st)) ∧ StOk hs cs st ∧
  Dt H (.ref l) (.list (ms.map dMv)) ∧ (∀ m ∈ ms, MvOk m) ∧
  (∀ kr, walk ts cs 0 ms st = .inl kr → ∀ H' dx, Same H H' → H' dx = some (.xd (nmF (.int (kr.1 : Nat)) (.str kr.2))) → E (.ref (nmC K)) (some dx) H') ∧
  (∀ st2, walk ts cs 0 ms st = .inr st2 → ∀ H' d2, Same H H' → H' d2 = some (.dK (stK st2)) → Q (.ref d2) H')
def spLMoved (K : PySem.W.Frag) : Sp := spJudged K
abbrev sNm : Stmt := inClass (top 7) 0
section
variable {P : Program} {w : World} {K : PySem.W.Frag} {mg : Str → Option Value} {base : Heap}
theorem scNm : FnScope ["self", "k", "reason"] ["self", "k", "reason"] (defScope sNm) := ⟨rfl, rfl, rfl, by decide +kernel, rfl, by decide +kernel, by decide +kernel⟩
theorem ok_nm {f : Addr} {fd : FuncData} (F : FnP K "__init__" "NoMove.__init__" sNm f fd) (T : Txt K mg) : FnOk P w K mg base CX0 1 f fd ["self", "k", "reason"] (spNm K) := by
  refine def_ok F scNm (fun vs H Q E h => ?_) (fun cdv A outer s H vs Q E hr h => ?_)
  · obtain ⟨a, k, r, rfl, _⟩ := h
    rfl
  · obtain ⟨a, kv, rv, rfl, ha, k⟩ := h
    obtain ⟨n1, n2, n3, n4, n5⟩ := T.nmi
    refine ⟨_, pss_cons (ps_expr (pe_binit (by rfl) (T.glo 52) n3 n4 n5 (pa_cons (pv 0) (pa_cons pe_str pa_nil)) (pl := _)))
      (pss_cons (ps_ost (pv 0) (pv 1)) (pss_one (ps_ost (pv 0) (pv 2)))), ?_⟩
    refine ⟨_, rfl, a, nmC K, [_], rfl, (by show 1 ≤ 1000; decide), T.oex, ha, ?_⟩
    refine ⟨_, rfl, _, rfl, a, nmC K, rfl, T.oex, T.noat 68, .inl ⟨ha, fun dx nd ne => ?_⟩⟩
    refine ⟨_, rfl, _, rfl, a, nmC K, rfl, T.oex, T.noat 69, .inr ⟨dx, [("k", kv)], upd_same, by rw [upd_ne ne, upd_same], (by show 1 ≤ 900; decide), ?_⟩⟩
    refine k _ dx ?_ ?_ upd_same nd ne
    · intro b o nb hb
      have nbd : b ≠ dx := ne_of_none hb nd
      rw [upd_ne nbd, upd_ne nb, upd_ne nbd]
      exact hb
    · rw [upd_ne ne.symm, upd_same]
theorem scMoved : FnScope ["goods", "stand", "moves", "found"] ["goods", "stand", "moves"] (defScope (top 21)) := ⟨rfl, rfl, rfl, by decide +kernel, rfl, by decide +kernel, by decide +kernel⟩
theorem ok_moved {f : Addr} {fd : FuncData} (F : FnP K "moved" "moved" (top 21) f fd) (T : Txt K mg) (GJ : Gn P w K mg base CX0 6 "judged" ["goods", "stand", "moves"] (spJudged K)) (GN : Mn P w K mg base CX0 1 "NoMove" "__init__" ["self", "k", "reason"] (spNm K)) :
    FnOk P w K mg base (L2.CX P w) 7 f fd ["goods", "stand", "moves"] (spMoved K) := by
  obtain ⟨fdN, FN, bN⟩ := GN.ok
  obtain ⟨n1, n2, n3, n4, n5⟩ := T.nmi
  refine FunD.ok F scMoved (fun vs H Q E h => ?_) (fun cdv A outer s H vs Q E hr h => ?_)
  · obtain ⟨g, d, l, hs, ts, cs, st, ms, rfl, _⟩ := h
    rfl
  · obtain ⟨g, d, l, hs, ts, cs, st, ms, rfl, gd, hd, ok, dt, okm, kE, kQ⟩ := h
    refine ⟨_, pss_cons (ps_set (i := 3) scMoved.nd rfl (Or.inl rfl) (pe_g GJ hr (pa_cons (pv 0) (pa_cons (pv 1) (pa_cons (pv 2) pa_nil))) pass0))
      (pss_cons (ps_if (pt_cmpR op_eq (pe_ix ix_tup (pv 3) pe_int (fun _ _ => rfl)) pe_str (nomark _))
        (pss_one (ps_raise rfl (takes_of rfl rfl rfl rfl) (pmk_oex T.oex n1 n2 FN (hr.mono (by decide)) bN .nil pass0 (by rfl) (T.glo 51) (pa_cons (pe_ix ix_tup (pv 3) pe_int (fun _ _ => rfl)) (pa_cons (pe_ix ix_tup (pv 3) pe_int (fun _ _ => rfl)) pa_nil))))) pss_nil)
      (pss_one (ps_ret (pe_ix ix_tup (pv 3) pe_int (fun _ _ => rfl))))), ?_⟩
    refine ⟨_, rfl, _, rfl, _, rfl, g, d, l, hs, ts, cs, st, ms, rfl, gd, hd, ok, dt, okm, fun H1 v s1 rs => ?_⟩
    cases hw : walk ts cs 0 ms st with
    | inl kr =>
      rw [hw] at rs
      obtain ⟨t, rfl, ht⟩ := rs
      refine ⟨_, rfl, t, _, 0, _, rfl, rfl, SqT.of ht, rfl, rfl, _, rfl, iteT ?_⟩
      refine ⟨_, rfl, t, _, 1, _, rfl, rfl, SqT.of ht, rfl, _, rfl, t, _, 2, _, rfl, rfl, SqT.of ht, rfl, (by show 2 ≤ 1000; decide), fun a na => ?_⟩
      refine ⟨a, _, _, rfl, upd_same, fun H2 dx b2 e2 d2 nd ne => ⟨rfl, dx, _, e2, d2, ?_, ?_⟩⟩
      · rw [upd_ne ne] at nd
        exact nd
      · refine kE kr hw _ dx ?_ upd_same
        intro b o hb
        have hb1 := s1 _ _ hb
        have nba : b ≠ a := ne_of_none hb1 na
        have nbd : b ≠ dx := ne_of_none (by rw [upd_ne nba]; exact hb1) nd
        rw [upd_ne nbd, del_ne nba]
        exact b2 _ _ nba (by rw [upd_ne nba]; exact hb1)
    | inr st2 =>
      rw [hw] at rs
      obtain ⟨t, d2, rfl, ht, hd2⟩ := rs
      refine ⟨_, rfl, t, _, 0, _, rfl, rfl, SqT.of ht, rfl, rfl, _, rfl, iteF ?_⟩
      exact ⟨_, rfl, t, _, 1, _, rfl, rfl, SqT.of ht, rfl, kQ st2 hw _ d2 s1 hd2⟩
theorem scLMoved : FnScope ["_law_goods", "_law_stand_here", "_law_row", "_law_found", "e"] ["_law_goods", "_law_stand_here", "_law_row"] (defScope (top 49)) := ⟨rfl, rfl, rfl, by decide +kernel, rfl, by decide +kernel, by decide +kernel⟩
theorem ok_lmoved {f : Addr} {fd : FuncData} (F : FnP K "_law_moved" "_law_moved" (top 49) f fd) (T : Txt K mg) (GM : Gn P w K mg base (L2.CX P w) 7 "moved" ["goods", "stand", "moves"] (spMoved K)) :
    FnOk P w K mg base CX0 8 f fd ["_law_goods", "_law_stand_here", "_law_row"] (spLMoved K) := by
  obtain ⟨fdM, FM, bM⟩ := GM.ok
  refine FunD.ok F scLMoved (fun vs H Q E h => ?_) (fun cdv A outer s H vs Q E hr h => ?_)
  · obtain ⟨g, d, l, hs, ts, cs, st, ms, rfl, _⟩ := h
    rfl
  · obtain ⟨g, d, l, hs, ts, cs, st, ms, rfl, gd, hd, ok, dt, okm, k⟩ := h
    refine ⟨_, pss_cons (ps_set (i := 3) scLMoved.nd rfl (Or.inl rfl) pe_non)
      (pss_cons (ps_try_as (i := 4) (tb := fun W => tAsg (tTup (tCons (tC (.str "good")) (tCons (tCallS (spMoved K) (WE W) (tCons (tVar 0) (tCons (tVar 1) (tCons (tVar 2) tNil)))) tNil))) (gName 3))
          (ts := fun a cls d => tAsg (tTup (tCons (tC (.str "bad")) (tCons (tXf a cls d (nmC K) "k" (tVar 4)) (tCons (tXf a cls d (nmC K) "reason" (tVar 4)) tNil)))) (gName 3)) (Wout := fun _ _ _ _ => False) rfl rfl scLMoved.nd rfl rfl ⟨rfl, by decide, Or.inl (T.glo 51)⟩ takes0
          (fun W pn xe tk _ => pss_one (ps_set (i := 3) scLMoved.nd rfl (Or.inl rfl) (pe_tup (pa_cons pe_str (pa_cons (by exact (pe_callS FM (hr.mono (by decide)) rfl GM.at_ GM.kp bM (fun σ => passAt tk σ) (by exact (pa_cons (pv 0) (pa_cons (pv 1) (pa_cons (pv 2) pa_nil)))))) pa_nil)))))
          (fun a oe cls d pn hz hf => pss_one (ps_set (i := 3) scLMoved.nd rfl (Or.inl rfl) (pe_tup (pa_cons pe_str (pa_cons (by exact (pe_xf T.xf (T.noat 68) hz hf (pv 4))) (pa_cons (by exact (pe_xf T.xf (T.noat 69) hz hf (pv 4))) pa_nil)))))))
      (pss_one (ps_ret (pv 3)))), ?_⟩
    refine ⟨_, rfl, _, rfl, _, rfl, g, d, l, hs, ts, cs, st, ms, rfl, gd, hd, ok, dt, okm, fun kr hw H1 dx s1 hx => ?_, fun st2 hw H1 d2 s1 hd2 => ?_⟩
    · refine ⟨true, He.exm_ok (T.d.fact 67 rfl), fun _ a na => ?_, fun q => Bool.noConfusion q⟩
      refine ⟨_, rfl, rfl, rfl, dx, _, _, rfl, hx, rfl, _, rfl, rfl, rfl, dx, _, _, rfl, hx, rfl, (by show 3 ≤ sizeLine; decide), fun z nz => ?_⟩
      refine ⟨_, rfl, k _ _ (s1.trans (same_new nz)) ?_⟩
      rw [hw]
      exact ⟨z, rfl, upd_same⟩
    · refine ⟨(by show 2 ≤ sizeLine; decide), fun z nz => ?_⟩
      refine ⟨_, rfl, k _ _ (s1.trans (same_new nz)) ?_⟩
      rw [hw]
      exact ⟨z, d2, rfl, upd_same, by rw [upd_ne (ne_of_none hd2 nz)]; exact hd2⟩
end
end Kp
namespace Kp
open PySem PySem.Spec PyProof.Rows L2
/-! ### != of two tuples whose items are equal, dicts among them -/
section
open AutoSeq1 (wpAny_loadPart')
open PySem.SeqAt MeetsSeq MeetsSeq2 MeetsSeq3 SeqRoads2
variable {P : Program} {w : World}
theorem ne_same {l b : Addr} {us vs : Array Value} {n n2 : Nat} {dd dd2 : Option Addr} {sl sl2 : Array (Option Value)} : MeetsIn P w (Builtin.«tuple.__ne__» ⟨[.ref l, .ref b], []⟩)
    (fun A R s => s.heap.get? l = some { cls := .type "tuple", dict := dd, data := .seq us n, slots := sl } ∧ s.heap.get? b = some { cls := .type "tuple", dict := dd2, data := .seq vs n2, slots := sl2 } ∧
      us.size = vs.size ∧ (∀ p ∈ us.toList.zip vs.toList, EqP P w A.in1 s p.1 p.2 true) ∧ R (.ok (.ret (.bool false))) s) :=
  .of_wp fun A R s0 h => by
    obtain ⟨hp, gs, dr, tk, os⟩ := s0
    obtain ⟨h1, h2, hz, he, hR⟩ := h
    have sub := AutoSeq1.sub_tuple_tuple
    wp_walk using wpAny_loadPart' h1, wpAny_loadPart' h2, wpAny_forIn_list _ (fun rest z s2 => z.1 = none ∧ s2 = ⟨hp, gs, dr, tk, os⟩ ∧ ∀ p ∈ rest, EqP P w A.in1 ⟨hp, gs, dr, tk, os⟩ p.1 p.2 true) _
    case turn =>
      rintro ⟨y, x⟩ rest z s2 ⟨hn, rfl, q⟩
      refine wpAny_bind (q (y, x) (List.mem_cons_self ..) _ _ ?_)
      wp_walk
      exact ⟨rfl, rfl, fun p m => q p (List.mem_cons_of_mem _ m)⟩
    case fin =>
      rintro ⟨z1, z2⟩ s2 ⟨hn, rfl, _⟩
      simp only at hn
      subst hn
      wp_walk
      exact ⟨_, rfl, by simpa [Builtin.Tuple.tupleCompareSizes, hz] using hR⟩
    case h =>
      exact ⟨rfl, rfl, he⟩
end
section
variable {X : Cx}
def rNeT (K : PySem.W.Frag) : R2 := fun x y H Q => ∃ (a b : Addr) (xs ys : List V), x = .ref a ∧ y = .ref b ∧ SqT K H a xs ∧ SqT K H b ys ∧ Paired (EqV K H 3) xs ys ∧ Q (.bl false) H
theorem zip_eq {P : Program} {w : World} {A : Around} {s : Shared} {F : V → V → Prop} (ih : ∀ x y v u, F x y → RelV x v → RelV y u → SeqAt.EqP P w A s v u true) : ∀ {xs ys : List V} {us ws : List Value}, Paired F xs ys → Vals xs us → Vals ys ws → ∀ p ∈ us.zip ws, SeqAt.EqP P w A s p.1 p.2 true
  | _, _, _, _, .nil, r1, r2, p, m => by
    cases r1
    cases r2
    cases m
  | _, _, _, _, .cons h t, .cons a1 b1, .cons a2 b2, p, m => by
    rcases List.mem_cons.mp m with rfl | m
    · exact ih _ _ _ _ h a1 a2
    · exact zip_eq ih t b1 b2 p m
theorem op_neT (hu : X.A.units + 64 < cLine) : OpR X (compareOp .NotEq) (rNeT X.K) := by
  intro pins s σ H x y v u Q I rx ry h
  obtain ⟨a, b, xs, ys, rfl, rfl, ha, hb, hp, q⟩ := h
  obtain rfl : v = Value.ref a := rx
  obtain rfl : u = Value.ref b := ry
  obtain ⟨us, r1, ⟨o1, g1, c1, n1, d1⟩, _⟩ := I.tuple ha
  obtain ⟨ws, r2, ⟨o2, g2, c2, n2, d2⟩, _⟩ := I.tuple hb
  obtain ⟨k1, dd1, e1, sl1⟩ := o1
  obtain ⟨k2, dd2, e2, sl2⟩ := o2
  simp only at c1 d1 c2 d2
  subst c1 d1 c2 d2
  have t1 : s.TypeIs (.ref a) "tuple" := ⟨_, g1, rfl⟩
  have t2 : s.TypeIs (.ref b) "tuple" := ⟨_, g2, rfl⟩
  have hz : us.toArray.size = ws.toArray.size := by
    rw [List.size_toArray, List.size_toArray, ← r1.length, ← r2.length]
    exact Paired.length hp
  have he : ∀ p ∈ us.toArray.toList.zip ws.toArray.toList, SeqAt.EqP X.prog X.w X.A.in1 s p.1 p.2 true :=
    zip_eq (fun x y v u f rx ry => eqV_run I 3 X.A.in1 (by show X.A.units + 1 + 3 < cLine; omega) x y v u f rx ry) hp r1 r2
  show wpAny _ _ (richCompare .NotEq (.ref a) (.ref b)) _ _ _
  refine wpAny_richCompare_same_room (op := .NotEq) t1 t2 F.slot_tuple_ne (call_meetsIn F.slot_tuple_ne t1 F.entry_tuple_ne (F.args_tuple_ne_2 _ _) ne_same ⟨g1, g2, hz, he, ?_⟩) (by omega)
  have hE : EP X pins σ Q (.bool false) s := ⟨.bl false, H, I, rfl, q⟩
  exact show Value.bool false ≠ Value.notImplemented ∧ EP X pins σ Q (.bool false) s from ⟨(fun z => nomatch z), hE⟩
/-- two answers of one walk -/
theorem res_ne {K : PySem.W.Frag} {H : Hp} {x y : V} {r : (Nat × Str) ⊕ Std} {Q : VK} (h1 : Res H x r) (h2 : Res H y r) (nd : ∀ st, r = .inr st → (st.map (·.1)).Nodup) (q : Q (.bl false) H) : rNeT K x y H Q := by
  cases r with
  | inl kr =>
    obtain ⟨a, rfl, ha⟩ := h1
    obtain ⟨b, rfl, hb⟩ := h2
    exact ⟨a, b, _, _, rfl, rfl, SqT.of ha, SqT.of hb, .cons (.inl ⟨rfl, rfl⟩) (.cons (.inl ⟨rfl, rfl⟩) (.cons (.inl ⟨rfl, rfl⟩) .nil)), q⟩
  | inr st =>
    obtain ⟨a, d, rfl, ha, hd⟩ := h1
    obtain ⟨b, e, rfl, hb, he⟩ := h2
    refine ⟨a, b, _, _, rfl, rfl, SqT.of ha, SqT.of hb, .cons (.inl ⟨rfl, rfl⟩) (.cons (.inr (.inr (.inr ⟨d, e, _, _, rfl, rfl, hd, he, rfl, fun p m => ?_⟩))) .nil), q⟩
    obtain ⟨z, mz, rfl⟩ := List.mem_map.mp m
    refine ⟨V.str z.2, ?_, .inl ⟨rfl, rfl⟩⟩
    show valV (stK st) (kk z.1) = _
    rw [lk_val]
    have key : ∀ (l : Std), (l.map (·.1)).Nodup → z ∈ l → lk l z.1 = some z.2 := by
      intro l
      induction l with
      | nil => intro _ m; cases m
      | cons y l ih =>
        intro nd m
        rw [List.map_cons, List.nodup_cons] at nd
        unfold lk
        rcases List.mem_cons.mp m with rfl | m
        · rw [List.find?_cons_of_pos (by simp)]
          rfl
        · have hne : ¬ y.1 = z.1 := fun e => nd.1 (by rw [e]; exact List.mem_map.mpr ⟨z, m, rfl⟩)
          rw [List.find?_cons_of_neg (by simpa using hne)]
          exact ih nd.2 m
    rw [key st (nd st rfl) mz]
    rfl
theorem walk_keys {ts : List Pr} {cs : List Pc} : ∀ (ms : List Mv) (k : Nat) (st st2 : Std), walk ts cs k ms st = .inr st2 → st2.map (·.1) = st.map (·.1)
  | [], k, st, st2, h => by
    have h : (Sum.inr st : (Nat × Str) ⊕ Std) = .inr st2 := h
    rw [Sum.inr.inj h]
  | m :: ms, k, st, st2, h => by
    have h : (match reason ts cs st m with | some r => .inl (k, r) | none => walk ts cs (k + 1) ms (stp st m)) = (.inr st2 : (Nat × Str) ⊕ Std) := h
    cases e : reason ts cs st m with
    | some r =>
      rw [e] at h
      cases h
    | none =>
      rw [e] at h
      have z := walk_keys ms (k + 1) _ _ h
      rw [z]
      cases m with
      | ok p a b => exact setS_keys st p b
      | _ => rfl
end
end Kp
namespace Kp
open PySem PySem.Spec PyProof.Rows L2 HT
/-! ### t[::-1], t a pair -/
section
variable {P : Program} {w : World} {A : Around} {E : Value → Shared → Prop} {s : Shared}
theorem cut_back {c : Addr} {vs : Value} {Q : Int × Int × Nat → Shared → Prop} (hc : s.heap.IsSliceOf c .none .none vs) (ps : IsPart vs (some (-1))) (h : Q (1, -1, 2) s) :
    wpAny (model P w) A (Builtin.Slice.sliceApplied (.ref c) (pure ((2 : Nat) : Int))) Q E s := by
  obtain ⟨o, ho, _, hd⟩ := id hc
  unfold Builtin.Slice.sliceApplied
  unfold Builtin.Slice.sliceFields
  refine wpAny_bind (wpAny_bind (wpAny_field ho hd (x := .none) rfl ?_))
  refine wpAny_bind (wpAny_field ho hd (x := .none) rfl ?_)
  refine wpAny_bind (wpAny_field ho hd (x := vs) rfl (wpAny_pure ?_))
  refine wpAny_bind (slicePart_ ps ?_)
  show wpAny _ _ (if ((-1 : Int) == 0) = true then _ else _) _ _ s
  rw [if_neg (by decide)]
  refine wpAny_bind (slicePart_none ?_)
  refine wpAny_bind (slicePart_none ?_)
  refine wpAny_bind (wpAny_pure ?_)
  exact wpAny_pure h
theorem back_pair {t c : Addr} {u v vs : Value} {Q : Value → Shared → Prop} (ht : IsTup s.heap t #[u, v]) (hc : s.heap.IsSliceOf c .none .none vs) (ps : IsPart vs (some (-1)))
    (h : Q (.ref s.heap.objs.size) { s with heap := s.heap.push { cls := .type "tuple", data := .seq #[v, u] } }) : wpAny (model P w) A (getItem (.ref t) (.ref c)) Q E s := by
  have fits : sizeOk (.seq #[v, u]) := by
    show 2 ≤ sizeLine
    decide
  obtain ⟨o, ho, hk, _⟩ := id hc
  have tc : s.TypeIs (.ref c) "slice" := ⟨o, ho, hk⟩
  unfold getItem
  try with_reducible refine wpAny_holding ?_
  first
    | refine wpAny_bind (wpAny_pure ?_)
    | skip
  refine wpAny_bind (wpAny_sequenceKey ht.typeIs (by decide) (wpAny_bind ?_))
  refine wpAny_callSpecial?_slot (name := Str.ofString "__getitem__") ht.typeIs PyProof.Rows.slot_tuple_getitem (wpAny_call_entry PyProof.Rows.slot_tuple_getitem ht.typeIs entry_tuple_getitem ?_ (args_tuple_getitem _ _))
  show wpAny _ _ (Builtin.Tuple.tupleItemsOf (.ref t) >>= _) _ _ s
  refine wpAny_bind (tupleItemsOf_ ht (wpAny_bind (wpAny_typeOf tc ?_)))
  rw [if_pos (by decide)]
  refine wpAny_bind (cut_back hc ps ?_)
  show wpAny _ _ (if ((1 : Int) == 0 && (-1 : Int) == 1 && (2 : Nat) == 2) = true then _ else _) _ _ s
  rw [if_neg (by decide)]
  first
    | exact wpAny_bind (m := Builtin.Tuple.tupleExact #[v, u]) (wpAny_newObj_type (wpAny_pure ⟨_, rfl, wpAny_pure h⟩) fits)
    | exact wpAny_bind (m := Builtin.Tuple.tupleExact #[v, u]) (wpAny_newObj_type (wpAny_bind (wpAny_pure (wpAny_pure ⟨_, rfl, wpAny_pure h⟩))) fits)
    | exact wpAny_bind (wpAny_bind (m := Builtin.Tuple.tupleExact #[v, u]) (wpAny_newObj_type (wpAny_pure ⟨_, rfl, wpAny_pure h⟩) fits))
end
section
variable {X : Cx}
def tRev2 (K : PySem.W.Frag) (te : TE) : TE := fun σ H Q => te σ H fun v H1 => ∃ (a : Addr) (x y : V), v = .ref a ∧ SqT K H1 a [x, y] ∧ ∀ p, H1 p = none → Q (.ref p) (upd H1 p (.tup [y, x]))
theorem pe_rev2 {e : Expr} {te : TE} {k : Nat} {p1 p2 p3 pos : Pos} (he : PE X e te) : PE X (.Subscript e (.Slice none none (some (.UnaryOp .USub (.Constant (.int 1) k p1) p2)) p3) pos) (tRev2 X.K te) := by
  refine ⟨fun pins s σ H Q I h => Subscript_ (thn (he.run pins s σ H _ I h) ?_)⟩
  rintro v s1 ⟨_, H1, I1, r1, a, x, y, rfl, hx, q⟩
  obtain rfl : v = Value.ref a := r1
  have step : PO X (some (.UnaryOp .USub (.Constant (.int 1) k p1) p2)) (tPart (tUn (rU fun i => .int (-i)) (tC (.int 1)))) := po_some (pe_un un_neg pe_int)
  refine wpAny_Slice (thn (po_none.run pins s1 σ H1 (fun o G => o = none ∧ G = H1) I1 ⟨rfl, rfl⟩) ?_)
  rintro vl s2 ⟨_, _, I2, pl, rfl, rfl⟩
  refine thn (po_none.run pins s2 σ _ (fun o G => o = none ∧ G = _) I2 ⟨rfl, rfl⟩) ?_
  rintro vu s3 ⟨_, _, I3, pu, rfl, rfl⟩
  refine thn (step.run pins s3 σ _ (fun o G => o = some (-1) ∧ G = _) I3 ⟨1, rfl, -1, rfl, rfl, rfl⟩) ?_
  rintro vs s4 ⟨_, G, I4, ps, rfl, rfl⟩
  cases pl
  cases pu
  have I5 : Inv X pins σ G { s4 with heap := s4.heap.push { cls := .type "slice", data := .fields #[.none, .none, vs] } } := I4.kept (t' := s4.toks) fun b ob z => Heap.get?_push_of_some _ z
  obtain ⟨its, r, ht, hz⟩ := I5.tuple hx
  cases r with
  | cons ru rr =>
    cases rr with
    | cons rv rn =>
      cases rn
      show wpAny (model X.prog X.w) X.A (subscriptTail e (.Slice none none (some (.UnaryOp .USub (.Constant (.int 1) k p1) p2)) p3) (.ref a) (.ref s4.heap.objs.size)) (EP X pins σ Q) X.xe { s4 with heap := s4.heap.push { cls := .type "slice", data := .fields #[.none, .none, vs] } }
      refine tail_any (ops := [.ref a, .ref s4.heap.objs.size]) ht.typeIs PyProof.Rows.slot_tuple_getitem.lookup ?_ (by with_unfolding_all rfl)
      refine back_pair ht (Heap.IsSliceOf.new _ _ _ vs) ps ?_
      refine ⟨.ref _, _, I5.laid (t' := s4.toks) (o := .tup [y, x]) (fun b ob z => Heap.get?_push_of_some _ z) (Nat.le_refl _) ?_, rfl, q _ (I5.hok.fresh (Nat.le_refl _))⟩
      exact ⟨(by show 2 ≤ sizeLine; decide), [_, _], .cons rv (.cons ru .nil), IsTup.new _ _⟩
/-- (e, ..): a new tuple, its object known to have no dict -/
def tTupF (t : TA) : TE := fun σ H Q => t σ H fun xs H1 => xs.length ≤ sizeLine ∧ ∀ p ob, ob.dict = none → H1 p = none → Q (.ref p) (upd H1 p (.frz ob (.tup xs)))
theorem pe_tupF {es : List Expr} {t : TA} {pos : Pos} {x1 : Nat} (h : PA X es t) : PE X (.Tuple es x1 pos) (tTupF t) := by
  refine ⟨fun pins s σ H Q I hq => wpAny_Tuple_spliced (thn (h.run pos pins s σ H _ I hq) ?_)⟩
  rintro us s1 ⟨xs, H1, I1, r, z, q⟩
  refine ⟨by rw [← r.length]; exact z, ?_⟩
  obtain ⟨ob, eob⟩ : ∃ ob : Obj, ob = { cls := .type "tuple", data := .seq us.toArray 0 } := ⟨_, rfl⟩
  have at_ : (s1.heap.push { cls := .type "tuple", data := .seq us.toArray 0 }).get? s1.heap.objs.size = some ob := by
    rw [eob]
    exact Heap.get?_push_size _ rfl
  have J := I1.laid (t' := s1.toks) (a := s1.heap.objs.size) (o := .frz ob (.tup xs)) (h' := s1.heap.push { cls := .type "tuple", data := .seq us.toArray 0 }) (fun b u e => Heap.get?_push_of_some _ e) (Nat.le_refl _)
    ⟨at_, z, us, r, ⟨ob, at_, by rw [eob], 0, by rw [eob]⟩⟩
  exact ⟨.ref s1.heap.objs.size, _, J, rfl, q _ ob (by rw [eob]) (I1.hok.fresh (Nat.le_refl _))⟩
end
end Kp
namespace Kp
open PySem PySem.Spec PyProof.Rows L2
/-! ### the digits that the law draws -/
/-- a state: one cell, or what is left of it, the seed, the count -/
def RS (H : Hp) (a : Addr) : Prop := (∃ c : Int, H a = some (.lst [.int c])) ∨ ∃ q c n : Int, H a = some (.lst [.int q, .int c, .int n])
theorem RS.keep {H H' : Hp} {a : Addr} (r : RS H a) (s : ∀ o, H a = some o → H' a = some o) : RS H' a := by
  rcases r with ⟨c, h⟩ | ⟨q, c, n, h⟩
  · exact .inl ⟨c, s _ h⟩
  · exact .inr ⟨q, c, n, s _ h⟩
theorem RS.up {H H' : Hp} {a : Addr} (r : RS H a) (s : Same H H') : RS H' a := r.keep fun o h => s _ _ h
theorem RS.ne {H : Hp} {a b : Addr} {o : HO} (r : RS H a) (h : H b = some o) (n : ∀ xs, o ≠ .lst xs) : b ≠ a := fun z => by
  rcases r with ⟨c, e⟩ | ⟨q, c, m, e⟩ <;> rw [z, e] at h <;> exact n _ (Option.some.inj h).symm
theorem RS.some {H : Hp} {a : Addr} (r : RS H a) : ∃ o, H a = some o := by
  rcases r with ⟨c, e⟩ | ⟨q, c, m, e⟩
  · exact ⟨_, e⟩
  · exact ⟨_, e⟩
theorem RS.new {H : Hp} {a p : Addr} (r : RS H a) (h : H p = none) : a ≠ p := fun z => by
  obtain ⟨o, e⟩ := r.some
  rw [z, h] at e
  cases e
def spCellAt (K : PySem.W.Frag) : Sp := fun vs H Q _ => ∃ (l : Addr) (ns : List Int) (j : Nat), vs = [.ref l, .int (j : Nat)] ∧ SqL K H l (ns.map V.int) ∧ ∀ i : Int, Q (.int i) H
def spDigit : Sp := fun vs H Q _ => ∃ (a : Addr) (b : Int), vs = [.ref a, .int b] ∧ 0 < b ∧ b < 1073741824 ∧ RS H a ∧ ∀ (d : Nat) H', (d : Int) < b → But a H H' → RS H' a → Q (.int (d : Nat)) H'
section
variable {P : Program} {w : World} {K : PySem.W.Frag} {mg : Str → Option Value} {base : Heap}
theorem scCellAt : FnScope ["_law_script", "_law_k"] ["_law_script", "_law_k"] (defScope (top 38)) := ⟨rfl, rfl, rfl, by decide +kernel, rfl, by decide +kernel, by decide +kernel⟩
theorem ok_cellAt {f : Addr} {fd : FuncData} (F : FnP K "_law_cell_at" "_law_cell_at" (top 38) f fd) (T : Txt K mg) : FnOk P w K mg base CX0 1 f fd ["_law_script", "_law_k"] (spCellAt K) := by
  refine def_ok F scCellAt (fun vs H Q E h => ?_) (fun cdv A outer s H vs Q E hr h => ?_)
  · obtain ⟨l, ns, j, rfl, _⟩ := h
    rfl
  · obtain ⟨l, ns, j, rfl, hl, k⟩ := h
    refine ⟨_, pss_cons (ps_if (pt_cmpR op_lt (pv 1) (pe_callB call_len_seq (by rfl) (T.free 37) PySem.boot_len (pa_cons (pv 0) pa_nil)) (nomark _)) (pss_one (ps_ret (pe_ix ix_list (pv 0) (pv 1) (fun _ _ => rfl)))) pss_nil) (pss_one (ps_ret pe_int)), ?_⟩
    refine ⟨_, rfl, _, rfl, l, _, rfl, .inl hl, _, _, rfl, rfl, _, rfl, ?_⟩
    by_cases h : j < ns.length
    · refine iteB (decide_eq_true (by rw [List.length_map]; omega)) ?_
      refine ⟨_, rfl, _, rfl, l, _, _, .int ns[j], rfl, rfl, hl, ?_, k _⟩
      unfold atI ixN
      rw [if_pos (by omega), if_pos (by rw [List.length_map]; omega), Option.bind_some, Int.toNat_natCast, List.getElem?_map, List.getElem?_eq_getElem h]
      rfl
    · refine iteC (decide_eq_false (by rw [List.length_map]; omega)) ?_
      exact k 0
theorem mod_nat {i b : Int} (h : 0 < b) : ∃ d : Nat, i % b = (d : Int) ∧ (d : Int) < b := ⟨(i % b).toNat, by have := Int.emod_nonneg i (show b ≠ 0 by omega); omega, by
  have := Int.emod_nonneg i (show b ≠ 0 by omega)
  have := Int.emod_lt_of_pos i h
  omega⟩
theorem scDigit : FnScope ["_law_state", "_law_base", "_law_cell", "_law_found", "_law_number"] ["_law_state", "_law_base"] (defScope (top 39)) := ⟨rfl, rfl, rfl, by decide +kernel, rfl, by decide +kernel, by decide +kernel⟩
theorem ok_digit {f : Addr} {fd : FuncData} (F : FnP K "_law_digit" "_law_digit" (top 39) f fd) (T : Txt K mg) : FnOk P w K mg base CX0 1 f fd ["_law_state", "_law_base"] spDigit := by
  refine def_ok F scDigit (fun vs H Q E h => ?_) (fun cdv A outer s H vs Q E hr h => ?_)
  · obtain ⟨a, b, rfl, _⟩ := h
    rfl
  · obtain ⟨a, b, rfl, hb, hb2, rs, k⟩ := h
    refine ⟨_, pss_cons (ps_if (pt_cmpR op_eq (pe_callB call_len_seq (by rfl) (T.free 37) PySem.boot_len (pa_cons (pv 0) pa_nil)) pe_int (nomark _))
        (pss_cons (ps_set (i := 2) scDigit.nd rfl (Or.inl rfl) (pe_ix ix_list (pv 0) pe_int (fun _ _ => rfl)))
        (pss_cons (ps_asg (pe_ix ix_list (pe_lst (pa_cons pe_int (pa_cons (pv 2) pa_nil))) (pe_callTy call_int1 (by rfl) (T.free 31) boot_intT (pa_cons (pe_cmpR op_ge (pv 2) (pe_op op_pow pe_int pe_int) (by rfl)) pa_nil)) (fun _ _ => rfl)) (pg_sub (pv 0) pe_int set_list))
        (pss_one (ps_expr (pe_bm PySem.F.plainAttrs_list PySem.F.slot_list_extend PySem.F.type_list_extend mt_extend (pv 0) (pa_cons (pe_lst (pa_cons (pe_op op_mod (pv 2) pe_int) (pa_cons pe_int pa_nil))) pa_nil)))))) pss_nil)
      (pss_cons (ps_if (pt_cmpR op_gt (pe_ix ix_list (pv 0) pe_int (fun _ _ => rfl)) pe_int (nomark _))
        (pss_cons (ps_set (i := 3) scDigit.nd rfl (Or.inl rfl) (pe_op op_mod (pe_ix ix_list (pv 0) pe_int (fun _ _ => rfl)) (pv 1)))
        (pss_cons (ps_asg (pe_op op_fdiv (pe_ix ix_list (pv 0) pe_int (fun _ _ => rfl)) (pv 1)) (pg_sub (pv 0) pe_int set_list))
        (pss_one (ps_ret (pv 3))))) pss_nil)
      (pss_cons (ps_asg (pe_op op_add (pe_ix ix_list (pv 0) pe_int (fun _ _ => rfl)) pe_int) (pg_sub (pv 0) pe_int set_list))
      (pss_cons (ps_set (i := 4) scDigit.nd rfl (Or.inl rfl) (pe_op op_mod (pe_op op_mul (pe_op op_add (pe_op op_add (pe_ix ix_list (pv 0) pe_int (fun _ _ => rfl)) (pe_op op_mul pe_int (pe_ix ix_list (pv 0) pe_int (fun _ _ => rfl)))) pe_int) pe_int) pe_int))
      (pss_cons (ps_set (i := 4) scDigit.nd rfl (Or.inl rfl) (pe_op op_mod (pe_op op_mul (pv 4) (pe_op op_add (pe_op op_fdiv (pv 4) pe_int) pe_int)) pe_int))
      (pss_one (ps_ret (pe_op op_mod (pe_op op_mod (pe_op op_mul (pv 4) (pe_op op_add (pe_op op_fdiv (pv 4) pe_int) pe_int)) pe_int) (pv 1)))))))), ?_⟩
    -- behind the opening the state has three places
    rcases rs with ⟨c0, h⟩ | ⟨q, c, n, h⟩
    case' inl =>
      refine ⟨_, rfl, a, _, rfl, .inl (SqL.of h), rfl, _, rfl, iteT ?_⟩
      refine ⟨_, rfl, a, _, 0, _, rfl, rfl, SqL.of h, rfl, ?_⟩
      refine ⟨_, rfl, (by show 2 ≤ sizeLine; decide), fun p hp => ?_⟩
      have nap : a ≠ p := ne_of_none h hp
      have hp1 : upd H p (.lst [.int 0, .int c0]) p = some (.lst [.int 0, .int c0]) := upd_same
      have ha1 : upd H p (.lst [.int 0, .int c0]) a = some (.lst [.int c0]) := by rw [upd_ne nap]; exact h
      have b1 : But a H (upd H p (.lst [.int 0, .int c0])) := But.new a hp
      generalize upd H p (.lst [.int 0, .int c0]) = H1 at hp1 ha1 b1 ⊢
      refine ⟨_, rfl, _, _, rfl, rfl, ⟨by decide, by decide, by decide⟩, _, _, rfl, rfl, .inr ⟨_, rfl, ?_⟩⟩
      obtain ⟨q, eq⟩ : ∃ q : Int, atI [V.int 0, V.int c0] (if decide ((10 : Int) ^ (18 : Int).toNat ≤ c0) then 1 else 0) = some (.int q) := by
        by_cases z : (10 : Int) ^ (18 : Int).toNat ≤ c0
        · exact ⟨c0, by rw [if_pos (decide_eq_true z)]; rfl⟩
        · exact ⟨0, by rw [if_neg (by simpa using z)]; rfl⟩
      refine ⟨p, _, _, _, rfl, rfl, SqL.of hp1, eq, ?_⟩
      refine ⟨_, rfl, a, _, 0, 0, rfl, rfl, ha1, rfl, ?_⟩
      have b2 : But a H (upd H1 a (.lst ([V.int c0].set 0 (.int q)))) := b1.trans But.put
      have ha2 : upd H1 a (.lst ([V.int c0].set 0 (.int q))) a = some (.lst [.int q]) := upd_same
      generalize upd H1 a (.lst ([V.int c0].set 0 (.int q))) = H2 at b2 ha2 ⊢
      refine ⟨_, rfl, .inl ⟨rfl, _, SqL.of ha2⟩, _, rfl, _, _, rfl, rfl, (by show (0 : Int) < 2147483647; decide), (by show 2 ≤ sizeLine; decide), fun p2 hp2 => ?_⟩
      have na2 : a ≠ p2 := ne_of_none ha2 hp2
      refine ⟨a, p2, _, _, rfl, rfl, (by rw [upd_ne na2]; exact ha2), upd_same, (by show 3 ≤ sizeLine; decide), ?_⟩
      obtain ⟨c, ec⟩ : ∃ c : Int, c = c0 % 2147483647 := ⟨_, rfl⟩
      obtain ⟨n, en⟩ : ∃ n : Int, n = 0 := ⟨_, rfl⟩
      have b3 : But a H (upd (upd H2 p2 (.lst [.int (c0 % 2147483647), .int 0])) a (.lst ([V.int q] ++ [.int (c0 % 2147483647), .int 0]))) := (b2.trans (But.new a hp2)).trans But.put
      have h3 : upd (upd H2 p2 (.lst [.int (c0 % 2147483647), .int 0])) a (.lst ([V.int q] ++ [.int (c0 % 2147483647), .int 0])) a = some (.lst [.int q, .int c, .int n]) := by rw [upd_same, ec, en]; rfl
      generalize upd (upd H2 p2 (.lst [.int (c0 % 2147483647), .int 0])) a (.lst ([V.int q] ++ [.int (c0 % 2147483647), .int 0])) = H3 at b3 h3 ⊢
    case' inr =>
      refine ⟨_, rfl, a, _, rfl, .inl (SqL.of h), rfl, _, rfl, iteF ?_⟩
      obtain ⟨H3, e3⟩ : ∃ H3, H3 = H := ⟨_, rfl⟩
      have b3 : But a H H3 := by rw [e3]; exact But.refl a H
      have h3 : H3 a = some (.lst [.int q, .int c, .int n]) := by rw [e3]; exact h
      rw [← e3]
    all_goals
      refine ⟨_, rfl, a, _, 0, _, rfl, rfl, SqL.of h3, rfl, _, _, rfl, rfl, _, rfl, ?_⟩
      by_cases hq : (0 : Int) < q
      · refine iteB (decide_eq_true hq) ?_
        refine ⟨_, rfl, a, _, 0, _, rfl, rfl, SqL.of h3, rfl, _, rfl, _, _, rfl, rfl, hb, ?_⟩
        refine ⟨_, rfl, a, _, 0, _, rfl, rfl, SqL.of h3, rfl, _, rfl, _, _, rfl, rfl, ⟨hb, hb2⟩, ?_⟩
        refine ⟨_, rfl, a, _, 0, 0, rfl, rfl, h3, rfl, ?_⟩
        obtain ⟨d, ed, ld⟩ := mod_nat (i := q) hb
        refine ⟨_, rfl, ?_⟩
        show Q (.int (q % b)) _
        rw [ed]
        exact k d _ ld (b3.trans But.put) (.inr ⟨q / b, c, n, by rw [upd_same]; rfl⟩)
      · refine iteC (decide_eq_false hq) ?_
        refine ⟨_, rfl, a, _, 2, _, rfl, rfl, SqL.of h3, rfl, _, _, rfl, rfl, ?_⟩
        refine ⟨_, rfl, a, _, 2, 2, rfl, rfl, h3, rfl, ?_⟩
        have b4 : But a H (upd H3 a (.lst ([V.int q, .int c, .int n].set 2 (.int (n + 1))))) := b3.trans But.put
        have h4 : upd H3 a (.lst ([V.int q, .int c, .int n].set 2 (.int (n + 1)))) a = some (.lst [.int q, .int c, .int (n + 1)]) := upd_same
        generalize upd H3 a (.lst ([V.int q, .int c, .int n].set 2 (.int (n + 1)))) = H4 at b4 h4 ⊢
        obtain ⟨x, ex, lx⟩ := mod_nat (i := (c + 7919 * (n + 1) + 1) * 48271) (b := 2147483647) (by decide)
        refine ⟨_, rfl, a, _, 1, _, rfl, rfl, SqL.of h4, rfl, _, rfl, a, _, 2, _, rfl, rfl, SqL.of h4, rfl, _, _, rfl, rfl, .inl ⟨by decide, by decide⟩, _, _, rfl, rfl, _, _, rfl, rfl, _, _, rfl, rfl, .inr ⟨by decide, by decide⟩, _, _, rfl, rfl, (by show (0 : Int) < 2147483647; decide), ?_⟩
        dsimp only
        rw [ex]
        obtain ⟨y, ey, ly⟩ := mod_nat (i := (x : Int) * ((x : Int) / 1009 + 69621)) (b := 2147483647) (by decide)
        refine ⟨_, rfl, _, rfl, _, _, rfl, rfl, ⟨by decide, by decide⟩, _, _, rfl, rfl, _, _, rfl, rfl, .inl ⟨by omega, by omega⟩, _, _, rfl, rfl, (by show (0 : Int) < 2147483647; decide), ?_⟩
        dsimp only
        rw [ey]
        refine ⟨_, rfl, _, rfl, _, _, rfl, rfl, ⟨by decide, by decide⟩, _, _, rfl, rfl, _, _, rfl, rfl, .inl ⟨by omega, by omega⟩, _, _, rfl, rfl, (by show (0 : Int) < 2147483399; decide), _, rfl, _, _, rfl, rfl, hb, ?_⟩
        obtain ⟨d, ed, ld⟩ := mod_nat (i := (y : Int) * ((y : Int) / 2003 + 40692) % 2147483399) hb
        show Q (.int ((y : Int) * ((y : Int) / 2003 + 40692) % 2147483399 % b)) _
        rw [ed]
        exact k d _ ld b4 (.inr ⟨q, c, n + 1, h4⟩)
end
end Kp
namespace Kp
open PySem PySem.Spec PyProof.Rows L2
/-! ### drawn names -/
theorem cut_from {xs : List V} (t : Nat) : cutV xs (some (t : Int)) none = xs.drop t := by
  unfold cutV
  rw [HT.sIx_nat, HT.sIx_none]
  by_cases h : t ≤ xs.length
  · rw [Nat.min_eq_left h, List.take_of_length_le (by rw [List.length_drop]; omega)]
  · rw [Nat.min_eq_right (by omega), List.drop_of_length_le (by omega : xs.length ≤ t), List.drop_length, List.take_nil]
theorem cut_to {xs : List V} (t : Nat) : cutV xs none (some (t : Int)) = xs.take t := by
  unfold cutV
  rw [HT.sIx_nat, HT.sIx_none, List.drop_zero, Nat.sub_zero]
  by_cases h : t ≤ xs.length
  · rw [Nat.min_eq_left h]
  · rw [Nat.min_eq_right (by omega), List.take_of_length_le (Nat.le_refl _), List.take_of_length_le (by omega)]
def wds : List Str := ["hand", "tie", "piece", "yard", "free", "fixed", "none", "tick", "come", "go", "rest", "run", "show", "ok"]
def isNm (x : Str) : Bool := decide (1 ≤ x.length) && (decide (x.length ≤ 8) && x.cps.toList.all fun c => lets.cps.toList.contains c)
theorem isNm_ok {x : Str} (h : isNm x = true) : Nm x := by
  unfold isNm at h
  rw [Bool.and_eq_true, Bool.and_eq_true, List.all_eq_true] at h
  exact ⟨of_decide_eq_true h.1, of_decide_eq_true h.2.1, fun c hc => by simpa using h.2.2 c hc⟩
theorem wds_ok : ∀ x ∈ wds, Nm x := fun x m => isNm_ok (List.all_eq_true.mp (show wds.all isNm = true by decide +kernel) x m)
theorem wds_nd : wds.Nodup := by decide +kernel
/-- the letters; what stands at the end of the name at place i -/
abbrev LL : List Nat := lets.cps.toList
def tl (many i : Nat) : List Nat := (if many > 26 then [LL.getD (i / 26) 0] else []) ++ [LL.getD (i % 26) 0]
theorem LL_len : LL.length = 26 := by decide +kernel
theorem LL_inj : ∀ i, i < 26 → ∀ j, j < 26 → LL.getD i 0 = LL.getD j 0 → i = j := by decide +kernel
theorem LL_mem : ∀ i, i < 26 → LL.getD i 0 ∈ LL := by decide +kernel
theorem tl_inj {many i j : Nat} (hm : many ≤ 30) (hi : i < many) (hj : j < many) (e : tl many i = tl many j) : i = j := by
  unfold tl at e
  by_cases h : many > 26
  · rw [if_pos h, if_pos h] at e
    have e1 := List.cons.inj e
    have e2 := List.cons.inj e1.2
    have q1 := LL_inj _ (by omega) _ (by omega) e1.1
    have q2 := LL_inj _ (by omega) _ (by omega) e2.1
    omega
  · rw [if_neg h, if_neg h] at e
    have e2 := List.cons.inj e
    have q2 := LL_inj _ (by omega) _ (by omega) e2.1
    omega
def EndsW (many i : Nat) (x : Str) : Prop := ∃ pre, x.cps.toList = pre ++ tl many i
theorem ends_inj {many i j : Nat} {x : Str} (hm : many ≤ 30) (hi : i < many) (hj : j < many) (a : EndsW many i x) (b : EndsW many j x) : i = j := by
  obtain ⟨p, hp⟩ := a
  obtain ⟨q, hq⟩ := b
  rw [hp] at hq
  refine tl_inj hm hi hj (List.append_inj_right' hq ?_)
  unfold tl
  by_cases h : many > 26
  · rw [if_pos h, if_pos h]
    rfl
  · rw [if_neg h, if_neg h]
    rfl
theorem str_app (x y : Str) : (x ++ y).cps.toList = x.cps.toList ++ y.cps.toList := by
  show (x.cps ++ y.cps).toList = _
  exact Array.toList_append
theorem str_len (x : Str) : x.length = x.cps.toList.length := rfl
theorem app_len (x y : Str) : (x ++ y).length = x.length + y.length := by rw [str_len, str_len, str_len, str_app, List.length_append]
/-- letters only, n of them -/
structure Wd (n : Nat) (x : Str) : Prop where
  len : x.length = n
  ok : ∀ c ∈ x.cps.toList, c ∈ LL
theorem Wd.put {n i : Nat} {x : Str} (h : Wd n x) (hi : i < 26) : Wd (n + 1) (x ++ ⟨#[LL.getD i 0]⟩) where
  len := by
    rw [app_len, h.len]
    rfl
  ok c hc := by
    rw [str_app] at hc
    rcases List.mem_append.mp hc with m | m
    · exact h.ok c m
    · rw [List.mem_singleton.mp m]
      exact LL_mem i hi
theorem at_let {i : Nat} (hi : i < 26) : atI LL (i : Int) = some (LL.getD i 0) := by
  unfold atI ixN
  rw [if_pos (by omega), if_pos (by rw [LL_len]; omega), Option.bind_some, Int.toNat_natCast, List.getD_eq_getElem?_getD, List.getElem?_eq_getElem (by rw [LL_len]; exact hi)]
  rfl
def NmsOk (many : Nat) (xs : List Str) : Prop := xs.length = many ∧ xs.Nodup ∧ ∀ x ∈ xs, Nm x
def spDrawn : Sp := fun vs H Q _ => ∃ (a : Addr) (many : Nat), vs = [.ref a, .int (many : Nat)] ∧ many ≤ 30 ∧ RS H a ∧ ∀ (xs : List Str) H' p, But a H H' → RS H' a → H p = none → H' p = some (.lst (xs.map V.str)) → NmsOk many xs → Q (.ref p) H'
theorem rot_ok {t many : Nat} (hm : many < 15) : NmsOk many ((wds.drop t ++ wds.take t).take many) := by
  have pm : (wds.drop t ++ wds.take t).Perm wds := List.perm_append_comm.trans (by rw [List.take_append_drop])
  refine ⟨?_, ?_, fun x hx => wds_ok x (pm.mem_iff.mp (List.mem_of_mem_take hx))⟩
  · rw [List.length_take, pm.length_eq]
    show min many 14 = many
    omega
  · exact (List.take_sublist _ _).nodup (pm.nodup_iff.mpr wds_nd)
end Kp
namespace Kp
open PySem PySem.Spec PyProof.Rows L2
section
variable {P : Program} {w : World} {K : PySem.W.Frag} {mg : Str → Option Value} {base : Heap}
theorem scDrawn : FnScope ["_law_state", "_law_many", "_law_letters", "_law_words", "_law_turn", "_law_names_here", "_law_k", "_law_word", "_law_j"] ["_law_state", "_law_many"] (defScope (top 40)) := ⟨rfl, rfl, rfl, by decide +kernel, rfl, by decide +kernel, by decide +kernel⟩
theorem ok_drawn {f : Addr} {fd : FuncData} (F : FnP K "_law_names" "_law_names" (top 40) f fd) (T : Txt K mg) (GD : Gn P w K mg base CX0 1 "_law_digit" ["_law_state", "_law_base"] spDigit) : FnOk P w K mg base CX0 2 f fd ["_law_state", "_law_many"] spDrawn := by
  refine def_ok F scDrawn (fun vs H Q E h => ?_) (fun cdv A outer s H vs Q E hr h => ?_)
  · obtain ⟨a, many, rfl, _⟩ := h
    rfl
  · obtain ⟨a, many, rfl, hm, rs, k⟩ := h
    refine ⟨_, pss_cons (ps_set (i := 2) scDrawn.nd rfl (Or.inl rfl) pe_str)
      (pss_cons (ps_set (i := 3) scDrawn.nd rfl (Or.inl rfl) (pe_lst (pa_cons pe_str (pa_cons pe_str (pa_cons pe_str (pa_cons pe_str (pa_cons pe_str (pa_cons pe_str (pa_cons pe_str (pa_cons pe_str (pa_cons pe_str (pa_cons pe_str (pa_cons pe_str (pa_cons pe_str (pa_cons pe_str (pa_cons pe_str pa_nil))))))))))))))))
      (pss_cons (ps_if (PW.pt (pw_and (pt_cmpR op_lt (pv 1) pe_int (nomark _)) (pw_and1 (pt_cmpR op_eq (pe_g GD hr (pa_cons (pv 0) (pa_cons pe_int pa_nil)) pass0) pe_int (nomark _)))))
        (pss_cons (ps_set (i := 4) scDrawn.nd rfl (Or.inl rfl) (pe_g GD hr (pa_cons (pv 0) (pa_cons pe_int pa_nil)) pass0))
          (pss_one (ps_ret (pe_slice sl_list (pe_op op_cat (pe_slice sl_list (pv 3) (po_some (pv 4)) po_none) (pe_slice sl_list (pv 3) po_none (po_some (pv 4)))) po_none (po_some (pv 1)))))) pss_nil)
      (pss_cons (ps_set (i := 5) scDrawn.nd rfl (Or.inl rfl) (pe_lst pa_nil))
      (pss_cons (ps_for PassesOwn.never rfl (pi_range1 (by rfl) (T.free 41) (pa_cons (pv 1) pa_nil)) (pg_name (i := 6) scDrawn.nd rfl (Or.inl rfl))
        (pss_cons (ps_set (i := 7) scDrawn.nd rfl (Or.inl rfl) pe_str)
        (pss_cons (ps_for PassesOwn.never rfl (pi_range1 (by rfl) (T.free 41) (pa_cons (pe_g GD hr (pa_cons (pv 0) (pa_cons (pe_op op_sub pe_int (pe_op op_fdiv (pv 1) pe_int)) pa_nil)) pass0) pa_nil)) (pg_name (i := 8) scDrawn.nd rfl (Or.inl rfl))
          (pss_one (ps_set (i := 7) scDrawn.nd rfl (Or.inl rfl) (pe_op op_add_str (pv 7) (pe_ix ix_str (pv 2) (pe_g GD hr (pa_cons (pv 0) (pa_cons pe_int pa_nil)) pass0) (fun _ _ => rfl))))))
        (pss_cons (ps_if (pt_cmpR op_gt (pv 1) pe_int (nomark _)) (pss_one (ps_set (i := 7) scDrawn.nd rfl (Or.inl rfl) (pe_op op_add_str (pv 7) (pe_ix ix_str (pv 2) (pe_op op_fdiv (pv 6) pe_int) (fun _ _ => rfl))))) pss_nil)
        (pss_one (ps_expr (pe_bm PySem.F.plainAttrs_list PySem.F.slot_list_append PySem.F.type_list_append mt_append (pv 5) (pa_cons (pe_op op_add_str (pv 7) (pe_ix ix_str (pv 2) (pe_op op_mod (pv 6) pe_int) (fun _ _ => rfl))) pa_nil))))))))
      (pss_one (ps_ret (pv 5))))))), ?_⟩
    refine ⟨(by show 14 ≤ sizeLine; decide), fun W hW => ?_⟩
    have naW : a ≠ W := rs.new hW
    have b1 : But a H (upd H W (.lst (wds.map V.str))) := But.new a hW
    have r1 : RS (upd H W (.lst (wds.map V.str))) a := rs.keep fun o h => by rw [upd_ne naW]; exact h
    have w1 : upd H W (.lst (wds.map V.str)) W = some (.lst (wds.map V.str)) := upd_same
    have eW : [V.str "hand", .str "tie", .str "piece", .str "yard", .str "free", .str "fixed", .str "none", .str "tick", .str "come", .str "go", .str "rest", .str "run", .str "show", .str "ok"] = wds.map V.str := rfl
    rw [eW]
    generalize upd H W (.lst (wds.map V.str)) = H1 at b1 r1 w1 ⊢
    refine ⟨_, rfl, _, _, rfl, rfl, _, rfl, ?_⟩
    by_cases h15 : many < 15
    case' pos =>
      refine iteB (decide_eq_true (by omega)) ?_
      refine ⟨_, rfl, a, 8, rfl, by decide, by decide, r1, fun d H2 ld b12 r2 => ?_⟩
      have b2 := b1.trans b12
      have w2 := b12 _ _ naW.symm w1
      refine ⟨rfl, _, rfl, ?_⟩
      by_cases h7 : (V.int (d : Nat)) = V.int 7
      · refine iteB (decide_eq_true h7) ?_
        refine ⟨_, rfl, a, 14, rfl, by decide, by decide, r2, fun t H3 lt b23 r3 => ?_⟩
        have b3 := b2.trans b23
        have w3 := b23 _ _ naW.symm w2
        refine ⟨_, rfl, _, rfl, _, rfl, W, _, rfl, SqL.of w3, fun p hp => ?_⟩
        have nap := r3.new hp
        have b4 : But a H (upd H3 p (.lst (cutV (wds.map V.str) (some (t : Int)) none))) := b3.trans (But.new a hp)
        have r4 : RS (upd H3 p (.lst (cutV (wds.map V.str) (some (t : Int)) none))) a := r3.keep fun o h => by rw [upd_ne nap]; exact h
        have w4 : upd H3 p (.lst (cutV (wds.map V.str) (some (t : Int)) none)) W = some (.lst (wds.map V.str)) := by rw [upd_ne (ne_of_none w3 hp)]; exact w3
        have p4 : upd H3 p (.lst (cutV (wds.map V.str) (some (t : Int)) none)) p = some (.lst ((wds.drop t).map V.str)) := by rw [upd_same, cut_from, List.map_drop]
        generalize upd H3 p (.lst (cutV (wds.map V.str) (some (t : Int)) none)) = H4 at b4 r4 w4 p4 ⊢
        refine ⟨_, rfl, _, rfl, _, rfl, W, _, rfl, SqL.of w4, fun q hq => ?_⟩
        have naq := r4.new hq
        have b5 : But a H (upd H4 q (.lst (cutV (wds.map V.str) none (some (t : Int))))) := b4.trans (But.new a hq)
        have r5 : RS (upd H4 q (.lst (cutV (wds.map V.str) none (some (t : Int))))) a := r4.keep fun o h => by rw [upd_ne naq]; exact h
        have p5 : upd H4 q (.lst (cutV (wds.map V.str) none (some (t : Int)))) p = some (.lst ((wds.drop t).map V.str)) := by rw [upd_ne (ne_of_none p4 hq)]; exact p4
        have q5 : upd H4 q (.lst (cutV (wds.map V.str) none (some (t : Int)))) q = some (.lst ((wds.take t).map V.str)) := by rw [upd_same, cut_to, List.map_take]
        generalize upd H4 q (.lst (cutV (wds.map V.str) none (some (t : Int)))) = H5 at b5 r5 p5 q5 ⊢
        refine ⟨p, q, _, _, rfl, rfl, p5, q5, ?_, fun c hc => ?_⟩
        · refine Nat.le_of_lt (small1000 ?_)
          rw [List.length_map, List.length_map, List.length_drop, List.length_take]
          show 14 - t + min t 14 ≤ 1000
          omega
        have nac := r5.new hc
        rw [← List.map_append]
        have b6 : But a H (upd H5 c (.lst ((wds.drop t ++ wds.take t).map V.str))) := b5.trans (But.new a hc)
        have r6 : RS (upd H5 c (.lst ((wds.drop t ++ wds.take t).map V.str))) a := r5.keep fun o h => by rw [upd_ne nac]; exact h
        have c6 : upd H5 c (.lst ((wds.drop t ++ wds.take t).map V.str)) c = some (.lst ((wds.drop t ++ wds.take t).map V.str)) := upd_same
        generalize upd H5 c (.lst ((wds.drop t ++ wds.take t).map V.str)) = H6 at b6 r6 c6 ⊢
        refine ⟨_, rfl, _, rfl, c, _, rfl, SqL.of c6, fun z hz => ?_⟩
        have naz := r6.new hz
        refine k ((wds.drop t ++ wds.take t).take many) _ z (b6.trans (But.new a hz)) (r6.keep fun o h => by rw [upd_ne naz]; exact h) ?_ (by rw [upd_same, cut_to, List.map_take]) (rot_ok h15)
        cases e : H z with
        | none => rfl
        | some o =>
          have := b6 _ _ naz.symm e
          rw [hz] at this
          cases this
      refine iteC (decide_eq_false h7) ?_
    case' neg =>
      refine iteC (decide_eq_false (by omega)) (iteF ?_)
      obtain ⟨H2, e2⟩ : ∃ H2, H2 = H1 := ⟨_, rfl⟩
      have b2 : But a H H2 := by rw [e2]; exact b1
      have r2 : RS H2 a := by rw [e2]; exact r1
      rw [← e2]
    all_goals
      refine ⟨(by show 0 ≤ sizeLine; decide), fun p hp => ?_⟩
      have nap : a ≠ p := r2.new hp
      have np0 : H p = none := by
        cases e : H p with
        | none => rfl
        | some o =>
          have := b2 _ _ nap.symm e
          rw [hp] at this
          cases this
      have b3 : But a H (upd H2 p (.lst [])) := b2.trans (But.new a hp)
      have r3 : RS (upd H2 p (.lst [])) a := r2.keep fun o h => by rw [upd_ne nap]; exact h
      have p3 : upd H2 p (.lst []) p = some (.lst (([] : List Str).map V.str)) := upd_same
      generalize upd H2 p (.lst []) = H3 at b3 r3 p3 ⊢
      refine ⟨_, rfl, (many : Nat), rfl, by omega, by omega, for_range (fun i σ H5 => ∃ (xs : List Str) (v4 v6 v7 v8 : Option V), σ = [some (.ref a), some (.int (many : Nat)), some (.str lets), some (.ref W), v4, some (.ref p), v6, v7, v8] ∧ But a H H5 ∧ RS H5 a ∧ H5 p = some (.lst (xs.map V.str)) ∧
          xs.length = i ∧ xs.Nodup ∧ (∀ x ∈ xs, Nm x) ∧ ∀ x ∈ xs, ∃ j, j < i ∧ EndsW many j x) ⟨[], none, none, none, none, rfl, b3, r3, p3, rfl, List.nodup_nil, (fun x m => nomatch m), (fun x m => nomatch m)⟩ ?_ ?_⟩
      · rintro i σ H5 hi ⟨xs, v4, v6, v7, v8, rfl, b5, r5, p5, l5, nd5, nm5, en5⟩
        have hi' : i < many := by omega
        have len8 : ∃ m : Nat, (8 : Int) - (many : Int) / 27 = (m : Nat) ∧ m + (tl many 0).length ≤ 9 ∧ 1 ≤ m := by
          by_cases h27 : 27 ≤ many
          · refine ⟨7, by omega, ?_, by omega⟩
            unfold tl
            rw [if_pos (by omega)]
            exact Nat.le_refl _
          · refine ⟨8, by omega, ?_, by omega⟩
            unfold tl
            rw [if_neg (by omega)]
            exact Nat.le_refl _
        obtain ⟨m8, e8, l8, g8⟩ := len8
        have em : (8 : Int) - ((many : Nat) : Int) / 27 = (m8 : Nat) := e8
        refine ⟨_, rfl, _, rfl, _, _, rfl, rfl, ⟨by decide, by decide⟩, _, _, rfl, rfl, a, _, rfl, by omega, by omega, r5, fun d H6 ld b56 r6 => ?_⟩
        have b6 := b5.trans b56
        have p6 := b56 _ _ nap.symm p5
        have ld' : d < m8 := by omega
        refine ⟨(d : Nat), rfl, by omega, by omega, for_range (fun j σ H7 => ∃ (x : Str) (v8 : Option V), σ = [some (.ref a), some (.int (many : Nat)), some (.str lets), some (.ref W), v4, some (.ref p), some (.int (0 + (i : Int))), some (.str x), v8] ∧ But a H H7 ∧ RS H7 a ∧ H7 p = some (.lst (xs.map V.str)) ∧ Wd j x)
          ⟨"", v8, rfl, b6, r6, p6, rfl, fun c hc => nomatch hc⟩ ?_ ?_⟩
        · rintro j σ H7 hj ⟨x, v8', rfl, b7, r7, p7, wd⟩
          refine ⟨_, rfl, _, rfl, _, rfl, a, 26, rfl, by decide, by decide, r7, fun t H8 lt b78 r8 => ?_⟩
          have ht : t < 26 := by omega
          refine ⟨lets, (t : Nat), _, rfl, rfl, (by show 26 ≤ sizeLine; decide), at_let ht, _, _, rfl, rfl, ?_, ?_⟩
          · rw [wd.len]
            refine Nat.le_of_lt (small1000 ?_)
            show j + 1 ≤ 1000
            omega
          exact ⟨_, _, rfl, b7.trans b78, r8, b78 _ _ nap.symm p7, wd.put ht⟩
        · rintro σ H7 ⟨x, v8', rfl, b7, r7, p7, wd⟩
          have wd : Wd d x := wd
          -- the letter of the hundreds
          refine ⟨_, rfl, _, _, rfl, rfl, _, rfl, ?_⟩
          have last : ∀ (y : Str) (n : Nat), Wd n y → n + 1 ≤ 8 → (∃ pre, y.cps.toList ++ [LL.getD (i % 26) 0] = pre ++ tl many i) → Nm (y ++ ⟨#[LL.getD (i % 26) 0]⟩) ∧ EndsW many i (y ++ ⟨#[LL.getD (i % 26) 0]⟩) := by
            rintro y n wy hn ⟨pre, hpre⟩
            have w2 := wy.put (show i % 26 < 26 by omega)
            refine ⟨⟨by rw [w2.len]; omega, by rw [w2.len]; omega, w2.ok⟩, pre, ?_⟩
            rw [str_app]
            exact hpre
          have e26 : (0 + (i : Int)) / 26 = ((i / 26 : Nat) : Int) := by omega
          have m26 : (0 + (i : Int)) % 26 = ((i % 26 : Nat) : Int) := by omega
          by_cases h26 : 26 < many
          case' pos =>
            refine iteB (decide_eq_true (by omega)) ?_
            refine ⟨_, rfl, _, rfl, _, rfl, _, _, rfl, rfl, ⟨by decide, by decide⟩, lets, _, LL.getD (i / 26) 0, rfl, rfl, (by show 26 ≤ sizeLine; decide), (by show atI LL ((0 + (i : Int)) / 26) = _; rw [e26]; exact at_let (by omega)), _, _, rfl, rfl, ?_, ?_⟩
            · rw [wd.len]
              refine Nat.le_of_lt (small1000 ?_)
              show d + 1 ≤ 1000
              omega
            have hl8 : m8 + 2 ≤ 9 := by
              have z : (tl many 0).length = 2 := by
                unfold tl
                rw [if_pos h26]
                rfl
              omega
            obtain ⟨y, ey⟩ : ∃ y : Str, y = x ++ ⟨#[LL.getD (i / 26) 0]⟩ := ⟨_, rfl⟩
            have wy : Wd (d + 1) y := by rw [ey]; exact wd.put (by omega)
            have hn : d + 1 + 1 ≤ 8 := by omega
            have hpre : ∃ pre, y.cps.toList ++ [LL.getD (i % 26) 0] = pre ++ tl many i := ⟨x.cps.toList, by
              rw [ey, str_app]
              unfold tl
              rw [if_pos h26, List.append_assoc]⟩
            obtain ⟨n, en⟩ : ∃ n, n = d + 1 := ⟨_, rfl⟩
            rw [← en] at wy hn
            rw [← ey]
          case' neg =>
            refine iteC (decide_eq_false (by omega)) ?_
            obtain ⟨y, ey⟩ : ∃ y : Str, y = x := ⟨_, rfl⟩
            obtain ⟨n, en⟩ : ∃ n, n = d := ⟨_, rfl⟩
            have wy : Wd n y := by rw [ey, en]; exact wd
            have hn : n + 1 ≤ 8 := by
              have z : (tl many 0).length = 1 := by
                unfold tl
                rw [if_neg h26]
                rfl
              omega
            have hpre : ∃ pre, y.cps.toList ++ [LL.getD (i % 26) 0] = pre ++ tl many i := ⟨y.cps.toList, by
              unfold tl
              rw [if_neg h26]
              rfl⟩
            rw [← ey]
          all_goals
            obtain ⟨nmY, enY⟩ := last y n wy hn hpre
            refine ⟨_, rfl, .inl ⟨rfl, _, SqL.of p7⟩, _, rfl, _, rfl, _, rfl, _, _, rfl, rfl, (by show (0 : Int) < 26; decide), lets, _, LL.getD (i % 26) 0, rfl, rfl, (by show 26 ≤ sizeLine; decide), (by show atI LL ((0 + (i : Int)) % 26) = _; rw [m26]; exact at_let (by omega)), _, _, rfl, rfl, ?_, p, _, _, rfl, rfl, p7, ?_, ?_⟩
            · rw [wy.len]
              refine Nat.le_of_lt (small1000 ?_)
              show n + 1 ≤ 1000
              omega
            · rw [List.length_map]
              exact small1000 (by omega)
            · refine ⟨xs ++ [y ++ ⟨#[LL.getD (i % 26) 0]⟩], _, _, _, _, rfl, ?_, ?_, ?_, ?_, ?_, ?_, ?_⟩
              · intro b o nb hb
                rw [upd_ne (ne_of_none hb np0)]
                exact b7 _ _ nb hb
              · exact r7.keep fun o h => by rw [upd_ne nap]; exact h
              · rw [upd_same, List.map_append]
                rfl
              · rw [List.length_append, l5]
                rfl
              · refine (List.perm_append_singleton _ xs).nodup_iff.mpr (List.nodup_cons.mpr ⟨fun m => ?_, nd5⟩)
                obtain ⟨j, hj, ej⟩ := en5 _ m
                have := ends_inj hm (by omega) hi' ej enY
                omega
              · intro z hz
                rcases List.mem_append.mp hz with m | m
                · exact nm5 z m
                · rw [List.mem_singleton.mp m]
                  exact nmY
              · intro z hz
                rcases List.mem_append.mp hz with m | m
                · obtain ⟨j, hj, ej⟩ := en5 z m
                  exact ⟨j, by omega, ej⟩
                · rw [List.mem_singleton.mp m]
                  exact ⟨i, by omega, enY⟩
      · rintro σ H5 ⟨xs, v4, v6, v7, v8, rfl, b5, r5, p5, l5, nd5, nm5, en5⟩
        exact ⟨_, rfl, k xs _ p b5 r5 np0 p5 ⟨by rw [l5, Int.toNat_natCast], nd5, nm5⟩⟩
end
end Kp
namespace Kp
open PySem PySem.Spec PyProof.Rows L2
/-! ### comprehensions whose elements draw digits -/
theorem off_mono {L M : List Addr} {H : Hp} (h : ∀ b, b ∈ M → b ∈ L) : Same (Off L H) (Off M H) := fun b o e => by
  by_cases hb : b ∈ L
  · rw [off_in hb] at e
    cases e
  · rw [off_out hb] at e
    rw [off_out fun m => hb (h b m)]
    exact e
theorem off_put {L : List Addr} {H : Hp} {D : Addr} {o : HO} (h : D ∈ L) : Off L (upd H D o) = Off L H := by
  funext b
  by_cases hb : b ∈ L
  · rw [off_in hb, off_in hb]
  · rw [off_out hb, off_out hb, upd_ne fun z => hb (by rw [z]; exact h)]
theorem _root_.L2.But.offs {a : Addr} {L : List Addr} {H H' : Hp} (b : But a H H') (h : a ∈ L) : Same (Off L H) (Off L H') := (b.fro.wide fun c m => by rw [List.mem_singleton.mp m]; exact h).off
theorem _root_.L2.But.none {a : Addr} {H H' : Hp} {p : Addr} (b : But a H H') (n : p ≠ a) (h : H' p = none) : H p = none := by
  cases e : H p with
  | none => rfl
  | some o =>
    have z := b _ _ n e
    rw [h] at z
    cases z
theorem RS.put {H : Hp} {a p : Addr} {o : HO} (r : RS H a) (n : p ≠ a) : RS (upd H p o) a := r.keep fun u h => by
  rw [upd_ne n.symm]
  exact h
section
variable {J : It} {n : Nat} {G : Hp → Prop} {Y : Nat → Hp → V → Hp → Prop} {g : TG} {tt : TT} {te : TE} {vs : List Nat} {σ : L2.St} {H1 : Hp} {D : Addr} {Qd : Hp → Prop}
theorem lc_dataS (w : Walk J n G Y) (a : Addr) (Pi : Nat → List PyData → Prop) (hz : n < sizeLine) (hD : H1 D = none) (r0 : RS H1 a) (hG : ∀ H, But a H1 H → G H) (p0 : Pi 0 [])
    (hs : ∀ (i : Nat) (x : V) (ds : List PyData) (H H' : Hp) (N : Hp → Prop) (R : VK), i < n → Pi i ds → But a H1 H → RS H a → H D ≠ none → Y i H x H' → (∀ H'', But a H H'' → RS H'' a → Pi (i + 1) ds → N H'') →
      (∀ z d H'', But a H H'' → RS H'' a → Dt (Off [a, D] H'') z d → Pi (i + 1) (ds ++ [d]) → R z H'') → g x (wipe σ vs) H' fun σ2 H2 => wipe σ2 vs = wipe σ vs ∧ tt σ2 H2 fun b H3 => if b = true then te σ2 H3 R else N H3)
    (hd : ∀ H' ds, But a H1 H' → RS H' a → Pi n ds → Dt (Off [a] H') (.ref D) (.list ds) → Qd H') :
    ∃ W : Nat → Nat → Hp → Prop, (∃ m, W 0 m (upd H1 D (.lst []))) ∧ ∀ i m H, W i m H →
      (J.stop i H ∧ Qd H) ∨ (J.go i H ∧ ∃ Nx : Hp → Prop, (∀ H', Nx H' → ∃ m', m' < m ∧ W (i + 1) m' H') ∧ ∀ x H', J.yld i H x H' → g x (wipe σ vs) H' fun σ2 H2 => wipe σ2 vs = wipe σ vs ∧ tt σ2 H2 fun b H3 =>
        if b = true then te σ2 H3 fun y H4 => ∃ acc, H4 D = some (.lst acc) ∧ acc.length < sizeLine ∧ Nx (upd H4 D (.lst (acc ++ [y]))) else Nx H3) := by
  have nDa : D ≠ a := (r0.new hD).symm
  refine lc_it (tt := tt) w (fun i H => But a H1 H ∧ RS H a ∧ ∃ acc ds, H D = some (.lst acc) ∧ DtAll (Off [a, D] H) acc ds ∧ Pi i ds ∧ ds.length ≤ i) ?_ (fun i H _ p => hG H p.1) ?_ ?_
  · exact ⟨But.new a hD, r0.put nDa, [], [], upd_same, .nil, p0, Nat.le_refl _⟩
  · rintro i x H H' hi ⟨b1, r1, acc, ds, hacc, dp, pi, ln⟩ y
    refine hs i x ds H H' _ _ hi pi b1 r1 (by rw [hacc]; intro z; cases z) y (fun H3 b3 r3 p3 => ?_) (fun z d H4 b4 r4 q4 p4 => ?_)
    · exact ⟨b1.trans b3, r3, acc, ds, b3 _ _ nDa hacc, dp.up (b3.offs (List.mem_cons_self ..)), p3, by omega⟩
    · have e4 := b4 _ _ nDa hacc
      refine ⟨acc, e4, by rw [dp.len]; omega, ?_, r4.put nDa, acc ++ [z], ds ++ [d], upd_same, ?_, p4, by rw [List.length_append]; show ds.length + 1 ≤ i + 1; omega⟩
      · intro b o nb hb
        rw [upd_ne (ne_of_none hb hD)]
        exact b4 _ _ nb (b1 _ _ nb hb)
      · rw [off_put (List.mem_cons_of_mem _ (List.mem_cons_self ..))]
        exact (dp.up (b4.offs (List.mem_cons_self ..))).snoc q4
  · rintro H ⟨b1, r1, acc, ds, hacc, dp, pi, ln⟩
    refine hd H ds b1 r1 pi (.lst ?_ (dp.up (off_mono fun b m => ?_)))
    · rw [off_out (by simp [nDa])]
      exact hacc
    · rw [List.mem_singleton.mp m]
      exact List.mem_cons_self ..
end
/-! ### ties that are being drawn -/
structure TieP (xs : List Str) (i m : Nat) (ts : List Pr) : Prop where
  at_ : ∀ t ∈ ts, ∃ (u v : Nat) (x y : Str), u < v ∧ (u < i ∨ (u = i ∧ v < m)) ∧ xs[u]? = some x ∧ xs[v]? = some y ∧ (t = (x, y) ∨ t = (y, x))
  nd : (ts.map sP).Nodup
theorem TieP.skip {xs : List Str} {i m : Nat} {ts : List Pr} (h : TieP xs i m ts) : TieP xs i (m + 1) ts := ⟨fun t mt => by
  obtain ⟨u, v, x, y, a, b, c⟩ := h.at_ t mt
  exact ⟨u, v, x, y, a, b.imp id (fun z => ⟨z.1, by omega⟩), c⟩, h.nd⟩
theorem TieP.next {xs : List Str} {i m m2 : Nat} {ts : List Pr} (h : TieP xs i m ts) : TieP xs (i + 1) m2 ts := ⟨fun t mt => by
  obtain ⟨u, v, x, y, a, b, c⟩ := h.at_ t mt
  exact ⟨u, v, x, y, a, .inl (by omega), c⟩, h.nd⟩
theorem TieP.put {xs : List Str} {i m : Nat} {ts : List Pr} {x y : Str} {t : Pr} (h : TieP xs i m ts) (nd : xs.Nodup) (hx : xs[i]? = some x) (hy : xs[m]? = some y) (im : i < m) (ht : t = (x, y) ∨ t = (y, x)) : TieP xs i (m + 1) (ts ++ [t]) := by
  refine ⟨fun t2 mt => ?_, ?_⟩
  · rcases List.mem_append.mp mt with mt | mt
    · exact h.skip.at_ t2 mt
    · rw [List.mem_singleton.mp mt]
      exact ⟨i, m, x, y, im, .inr ⟨rfl, by omega⟩, hx, hy, ht⟩
  · rw [List.map_append]
    refine (List.perm_append_singleton _ _).nodup_iff.mpr (List.nodup_cons.mpr ⟨fun mm => ?_, h.nd⟩)
    obtain ⟨t2, m2, e2⟩ := List.mem_map.mp mm
    obtain ⟨u, v, x2, y2, uv, lt, hu, hv, et⟩ := h.at_ t2 m2
    have key : (x2 = x ∧ y2 = y) ∨ (x2 = y ∧ y2 = x) := by
      have h12 : t2 = t ∨ t2 = sw t := sP_iff.mp e2
      have h3 : t2 = (x, y) ∨ t2 = (y, x) := by
        rcases h12 with rfl | rfl
        · exact ht
        · rcases ht with rfl | rfl
          · exact .inr rfl
          · exact .inl rfl
      rcases et with rfl | rfl
      · rcases h3 with e | e
        · exact .inl ⟨(Prod.mk.inj e).1, (Prod.mk.inj e).2⟩
        · exact .inr ⟨(Prod.mk.inj e).1, (Prod.mk.inj e).2⟩
      · rcases h3 with e | e
        · exact .inr ⟨(Prod.mk.inj e).2, (Prod.mk.inj e).1⟩
        · exact .inl ⟨(Prod.mk.inj e).2, (Prod.mk.inj e).1⟩
    rcases key with ⟨rfl, rfl⟩ | ⟨rfl, rfl⟩
    · have := nd_ix nd hu hx
      have := nd_ix nd hv hy
      omega
    · have := nd_ix nd hu hy
      have := nd_ix nd hv hx
      omega
theorem TieP.ok {xs : List Str} {i m : Nat} {ts : List Pr} {hs : List (Str × Int)} (h : TieP xs i m ts) (nd : xs.Nodup) (pm : (hs.map (·.1)).Perm xs) (len : ts.length < 64) : TiesOk hs ts := by
  refine ⟨fun t mt => ?_, fun t mt => ?_, h.nd, len⟩
  · obtain ⟨u, v, x, y, uv, lt, hu, hv, et⟩ := h.at_ t mt
    have ne : x ≠ y := fun e => by
      have := nd_ix nd hu (by rw [hv, e])
      omega
    rcases et with rfl | rfl
    · exact ne
    · exact ne.symm
  · obtain ⟨u, v, x, y, uv, lt, hu, hv, et⟩ := h.at_ t mt
    have mx := pm.mem_iff.mpr (List.mem_of_getElem? hu)
    have my := pm.mem_iff.mpr (List.mem_of_getElem? hv)
    rcases et with rfl | rfl
    · exact ⟨mx, my⟩
    · exact ⟨my, mx⟩
/-- pairs, each one's object known to have no dict -/
def FzP (H : Hp) (v : V) (t : Pr) : Prop := ∃ (q : Addr) (ob : Obj), v = .ref q ∧ ob.dict = none ∧ H q = some (.frz ob (.tup [.str t.1, .str t.2]))
def PF (H : Hp) (acc : List V) (ts : List Pr) : Prop := Paired (FzP H) acc ts
theorem PF.zero {H : Hp} : PF H [] [] := Paired.nil
theorem PF.up {H H' : Hp} {acc : List V} {ts : List Pr} (p : PF H acc ts) (s : Same H H') : PF H' acc ts := Paired.mapP p fun _ _ ⟨q, ob, e, d, h⟩ => ⟨q, ob, e, d, s _ _ h⟩
theorem PF.len {H : Hp} {acc : List V} {ts : List Pr} (p : PF H acc ts) : acc.length = ts.length := Paired.length p
theorem PF.snoc {H : Hp} : ∀ {acc : List V} {ts : List Pr} {v : V} {t : Pr}, PF H acc ts → FzP H v t → PF H (acc ++ [v]) (ts ++ [t])
  | _, _, _, _, .nil, q => .cons q .nil
  | _, _, _, _, .cons a r, q => .cons a (PF.snoc r q)
theorem PF.dt {H : Hp} : ∀ {acc : List V} {ts : List Pr}, PF H acc ts → DtAll H acc (ts.map dP)
  | _, _, .nil => .nil
  | _, _, .cons ⟨q, ob, e, d, h⟩ r => by
    subst e
    exact .cons (.pr d h) (PF.dt r)
theorem PF.at_ {H : Hp} : ∀ {acc : List V} {ts : List Pr} {i : Nat} {v : V}, PF H acc ts → acc[i]? = some v → ∃ t, ts[i]? = some t ∧ FzP H v t
  | _, _, i, v, .nil, e => by simp at e
  | _, _, 0, v, .cons (b := t) q r, e => by
    have e2 := Option.some.inj e
    subst e2
    exact ⟨t, rfl, q⟩
  | _, _, i + 1, v, .cons q r, e => PF.at_ (i := i) r e
/-- a list of such -/
def TsF (H : Hp) (l : Addr) (ts : List Pr) : Prop := ∃ acc, H l = some (.lst acc) ∧ PF H acc ts
theorem TsF.up {H H' : Hp} {l : Addr} {ts : List Pr} (p : TsF H l ts) (s : Same H H') : TsF H' l ts := by
  obtain ⟨acc, h, q⟩ := p
  exact ⟨acc, s _ _ h, q.up s⟩
theorem TsF.dt {H : Hp} {l : Addr} {ts : List Pr} (p : TsF H l ts) : Dt H (.ref l) (dPs ts) := by
  obtain ⟨acc, h, q⟩ := p
  exact .lst h q.dt
/-- a drawn web: its hands, its ties -/
def spWebD : Sp := fun vs H Q _ => ∃ (a : Addr), vs = [.ref a, .int 8] ∧ RS H a ∧ ∀ (hs : List (Str × Int)) (ts : List Pr) H' t l1 l2, But a H H' → RS H' a → H' t = some (.tup [.ref l1, .ref l2]) → H' l1 ≠ none → t ≠ a → Dt (Off [a] H') (.ref l1) (dHs hs) → TsF (Off [a] H') l2 ts →
  HandsOk hs → TiesOk hs ts → Q (.ref t) H'
end Kp
namespace Kp
open PySem PySem.Spec PyProof.Rows L2
theorem at_two {u v : V} {e : Nat} (h : (e : Int) < 2) : ∃ z, atI [u, v] (e : Int) = some z ∧ (z = u ∨ z = v) := by
  match e, h with
  | 0, _ => exact ⟨u, rfl, .inl rfl⟩
  | 1, _ => exact ⟨v, rfl, .inr rfl⟩
  | n + 2, h => omega
theorem yes_it {te : TE} {σ : L2.St} {H : Hp} {R : VK} {N : Hp → Prop} (h : te σ H R) : tYes σ H fun b H3 => if b = true then te σ H3 R else N H3 := by
  show if true = true then te σ H R else N H
  rw [if_pos rfl]
  exact h
theorem at_three {i j k : Int} {e : Nat} (h : (e : Int) < 3) : ∃ z : Int, atI [V.int i, .int j, .int k] (e : Int) = some (.int z) ∧ (z = i ∨ z = j ∨ z = k) := by
  match e, h with
  | 0, _ => exact ⟨i, rfl, .inl rfl⟩
  | 1, _ => exact ⟨j, rfl, .inr (.inl rfl)⟩
  | 2, _ => exact ⟨k, rfl, .inr (.inr rfl)⟩
  | n + 3, h => omega
section
variable {P : Program} {w : World} {K : PySem.W.Frag} {mg : Str → Option Value} {base : Heap}
theorem scWebD : FnScope ["_law_state", "_law_most", "_law_names_here", "_law_hands", "_law_thin", "_law_ties", "_law_k", "_law_one", "_law_other", "_law_turn", "_law_name"] ["_law_state", "_law_most"] (defScope (top 41)) := ⟨rfl, rfl, rfl, by decide +kernel, rfl, by decide +kernel, by decide +kernel⟩
theorem ok_webD {f : Addr} {fd : FuncData} (F : FnP K "_law_web" "_law_web" (top 41) f fd) (T : Txt K mg) (GD : Gn P w K mg base CX0 1 "_law_digit" ["_law_state", "_law_base"] spDigit) (GN : Gn P w K mg base CX0 2 "_law_names" ["_law_state", "_law_many"] spDrawn) :
    FnOk P w K mg base CX0 3 f fd ["_law_state", "_law_most"] spWebD := by
  refine def_ok F scWebD (fun vs H Q E h => ?_) (fun cdv A outer s H vs Q E hr h => ?_)
  · obtain ⟨a, rfl, _⟩ := h
    rfl
  · obtain ⟨a, rfl, rs, k⟩ := h
    refine ⟨_, pss_cons (ps_set (i := 2) scWebD.nd rfl (Or.inl rfl) (pe_g GN hr (pa_cons (pv 0) (pa_cons (pe_op op_add pe_int (pe_g GD hr (pa_cons (pv 0) (pa_cons (pv 1) pa_nil)) pass0)) pa_nil)) pass0))
      (pss_cons (ps_setLc (i := 3) (own := [("_law_name", 10)]) (g := gName 10) (tt := tYes) rfl scWebD.nd rfl rfl (sw_true rfl rfl rfl (by decide +kernel)) (pi_list (pv 2))
        (blkOk_by (N := ["_law_state", "_law_most", "_law_names_here", "_law_hands", "_law_thin", "_law_ties", "_law_k", "_law_one", "_law_other", "_law_turn", "_law_name"]) (sc := defScope (top 41)) (by decide +kernel)) (fun _ _ _ _ _ => pg_name (i := 10) scWebD.nd rfl (Or.inl rfl)) (fun _ _ _ _ _ => pts_nil)
        (fun _ _ _ _ _ => pe_tup (pa_cons (pv 10) (pa_cons (pe_op op_add pe_int (pe_g GD hr (pa_cons (pv 0) (pa_cons (pe_ix (r := rIxL K) ix_list (pe_lst (pa_cons pe_int (pa_cons pe_int (pa_cons pe_int pa_nil)))) (pe_g GD hr (pa_cons (pv 0) (pa_cons pe_int pa_nil)) pass0) (fun _ _ => rfl)) pa_nil)) pass0)) pa_nil))))
      (pss_cons (ps_set (i := 4) scWebD.nd rfl (Or.inl rfl) (pe_op op_add pe_int (pe_g GD hr (pa_cons (pv 0) (pa_cons pe_int pa_nil)) pass0)))
      (pss_cons (ps_set (i := 5) scWebD.nd rfl (Or.inl rfl) (pe_lst pa_nil))
      (pss_cons (ps_for PassesOwn.never rfl (pi_enum (by rfl) (T.free 42) (pa_cons (pv 2) pa_nil)) (pg_tup rfl (pgs_cons (pg_name (i := 6) scWebD.nd rfl (Or.inl rfl)) (pgs_cons (pg_name (i := 7) scWebD.nd rfl (Or.inl rfl)) pgs_nil)))
        (pss_one (ps_for PassesOwn.never rfl (pi_list (pe_slice sl_list (pv 2) (po_some (pe_op op_add (pv 6) pe_int)) po_none)) (pg_name (i := 8) scWebD.nd rfl (Or.inl rfl))
          (pss_one (ps_if (pt_cmpR op_eq (pe_g GD hr (pa_cons (pv 0) (pa_cons (pv 4) pa_nil)) pass0) pe_int (nomark _))
            (pss_one (ps_expr (pe_bm PySem.F.plainAttrs_list PySem.F.slot_list_append PySem.F.type_list_append mt_append (pv 5) (pa_cons (pe_ix ix_list (pe_lst (pa_cons (pe_tupF (pa_cons (pv 7) (pa_cons (pv 8) pa_nil))) (pa_cons (pe_tupF (pa_cons (pv 8) (pa_cons (pv 7) pa_nil))) pa_nil))) (pe_g GD hr (pa_cons (pv 0) (pa_cons pe_int pa_nil)) pass0) (fun _ _ => rfl)) pa_nil)))) pss_nil)))))
      (pss_cons (ps_set (i := 9) scWebD.nd rfl (Or.inl rfl) (pe_g GD hr (pa_cons (pv 0) (pa_cons (pe_callB call_len_seq (by rfl) (T.free 37) PySem.boot_len (pa_cons (pv 3) pa_nil)) pa_nil)) pass0))
      (pss_one (ps_ret (pe_tup (pa_cons (pe_op op_cat (pe_slice sl_list (pv 3) (po_some (pv 9)) po_none) (pe_slice sl_list (pv 3) po_none (po_some (pv 9)))) (pa_cons (pv 5) pa_nil)))))))))), ?_⟩
    refine ⟨_, rfl, _, rfl, _, rfl, a, 8, rfl, by decide, by decide, rs, fun d0 H1 ld b1 r1 => ?_⟩
    refine ⟨_, _, rfl, rfl, a, d0 + 1, (by show [V.ref a, V.int (1 + (d0 : Int))] = _; rw [show (1 + (d0 : Int)) = ((d0 + 1 : Nat) : Int) by omega]), by omega, r1, fun xs H2 p b12 r2 np hp nok => ?_⟩
    obtain ⟨lx, ndx, nmx⟩ := nok
    have b2 := b1.trans b12
    have npa : p ≠ a := (r1.new np).symm
    -- the hands
    refine ⟨_, rfl, p, rfl, ⟨_, SqL.of hp⟩, fun D hD => ?_⟩
    have nDa : D ≠ a := (r2.new hD).symm
    refine lc_dataS (walk_list (xs := xs.map V.str)) a (fun i ds => ∃ hs0 : List (Str × Int), ds = hs0.map dH ∧ hs0.map (·.1) = xs.take i ∧ ∀ h ∈ hs0, 1 ≤ h.2 ∧ h.2 ≤ 1000) (small1000 (by rw [List.length_map]; omega)) hD r2 (fun H3 b3 => SqL.of (b3 _ _ npa hp)) ⟨[], rfl, rfl, fun _ m => nomatch m⟩ ?_ ?_
    · rintro i v ds H3 H4 N R hi ⟨hs0, rfl, e1, e2⟩ b3 r3 nD ⟨rfl, hv⟩ kN kR
      have hv : (xs.map V.str)[i]? = some v := hv
      rw [List.getElem?_map] at hv
      obtain ⟨x, hx, rfl⟩ := Option.map_eq_some_iff.mp hv
      refine ⟨rfl, yes_it ?_⟩
      refine ⟨_, rfl, _, rfl, (by show 3 ≤ sizeLine; decide), fun q hq => ?_⟩
      have nqa : q ≠ a := (r3.new hq).symm
      have b4 := But.new a (o := .lst [.int 3, .int 12, .int 1000]) hq
      have r4 := r3.put (o := .lst [.int 3, .int 12, .int 1000]) nqa
      refine ⟨_, rfl, a, 3, rfl, by decide, by decide, r4, fun e H5 le b5 r5 => ?_⟩
      obtain ⟨z, ez, hz⟩ := at_three (i := 3) (j := 12) (k := 1000) le
      have hz1 : 1 ≤ z ∧ z ≤ 1000 := by omega
      refine ⟨q, _, _, _, rfl, rfl, SqL.of (b5 _ _ nqa upd_same), ez, a, z, rfl, by omega, by omega, r5, fun d H6 ld6 b6 r6 => ?_⟩
      refine ⟨_, _, rfl, rfl, (by show 2 ≤ sizeLine; decide), fun t ht => ?_⟩
      have nta : t ≠ a := (r6.new ht).symm
      have b36 := (b4.trans b5).trans b6
      have ntD : t ≠ D := fun c => by
        cases e : H4 D with
        | none => exact nD e
        | some o =>
          have := b36 _ _ nDa e
          rw [← c, ht] at this
          cases this
      refine kR _ (dH (x, 1 + (d : Int))) _ (b36.trans (But.new a ht)) (r6.put nta) (dt_hdM ?_) ⟨hs0 ++ [(x, 1 + (d : Int))], by rw [List.map_append]; rfl, by rw [List.map_append, e1, take_snoc hx]; rfl, fun h hh => ?_⟩
      · rw [off_out (by simp [nta, ntD]), upd_same]
      · rcases List.mem_append.mp hh with m | m
        · exact e2 h m
        · rw [List.mem_singleton.mp m]
          exact ⟨by show 1 ≤ 1 + (d : Int); omega, by show 1 + (d : Int) ≤ 1000; omega⟩
    · rintro H3 ds b23 r3 ⟨hs0, rfl, e1, e2⟩ dt
      have e1 : hs0.map (·.1) = xs := by
        rw [e1, List.length_map, List.take_length]
      have b3 := b2.trans b23
      have hp3 := b23 _ _ npa hp
      -- thin, the ties
      refine ⟨_, rfl, a, 4, rfl, by decide, by decide, r3, fun th H4 lth b34 r4 => ⟨_, _, rfl, rfl, ?_⟩⟩
      have b4 := b3.trans b34
      have hp4 := b34 _ _ npa hp3
      have dt4 := dt.up (b34.offs (L := [a]) (List.mem_cons_self ..))
      refine ⟨(by show 0 ≤ sizeLine; decide), fun TL hTL => ?_⟩
      have nTa : TL ≠ a := (r4.new hTL).symm
      have npT : p ≠ TL := ne_of_none hp4 hTL
      refine ⟨_, rfl, p, xs.map V.str, rfl, SqL.of (by rw [upd_ne npT]; exact hp4), for_it (walk_enum (K := K) (a := p) (xs := xs.map V.str)) (fun i σ H5 => ∃ (ts : List Pr) (acc : List V) (v6 v7 v8 : Option V), σ = [some (.ref a), some (.int 8), some (.ref p), some (.ref D), some (.int (1 + (th : Int))), some (.ref TL), v6, v7, v8, none, none] ∧
          But a H4 H5 ∧ RS H5 a ∧ H5 TL = some (.lst acc) ∧ PF (Off [a, TL] H5) acc ts ∧ TieP xs i (i + 1) ts ∧ ts.length ≤ 7 * i)
        ⟨[], [], none, none, none, rfl, But.new a hTL, r4.put nTa, upd_same, PF.zero, ⟨fun _ m => (nomatch m), List.nodup_nil⟩, Nat.le_refl _⟩ (fun i σ H5 _ ⟨_, _, _, _, _, _, q, _⟩ => SqL.of (q _ _ npa hp4)) ?_ ?_⟩
      · rintro i x σ H5 H6 hi ⟨ts, acc, v6, v7, v8, rfl, b5, r5, t5, a5, p5, l5⟩ ⟨U, x1, x2, rfl, nU, rfl, f1, f2⟩
        have f1 := Option.some.inj f1
        subst f1
        have f2 : (xs.map V.str)[i]? = some x2 := f2
        rw [List.getElem?_map] at f2
        obtain ⟨x, hx, rfl⟩ := Option.map_eq_some_iff.mp f2
        have nUa : U ≠ a := (r5.new nU).symm
        have hi8 : i < xs.length := (List.getElem?_eq_some_iff.mp hx).1
        have b6 : But a H4 (upd H5 U (.tup [.int (i : Nat), .str x])) := b5.trans (But.new a nU)
        have r6 : RS (upd H5 U (.tup [.int (i : Nat), .str x])) a := r5.put nUa
        have t6 : upd H5 U (.tup [.int (i : Nat), .str x]) TL = some (.lst acc) := by rw [upd_ne (ne_of_none t5 nU)]; exact t5
        have a6 : PF (Off [a, TL] (upd H5 U (.tup [.int (i : Nat), .str x]))) acc ts := a5.up ((But.new a nU).offs (List.mem_cons_self ..))
        have u6 : upd H5 U (.tup [.int (i : Nat), .str x]) U = some (.tup [.int (i : Nat), .str x]) := upd_same
        generalize upd H5 U (.tup [.int (i : Nat), .str x]) = H6 at b6 r6 t6 a6 u6 ⊢
        refine ⟨U, _, rfl, SqT.of u6, rfl, _, _, rfl, _, _, rfl, rfl, ?_⟩
        refine ⟨_, rfl, _, rfl, _, _, rfl, rfl, _, rfl, p, _, rfl, SqL.of (b6 _ _ npa hp4), fun S hS => ?_⟩
        have nSa : S ≠ a := (r6.new hS).symm
        have nTS : TL ≠ S := ne_of_none t6 hS
        have ecut : cutV (xs.map V.str) (some ((i : Int) + 1)) none = (xs.drop (i + 1)).map V.str := by
          rw [show ((i : Int) + 1) = ((i + 1 : Nat) : Int) by omega, cut_from, List.map_drop]
        have b7 : But a H4 (upd H6 S (.lst (cutV (xs.map V.str) (some ((i : Int) + 1)) none))) := b6.trans (But.new a hS)
        have r7 : RS (upd H6 S (.lst (cutV (xs.map V.str) (some ((i : Int) + 1)) none))) a := r6.put nSa
        have t7 : upd H6 S (.lst (cutV (xs.map V.str) (some ((i : Int) + 1)) none)) TL = some (.lst acc) := by rw [upd_ne nTS]; exact t6
        have a7 : PF (Off [a, TL] (upd H6 S (.lst (cutV (xs.map V.str) (some ((i : Int) + 1)) none)))) acc ts := a6.up ((But.new a hS).offs (List.mem_cons_self ..))
        have s7 : upd H6 S (.lst (cutV (xs.map V.str) (some ((i : Int) + 1)) none)) S = some (.lst ((xs.drop (i + 1)).map V.str)) := by rw [upd_same, ecut]
        refine ⟨S, rfl, ⟨_, SqL.of s7⟩, for_list (K := K) (a := S) (xs := (xs.drop (i + 1)).map V.str) (fun j σ H8 => ∃ (ts : List Pr) (acc : List V) (v8 : Option V), σ = [some (.ref a), some (.int 8), some (.ref p), some (.ref D), some (.int (1 + (th : Int))), some (.ref TL), some (.int (i : Nat)), some (.str x), v8, none, none] ∧
          But a H4 H8 ∧ RS H8 a ∧ H8 TL = some (.lst acc) ∧ PF (Off [a, TL] H8) acc ts ∧ TieP xs i (i + 1 + j) ts ∧ ts.length ≤ 7 * i + j ∧ H8 S = some (.lst ((xs.drop (i + 1)).map V.str)))
          ⟨ts, acc, _, rfl, b7, r7, t7, a7, p5, l5, s7⟩ (fun j σ H8 _ ⟨_, _, _, _, _, _, _, _, _, _, q⟩ => SqL.of q) ?_ ?_⟩
        · rintro j y0 σ H8 hj ⟨ts, acc, v8, rfl, b8, r8, t8, a8, p8, l8, s8⟩
          rw [List.getElem?_map] at hj
          obtain ⟨y, hy, rfl⟩ := Option.map_eq_some_iff.mp hj
          rw [List.getElem?_drop] at hy
          have hjl := (List.getElem?_eq_some_iff.mp hy).1
          refine ⟨_, rfl, _, rfl, a, 1 + (th : Int), rfl, by omega, by omega, r8, fun d H9 ld9 b89 r9 => ⟨rfl, _, rfl, ?_⟩⟩
          have b9 := b8.trans b89
          have t9 := b89 _ _ nTa t8
          have s9 := b89 _ _ nSa s8
          have a9 := a8.up (b89.offs (L := [a, TL]) (List.mem_cons_self ..))
          by_cases h0 : V.int (d : Nat) = V.int 0
          · refine iteB (decide_eq_true h0) ?_
            refine ⟨_, rfl, .inl ⟨rfl, _, SqL.of t9⟩, _, rfl, _, rfl, (by show 2 ≤ sizeLine; decide), fun q1 o1 do1 hq1 => ?_⟩
            refine ⟨_, rfl, _, rfl, (by show 2 ≤ sizeLine; decide), fun q2 o2 do2 hq2 => ?_⟩
            refine ⟨(by show 2 ≤ sizeLine; decide), fun q3 hq3 => ?_⟩
            have c1 : But a H9 (upd (upd (upd H9 q1 (.frz o1 (.tup [.str x, .str y]))) q2 (.frz o2 (.tup [.str y, .str x]))) q3 (.lst [.ref q1, .ref q2])) := ((But.new a hq1).trans (But.new a hq2)).trans (But.new a hq3)
            have n1a : q1 ≠ a := (r9.new hq1).symm
            have r91 := r9.put (o := .frz o1 (.tup [.str x, .str y])) n1a
            have n2a : q2 ≠ a := (r91.new hq2).symm
            have r92 := r91.put (o := .frz o2 (.tup [.str y, .str x])) n2a
            have n3a : q3 ≠ a := (r92.new hq3).symm
            have r93 := r92.put (o := .lst [.ref q1, .ref q2]) n3a
            have g12 : q1 ≠ q2 := ne_of_none (upd_same (H := H9) (a := q1) (o := .frz o1 (.tup [.str x, .str y]))) hq2
            have h1 : upd (upd H9 q1 (.frz o1 (.tup [.str x, .str y]))) q2 (.frz o2 (.tup [.str y, .str x])) q1 = some (.frz o1 (.tup [.str x, .str y])) := by rw [upd_ne g12, upd_same]
            have h2 : upd (upd H9 q1 (.frz o1 (.tup [.str x, .str y]))) q2 (.frz o2 (.tup [.str y, .str x])) q2 = some (.frz o2 (.tup [.str y, .str x])) := upd_same
            have h1' : upd (upd (upd H9 q1 (.frz o1 (.tup [.str x, .str y]))) q2 (.frz o2 (.tup [.str y, .str x]))) q3 (.lst [.ref q1, .ref q2]) q1 = some (.frz o1 (.tup [.str x, .str y])) := by rw [upd_ne (ne_of_none h1 hq3)]; exact h1
            have h2' : upd (upd (upd H9 q1 (.frz o1 (.tup [.str x, .str y]))) q2 (.frz o2 (.tup [.str y, .str x]))) q3 (.lst [.ref q1, .ref q2]) q2 = some (.frz o2 (.tup [.str y, .str x])) := by rw [upd_ne (ne_of_none h2 hq3)]; exact h2
            have h3' : upd (upd (upd H9 q1 (.frz o1 (.tup [.str x, .str y]))) q2 (.frz o2 (.tup [.str y, .str x]))) q3 (.lst [.ref q1, .ref q2]) q3 = some (.lst [.ref q1, .ref q2]) := upd_same
            generalize upd (upd (upd H9 q1 (.frz o1 (.tup [.str x, .str y]))) q2 (.frz o2 (.tup [.str y, .str x]))) q3 (.lst [.ref q1, .ref q2]) = HA at c1 r93 h1' h2' h3' ⊢
            refine ⟨_, rfl, a, 2, rfl, by decide, by decide, r93, fun e HB le cB rB => ?_⟩
            have b9B := c1.trans cB
            have bB := b9.trans b9B
            have tB := b9B _ _ nTa t9
            have sB := b9B _ _ nSa s9
            have aB := a9.up (b9B.offs (L := [a, TL]) (List.mem_cons_self ..))
            obtain ⟨z, ez, hz⟩ := at_two (u := V.ref q1) (v := V.ref q2) le
            obtain ⟨q, ob, t, rfl, hq, ht⟩ : ∃ (q : Addr) (ob : Obj) (t : Pr), z = V.ref q ∧ (HB q = some (.frz ob (.tup [.str t.1, .str t.2])) ∧ q ≠ a ∧ ob.dict = none) ∧ (t = (x, y) ∨ t = (y, x)) := by
              rcases hz with rfl | rfl
              · exact ⟨q1, o1, (x, y), rfl, ⟨cB _ _ n1a h1', n1a, do1⟩, .inl rfl⟩
              · exact ⟨q2, o2, (y, x), rfl, ⟨cB _ _ n2a h2', n2a, do2⟩, .inr rfl⟩
            have nqT : q ≠ TL := fun c => by
              have := hq.1
              rw [c, tB] at this
              cases this
            have lacc : acc.length ≤ 1000 := by
              rw [aB.len]
              omega
            refine ⟨q3, _, _, _, rfl, rfl, SqL.of (cB _ _ n3a h3'), ez, TL, _, _, rfl, rfl, tB, small1000 lacc, ?_⟩
            refine ⟨ts ++ [t], acc ++ [.ref q], _, rfl, ?_, rB.put nTa, upd_same, ?_, ?_, ?_, ?_⟩
            · intro b o nb hb
              rw [upd_ne (ne_of_none hb hTL)]
              exact bB _ _ nb hb
            · rw [off_put (List.mem_cons_of_mem _ (List.mem_cons_self ..))]
              refine aB.snoc ⟨q, ob, rfl, hq.2.2, ?_⟩
              rw [off_out (by simp [hq.2.1, nqT])]
              exact hq.1
            · exact p8.put ndx hx hy (by omega) ht
            · rw [List.length_append]
              show ts.length + 1 ≤ 7 * i + (j + 1)
              omega
            · rw [upd_ne nTS.symm]
              exact sB
          · refine iteC (decide_eq_false h0) ?_
            exact ⟨ts, acc, _, rfl, b9, r9, t9, a9, p8.skip, by omega, s9⟩
        · rintro σ H8 ⟨ts, acc, v8, rfl, b8, r8, t8, a8, p8, l8, s8⟩
          refine ⟨ts, acc, _, _, _, rfl, b8, r8, t8, a8, p8.next, ?_⟩
          rw [List.length_map, List.length_drop] at l8
          omega
      · rintro σ H5 ⟨ts, acc, v6, v7, v8, rfl, b45, r5, t5, a5, p5, l5⟩
        rw [List.length_map] at l5
        have b5 := b4.trans b45
        have dt5 := dt4.up (b45.offs (L := [a]) (List.mem_cons_self ..))
        obtain ⟨ys, hys, dys⟩ := dt5.list_inv
        rw [off_out (by simp [nDa])] at hys
        have hly : ys.length = xs.length := by rw [dys.len, List.length_map, ← List.length_map (f := (·.1)) (as := hs0), e1]
        refine ⟨_, rfl, _, rfl, D, _, rfl, .inl (SqL.of hys), a, (ys.length : Nat), rfl, by omega, by omega, r5, fun tn H6 ltn b56 r6 => ?_⟩
        have y6 := b56 _ _ nDa hys
        have t6 := b56 _ _ nTa t5
        refine ⟨_, rfl, _, rfl, _, rfl, D, _, rfl, SqL.of y6, fun q1 hq1 => ?_⟩
        have n1a : q1 ≠ a := (r6.new hq1).symm
        refine ⟨_, rfl, _, rfl, _, rfl, D, _, rfl, SqL.of (by rw [upd_ne (ne_of_none y6 hq1)]; exact y6), fun q2 hq2 => ?_⟩
        have r7 := r6.put (o := .lst (cutV ys (some (tn : Int)) none)) n1a
        have n2a : q2 ≠ a := (r7.new hq2).symm
        have r8 := r7.put (o := .lst (cutV ys none (some (tn : Int)))) n2a
        have g12 : q1 ≠ q2 := ne_of_none upd_same hq2
        refine ⟨q1, q2, _, _, rfl, rfl, by rw [upd_ne g12, upd_same], upd_same, ?_, fun q3 hq3 => ?_⟩
        · have z1 := cutV_length ys (some (tn : Int)) none
          have z2 := cutV_length ys none (some (tn : Int))
          exact Nat.le_of_lt (small1000 (by omega))
        have n3a : q3 ≠ a := (r8.new hq3).symm
        have r9 := r8.put (o := .lst (cutV ys (some (tn : Int)) none ++ cutV ys none (some (tn : Int)))) n3a
        have c69 := ((But.new a (o := .lst (cutV ys (some (tn : Int)) none)) hq1).trans (But.new a (o := .lst (cutV ys none (some (tn : Int)))) hq2)).trans (But.new a (o := .lst (cutV ys (some (tn : Int)) none ++ cutV ys none (some (tn : Int)))) hq3)
        have h3 : upd (upd (upd H6 q1 (.lst (cutV ys (some (tn : Int)) none))) q2 (.lst (cutV ys none (some (tn : Int))))) q3 (.lst (cutV ys (some (tn : Int)) none ++ cutV ys none (some (tn : Int)))) q3 = some (.lst (ys.drop tn ++ ys.take tn)) := by rw [upd_same, cut_from, cut_to]
        generalize upd (upd (upd H6 q1 (.lst (cutV ys (some (tn : Int)) none))) q2 (.lst (cutV ys none (some (tn : Int))))) q3 (.lst (cutV ys (some (tn : Int)) none ++ cutV ys none (some (tn : Int)))) = H9 at r9 c69 h3 ⊢
        refine ⟨_, rfl, (by show 2 ≤ sizeLine; decide), fun t ht => ?_⟩
        have nta : t ≠ a := (r9.new ht).symm
        have pm : (hs0.drop tn ++ hs0.take tn).Perm hs0 := List.perm_append_comm.trans (by rw [List.take_append_drop])
        have pmx : ((hs0.drop tn ++ hs0.take tn).map (·.1)).Perm xs := by rw [← e1]; exact pm.map _
        have c5 := (b56.trans c69).trans (But.new a (o := .tup [.ref q3, .ref TL]) ht)
        have hlen : hs0.length = xs.length := by rw [← e1, List.length_map]
        refine k (hs0.drop tn ++ hs0.take tn) ts _ t q3 TL (b5.trans c5) (r9.put nta) upd_same (by rw [upd_ne (ne_of_none h3 ht), h3]; intro z; cases z) nta ?_ ?_ ?_ ?_
        · refine .lst (xs := ys.drop tn ++ ys.take tn) ?_ ?_
          · rw [off_out (by simp [n3a]), upd_ne (ne_of_none h3 ht)]
            exact h3
          · rw [List.map_append, List.map_drop, List.map_take]
            have z := dys.up (c5.offs (L := [a]) (List.mem_cons_self ..))
            exact (z.drop tn).app (z.take tn)
        · refine ⟨acc, ?_, ((a5.up (c5.offs (L := [a, TL]) (List.mem_cons_self ..))).up (off_mono fun b m => by rw [List.mem_singleton.mp m]; exact List.mem_cons_self ..))⟩
          rw [off_out (by simp [nTa])]
          exact c5 _ _ nTa t5
        · refine ⟨by rw [pm.length_eq]; omega, by rw [pm.length_eq]; omega, fun h mh => ?_, pmx.nodup_iff.mpr ndx⟩
          have m0 := pm.mem_iff.mp mh
          exact ⟨nmx h.1 (by rw [← e1]; exact List.mem_map.mpr ⟨h, m0, rfl⟩), e2 h m0⟩
        · exact p5.ok ndx pmx (by omega)
end
end Kp
namespace Kp
open PySem PySem.Spec PyProof.Rows L2
theorem off_get {L : List Addr} {H : Hp} {b : Addr} {o : HO} (h : Off L H b = some o) : ¬ b ∈ L ∧ H b = some o := by
  by_cases hb : b ∈ L
  · rw [off_in hb] at h
    cases h
  · rw [off_out hb] at h
    exact ⟨hb, h⟩
theorem off_one {a : Addr} {H : Hp} {b : Addr} {o : HO} (h : Off [a] H b = some o) : b ≠ a ∧ H b = some o := by
  obtain ⟨n, e⟩ := off_get h
  exact ⟨fun z => n (by rw [z]; exact List.mem_cons_self ..), e⟩
theorem off_set {b : Addr} {L : List Addr} {H : Hp} {o : HO} (h : H b = some o) (n : ¬ b ∈ L) : Off L H b = some o := by
  rw [off_out n]
  exact h
section
variable {J : It} {n : Nat} {G : Hp → Prop} {Y : Nat → Hp → V → Hp → Prop} {g : TG} {tt : TT} {te : TE} {vs : List Nat} {σ : L2.St} {H1 : Hp} {D : Addr} {Qd : Hp → Prop}
theorem lc_dataL (w : Walk J n G Y) (a : Addr) (L : List Addr) (hL : a ∈ L) (hn : ∀ b, b ∈ L → H1 b ≠ none) (Pi : Nat → List PyData → Prop) (hz : n < sizeLine) (hD : H1 D = none) (r0 : RS H1 a) (hG : ∀ H, But a H1 H → G H) (p0 : Pi 0 [])
    (hs : ∀ (i : Nat) (x : V) (ds : List PyData) (H H' : Hp) (N : Hp → Prop) (R : VK), i < n → Pi i ds → But a H1 H → RS H a → H D ≠ none → Y i H x H' → (∀ H'', But a H H'' → RS H'' a → Pi (i + 1) ds → N H'') →
      (∀ z d H'', But a H H'' → RS H'' a → Dt (Off (D :: L) H'') z d → Pi (i + 1) (ds ++ [d]) → R z H'') → g x (wipe σ vs) H' fun σ2 H2 => wipe σ2 vs = wipe σ vs ∧ tt σ2 H2 fun b H3 => if b = true then te σ2 H3 R else N H3)
    (hd : ∀ H' ds, But a H1 H' → RS H' a → Pi n ds → Dt (Off L H') (.ref D) (.list ds) → Qd H') :
    ∃ W : Nat → Nat → Hp → Prop, (∃ m, W 0 m (upd H1 D (.lst []))) ∧ ∀ i m H, W i m H →
      (J.stop i H ∧ Qd H) ∨ (J.go i H ∧ ∃ Nx : Hp → Prop, (∀ H', Nx H' → ∃ m', m' < m ∧ W (i + 1) m' H') ∧ ∀ x H', J.yld i H x H' → g x (wipe σ vs) H' fun σ2 H2 => wipe σ2 vs = wipe σ vs ∧ tt σ2 H2 fun b H3 =>
        if b = true then te σ2 H3 fun y H4 => ∃ acc, H4 D = some (.lst acc) ∧ acc.length < sizeLine ∧ Nx (upd H4 D (.lst (acc ++ [y]))) else Nx H3) := by
  have nDa : D ≠ a := (r0.new hD).symm
  refine lc_it (tt := tt) w (fun i H => But a H1 H ∧ RS H a ∧ ∃ acc ds, H D = some (.lst acc) ∧ DtAll (Off (D :: L) H) acc ds ∧ Pi i ds ∧ ds.length ≤ i) ?_ (fun i H _ p => hG H p.1) ?_ ?_
  · exact ⟨But.new a hD, r0.put nDa, [], [], upd_same, .nil, p0, Nat.le_refl _⟩
  · rintro i x H H' hi ⟨b1, r1, acc, ds, hacc, dp, pi, ln⟩ y
    refine hs i x ds H H' _ _ hi pi b1 r1 (by rw [hacc]; intro z; cases z) y (fun H3 b3 r3 p3 => ?_) (fun z d H4 b4 r4 q4 p4 => ?_)
    · exact ⟨b1.trans b3, r3, acc, ds, b3 _ _ nDa hacc, dp.up (b3.offs (List.mem_cons_of_mem _ hL)), p3, by omega⟩
    · have e4 := b4 _ _ nDa hacc
      refine ⟨acc, e4, by rw [dp.len]; omega, ?_, r4.put nDa, acc ++ [z], ds ++ [d], upd_same, ?_, p4, by rw [List.length_append]; show ds.length + 1 ≤ i + 1; omega⟩
      · intro b o nb hb
        rw [upd_ne (ne_of_none hb hD)]
        exact b4 _ _ nb (b1 _ _ nb hb)
      · rw [off_put (List.mem_cons_self ..)]
        exact (dp.up (b4.offs (List.mem_cons_of_mem _ hL))).snoc q4
  · rintro H ⟨b1, r1, acc, ds, hacc, dp, pi, ln⟩
    refine hd H ds b1 r1 pi (.lst ?_ (dp.up (off_mono fun b m => List.mem_cons_of_mem _ m)))
    rw [off_out fun m => hn D m hD]
    exact hacc
end
def spWaysD : Sp := fun vs H Q _ => ∃ (a lt : Addr) (L : List Addr) (hs : List (Str × Int)) (ts : List Pr), vs = [.ref a, .ref lt] ∧ RS H a ∧ a ∈ L ∧ (∀ b, b ∈ L → H b ≠ none) ∧ Dt (Off L H) (.ref lt) (dPs ts) ∧ TiesOk hs ts ∧ ∀ v (o : Option (List Pr)) H', But a H H' → RS H' a → Dt (Off L H') v (dW o) → WaysOk ts o → Q v H'
section
variable {P : Program} {w : World} {K : PySem.W.Frag} {mg : Str → Option Value} {base : Heap}
theorem scWaysD : FnScope ["_law_state", "_law_ties", "_law_some", "_law_tie"] ["_law_state", "_law_ties"] (defScope (top 42)) := ⟨rfl, rfl, rfl, by decide +kernel, rfl, by decide +kernel, by decide +kernel⟩
theorem ok_waysD {f : Addr} {fd : FuncData} (F : FnP K "_law_ways" "_law_ways" (top 42) f fd) (T : Txt K mg) (GD : Gn P w K mg base CX0 1 "_law_digit" ["_law_state", "_law_base"] spDigit) :
    FnOk P w K mg base CX0 2 f fd ["_law_state", "_law_ties"] spWaysD := by
  refine def_ok F scWaysD (fun vs H Q E h => ?_) (fun cdv A outer s H vs Q E hr h => ?_)
  · obtain ⟨a, lt, L, hs, ts, rfl, _⟩ := h
    rfl
  · obtain ⟨a, lt, L, hs, ts, rfl, rs, hL, hn, dt, okt, k⟩ := h
    refine ⟨_, pss_cons (ps_if (pt_cmpR op_gt (pe_g GD hr (pa_cons (pv 0) (pa_cons pe_int pa_nil)) pass0) pe_int (nomark _)) (pss_one (ps_ret pe_non)) pss_nil)
      (pss_cons (ps_setLc (i := 2) (own := [("_law_tie", 3)]) (g := gName 3) rfl scWaysD.nd rfl rfl (sw_true rfl rfl rfl (by decide +kernel)) (pi_list (pv 1))
        (blkOk_by (N := ["_law_state", "_law_ties", "_law_some", "_law_tie"]) (sc := defScope (top 42)) (by decide +kernel)) (fun _ _ _ _ _ => pg_name (i := 3) scWaysD.nd rfl (Or.inl rfl)) (fun _ _ _ _ _ => pts_one (pt_cmpR op_eq (pe_g GD hr (pa_cons (pv 0) (pa_cons pe_int pa_nil)) pass0) pe_int (nomark _)))
        (fun _ _ _ _ _ => pv 3))
      (pss_one (ps_ret (pe_lc (own := [("_law_tie", 3)]) (g := gName 3) (tt := tYes) rfl scWaysD.nd (pi_list (pv 2))
        (blkOk_by (N := ["_law_state", "_law_ties", "_law_some", "_law_tie"]) (sc := defScope (top 42)) (by decide +kernel)) (fun _ _ _ _ _ => pg_name (i := 3) scWaysD.nd rfl (Or.inl rfl)) (fun _ _ _ _ _ => pts_nil)
        (fun _ _ _ _ _ => pe_ix (r := rIxL K) ix_list (pe_lst (pa_cons (pv 3) (pa_cons (show PE _ _ (tRev2 K (tVar 3)) from pe_rev2 (pv 3)) pa_nil))) (pe_g GD hr (pa_cons (pv 0) (pa_cons pe_int pa_nil)) pass0) (fun _ _ => rfl)))))), ?_⟩
    refine ⟨_, rfl, a, 3, rfl, by decide, by decide, rs, fun d H1 ld b1 r1 => ⟨_, _, rfl, rfl, _, rfl, ?_⟩⟩
    by_cases h0 : (0 : Int) < d
    · exact iteB (decide_eq_true h0) (k .non none H1 b1 r1 .non trivial)
    refine iteC (decide_eq_false h0) ?_
    have keepN : ∀ {H2 : Hp}, But a H H2 → RS H2 a → ∀ b, b ∈ L → H2 b ≠ none := fun {H2} b2 r2 b m => by
      by_cases hb : b = a
      · obtain ⟨o, e⟩ := r2.some
        rw [hb, e]
        exact fun z => nomatch z
      · cases e : H b with
        | none => exact absurd e (hn b m)
        | some o =>
          rw [b2 _ _ hb e]
          exact fun z => nomatch z
    have dt1 := dt.up (b1.offs (L := L) hL)
    obtain ⟨xs, hl, dx⟩ := dt1.list_inv
    obtain ⟨nlL, hl⟩ := off_get hl
    have nla : lt ≠ a := fun z => nlL (by rw [z]; exact hL)
    have hlx : xs.length = ts.length := by rw [dx.len, List.length_map]
    have h64 := okt.len
    refine ⟨_, rfl, lt, rfl, ⟨_, SqL.of hl⟩, fun D hD => ?_⟩
    have nDa : D ≠ a := (r1.new hD).symm
    refine lc_dataL (walk_list (xs := xs)) a L hL (keepN b1 r1) (fun i ds => ∃ us : List Pr, ds = us.map dP ∧ us.Sublist (ts.take i)) (small1000 (by omega)) hD r1 (fun H3 b3 => SqL.of (b3 _ _ nla hl)) ⟨[], rfl, List.nil_sublist _⟩ ?_ ?_
    · rintro i v ds H3 H4 N R hi ⟨us, rfl, e1⟩ b3 r3 nD ⟨rfl, hv⟩ kN kR
      have hv : xs[i]? = some v := hv
      obtain ⟨d2, e2, dv⟩ := dx.get hv
      obtain ⟨t, e3, rfl⟩ := at_map e2
      obtain ⟨q, oq, rfl, hq, po⟩ := dt_pr dv
      obtain ⟨nqL, hq⟩ := off_get hq
      have nqa : q ≠ a := fun z => nqL (by rw [z]; exact hL)
      have nqD : q ≠ D := ne_of_none hq hD
      refine ⟨rfl, _, rfl, a, 2, rfl, by decide, by decide, r3, fun e H5 le b5 r5 => ⟨rfl, _, rfl, ?_⟩⟩
      have hsn : (us ++ [t]).Sublist (ts.take (i + 1)) := by
        rw [take_snoc e3]
        exact e1.append (List.Sublist.refl _)
      by_cases z : V.int (e : Nat) = V.int 0
      · refine iteB (decide_eq_true z) ?_
        refine ⟨_, rfl, kR _ (dP t) _ b5 r5 (dt_prO (off_set (b5 _ _ nqa (b3 _ _ nqa hq)) (by simp [nqL, nqD])) po) ⟨us ++ [t], by rw [List.map_append]; rfl, hsn⟩⟩
      · refine iteC (decide_eq_false z) ?_
        exact kN _ b5 r5 ⟨us, rfl, (List.sublist_append_left us [t]).trans hsn⟩
    · rintro H3 ds b13 r3 ⟨us, rfl, e1⟩ du
      rw [hlx, List.take_length] at e1
      obtain ⟨ys, hy, dy⟩ := du.list_inv
      obtain ⟨_, hy⟩ := off_get hy
      have hly : ys.length = us.length := by rw [dy.len, List.length_map]
      have lus := e1.length_le
      refine ⟨_, rfl, D, rfl, ⟨_, SqL.of hy⟩, fun D2 hD2 => ?_⟩
      have nD2a : D2 ≠ a := (r3.new hD2).symm
      refine lc_dataL (walk_list (xs := ys)) a L hL (keepN (b1.trans b13) r3) (fun i ds => ∃ ws : List Pr, ds = ws.map dP ∧ ws.map sP = (us.take i).map sP ∧ ∀ x ∈ ws, x ∈ us ∨ sw x ∈ us) (small1000 (by omega)) hD2 r3 (fun H4 b4 => SqL.of (b4 _ _ nDa hy)) ⟨[], rfl, rfl, fun _ m => nomatch m⟩ ?_ ?_
      · rintro i v ds H4 H5 N R hi ⟨ws, rfl, e2, m2⟩ b4 r4 nD ⟨rfl, hv⟩ kN kR
        have hv : ys[i]? = some v := hv
        obtain ⟨d2, f2, dv⟩ := dy.get hv
        obtain ⟨t, f3, rfl⟩ := at_map f2
        obtain ⟨q, oq, rfl, hq, po⟩ := dt_pr dv
        obtain ⟨nqL, hq⟩ := off_get hq
        have nqa : q ≠ a := fun z => nqL (by rw [z]; exact hL)
        have nqD : q ≠ D2 := ne_of_none hq hD2
        have hq4 := b4 _ _ nqa hq
        refine ⟨rfl, yes_it ?_⟩
        refine ⟨_, rfl, _, rfl, q, _, _, rfl, po.sq hq4, fun z1 hz1 => ?_⟩
        have n1a : z1 ≠ a := (r4.new hz1).symm
        have b5 := But.new a (o := .tup [.str t.2, .str t.1]) hz1
        have r5 := r4.put (o := .tup [.str t.2, .str t.1]) n1a
        refine ⟨(by show 2 ≤ sizeLine; decide), fun z2 hz2 => ?_⟩
        have n2a : z2 ≠ a := (r5.new hz2).symm
        have b6 := b5.trans (But.new a (o := .lst [.ref q, .ref z1]) hz2)
        have r6 := r5.put (o := .lst [.ref q, .ref z1]) n2a
        have g12 : z1 ≠ z2 := ne_of_none upd_same hz2
        refine ⟨_, rfl, a, 2, rfl, by decide, by decide, r6, fun e H6 le b7 r7 => ?_⟩
        obtain ⟨z, ez, hz⟩ := at_two (u := V.ref q) (v := V.ref z1) le
        refine ⟨z2, _, _, _, rfl, rfl, SqL.of (b7 _ _ n2a upd_same), ez, ?_⟩
        have bAll := b6.trans b7
        have hD4 : ∃ o, H5 D2 = some o := by
          cases c : H5 D2 with
          | none => exact absurd c nD
          | some o => exact ⟨o, rfl⟩
        obtain ⟨o2, ho2⟩ := hD4
        obtain ⟨qq, oo, t2, rfl, po2, hqq, ht2⟩ : ∃ (qq : Addr) (oo : HO) (t2 : Pr), z = V.ref qq ∧ PrO oo t2.1 t2.2 ∧ (H6 qq = some oo ∧ ¬ qq ∈ L ∧ qq ≠ D2) ∧ (t2 = t ∨ t2 = sw t) := by
          rcases hz with rfl | rfl
          · exact ⟨q, _, t, rfl, po, ⟨bAll _ _ nqa hq4, nqL, nqD⟩, .inl rfl⟩
          · refine ⟨z1, .tup [.str t.2, .str t.1], sw t, rfl, .tup, ⟨b7 _ _ n1a ?_, (fun m => keepN ((b1.trans b13).trans b4) r4 z1 m hz1), ?_⟩, .inr rfl⟩
            · rw [upd_ne g12, upd_same]
            · exact fun c => by
                rw [c, ho2] at hz1
                cases hz1
        refine kR _ (dP t2) _ bAll r7 (dt_prO (off_set hqq.1 (by simp [hqq.2.1, hqq.2.2])) po2) ⟨ws ++ [t2], by rw [List.map_append]; rfl, ?_, fun x hx => ?_⟩
        · rw [List.map_append, e2, take_snoc f3, List.map_append]
          rcases ht2 with rfl | rfl
          · rfl
          · show _ ++ [sP (sw t)] = _ ++ [sP t]
            rw [sP_sw]
        · rcases List.mem_append.mp hx with m | m
          · exact m2 x m
          · rw [List.mem_singleton.mp m]
            have mt := List.mem_of_getElem? f3
            rcases ht2 with rfl | rfl
            · exact .inl mt
            · exact .inr mt
      · rintro H4 ds b34 r4 ⟨ws, rfl, e2, m2⟩ dw
        rw [hly, List.take_length] at e2
        have lw : ws.length = us.length := by
          have z := congrArg List.length e2
          rw [List.length_map, List.length_map] at z
          exact z
        refine k _ (some ws) _ (b1.trans (b13.trans b34)) r4 dw ⟨fun u mu => ?_, ?_, by omega⟩
        · have mem : ∀ t ∈ us, tied ts t.1 t.2 = true := fun t mt => by
            unfold tied
            rw [decide_eq_true (show (t.1, t.2) ∈ ts from e1.subset mt)]
            rfl
          rcases m2 u mu with m | m
          · exact mem u m
          · rw [tied_sw]
            exact mem _ m
        · rw [e2]
          exact (e1.map sP).nodup okt.nd
end
end Kp
namespace Kp
open PySem PySem.Spec PyProof.Rows L2
theorem off_more {L : List Addr} {a D : Addr} {H : Hp} (h : H D = none) (hL : L = [a] := by rfl) : Same (Off L H) (Off [a, D] H) := fun b o e => by
  subst hL
  obtain ⟨n, e⟩ := off_one e
  exact off_set e (by simp [n, ne_of_none e h])
def spPiecesD : Sp := fun vs H Q _ => ∃ (a lt : Addr) (hs : List (Str × Int)) (ts : List Pr), vs = [.ref a, .ref lt, .int 30] ∧ RS H a ∧ Dt (Off [a] H) (.ref lt) (dPs ts) ∧ TiesOk hs ts ∧
  ∀ (cs : List Pc) l H', But a H H' → RS H' a → Dt (Off [a] H') (.ref l) (dCs cs) → PiecesOk ts cs → Q (.ref l) H'
def spStandD : Sp := fun vs H Q _ => ∃ (a lp lh : Addr) (hs : List (Str × Int)) (ts : List Pr) (cs : List Pc), vs = [.ref a, .ref lp, .ref lh] ∧ RS H a ∧ Dt (Off [a] H) (.ref lp) (dCs cs) ∧ Dt (Off [a] H) (.ref lh) (dHs hs) ∧ HandsOk hs ∧ PiecesOk ts cs ∧
  ∀ (st : Std) d H', But a H H' → RS H' a → H d = none → H' d = some (.dK (stK st)) → StOk hs cs st → Q (.ref d) H'
section
variable {P : Program} {w : World} {K : PySem.W.Frag} {mg : Str → Option Value} {base : Heap}
theorem scPiecesD : FnScope ["_law_state", "_law_ties", "_law_most", "_law_pieces_here", "_law_name", "_law_weight", "_law_turn"] ["_law_state", "_law_ties", "_law_most"] (defScope (top 43)) := ⟨rfl, rfl, rfl, by decide +kernel, rfl, by decide +kernel, by decide +kernel⟩
theorem ok_piecesD {f : Addr} {fd : FuncData} (F : FnP K "_law_pieces" "_law_pieces" (top 43) f fd) (T : Txt K mg) (GD : Gn P w K mg base CX0 1 "_law_digit" ["_law_state", "_law_base"] spDigit) (GN : Gn P w K mg base CX0 2 "_law_names" ["_law_state", "_law_many"] spDrawn)
    (GW : Gn P w K mg base CX0 2 "_law_ways" ["_law_state", "_law_ties"] spWaysD) : FnOk P w K mg base CX0 3 f fd ["_law_state", "_law_ties", "_law_most"] spPiecesD := by
  refine def_ok F scPiecesD (fun vs H Q E h => ?_) (fun cdv A outer s H vs Q E hr h => ?_)
  · obtain ⟨a, lt, hs, ts, rfl, _⟩ := h
    rfl
  · obtain ⟨a, lt, hs, ts, rfl, rs, dt, okt, k⟩ := h
    refine ⟨_, pss_cons (ps_set (i := 3) scPiecesD.nd rfl (Or.inl rfl) (pe_lst pa_nil))
      (pss_cons (ps_for PassesOwn.never rfl (pi_list (pe_g GN hr (pa_cons (pv 0) (pa_cons (pe_g GD hr (pa_cons (pv 0) (pa_cons (pe_op op_add (pv 2) pe_int) pa_nil)) pass0) pa_nil)) pass0)) (pg_name (i := 4) scPiecesD.nd rfl (Or.inl rfl))
        (pss_cons (ps_set (i := 5) scPiecesD.nd rfl (Or.inl rfl) (pe_op op_add pe_int (pe_g GD hr (pa_cons (pv 0) (pa_cons (pe_ix ix_list (pe_lst (pa_cons pe_int (pa_cons pe_int (pa_cons (pe_op op_pow pe_int pe_int) pa_nil)))) (pe_g GD hr (pa_cons (pv 0) (pa_cons pe_int pa_nil)) pass0) (fun _ _ => rfl)) pa_nil)) pass0)))
        (pss_one (ps_expr (pe_bm PySem.F.plainAttrs_list PySem.F.slot_list_append PySem.F.type_list_append mt_append (pv 3) (pa_cons (pe_tup (pa_cons (pv 4) (pa_cons (pv 5) (pa_cons (pe_g GW hr (pa_cons (pv 0) (pa_cons (pv 1) pa_nil)) pass0) pa_nil)))) pa_nil))))))
      (pss_cons (ps_set (i := 6) scPiecesD.nd rfl (Or.inl rfl) (pe_g GD hr (pa_cons (pv 0) (pa_cons (pe_op op_add (pe_callB call_len_seq (by rfl) (T.free 37) PySem.boot_len (pa_cons (pv 3) pa_nil)) pe_int) pa_nil)) pass0))
      (pss_one (ps_ret (pe_op op_cat (pe_slice sl_list (pv 3) (po_some (pv 6)) po_none) (pe_slice sl_list (pv 3) po_none (po_some (pv 6)))))))), ?_⟩
    refine ⟨(by show 0 ≤ sizeLine; decide), fun PL hPL => ?_⟩
    have nPa : PL ≠ a := (rs.new hPL).symm
    have b0 := But.new a (o := .lst []) hPL
    have r0 := rs.put (o := .lst []) nPa
    have p0 : upd H PL (.lst []) PL = some (.lst []) := upd_same
    generalize upd H PL (.lst []) = H0 at b0 r0 p0 ⊢
    refine ⟨_, rfl, _, rfl, _, rfl, _, _, rfl, rfl, a, 31, rfl, by decide, by decide, r0, fun d0 H1 ld b01 r1 => ?_⟩
    refine ⟨a, d0, rfl, by omega, r1, fun xs H2 p b12 r2 np hp nok => ?_⟩
    obtain ⟨lx, ndx, nmx⟩ := nok
    have b02 := b01.trans b12
    have p2 := b02 _ _ nPa p0
    have npa : p ≠ a := (r1.new np).symm
    have npP : p ≠ PL := fun c => by
      rw [c, b01 _ _ nPa p0] at np
      cases np
    refine ⟨p, rfl, ⟨_, SqL.of hp⟩, for_list (K := K) (a := p) (xs := xs.map V.str) (fun i σ H5 => ∃ (cs : List Pc) (acc : List V) (v4 v5 : Option V), σ = [some (.ref a), some (.ref lt), some (.int 30), some (.ref PL), v4, v5, none] ∧ But a H H5 ∧ RS H5 a ∧ H5 PL = some (.lst acc) ∧
        DtAll (Off [a, PL] H5) acc (cs.map dC) ∧ cs.map (·.1) = xs.take i ∧ (∀ c ∈ cs, PieceOk ts c) ∧ H5 p = some (.lst (xs.map V.str)))
      ⟨[], [], none, none, rfl, b0.trans b02, r2, p2, .nil, rfl, (fun _ m => nomatch m), hp⟩ (fun i σ H5 _ ⟨_, _, _, _, _, _, _, _, _, _, _, q⟩ => SqL.of q) ?_ ?_⟩
    · rintro i x0 σ H5 hi ⟨cs, acc, v4, v5, rfl, b5, r5, p5, a5, e5, k5, hp5⟩
      rw [List.getElem?_map] at hi
      obtain ⟨x, hx, rfl⟩ := Option.map_eq_some_iff.mp hi
      have hil := (List.getElem?_eq_some_iff.mp hx).1
      refine ⟨_, rfl, _, _, rfl, rfl, ⟨by decide, by decide, by decide⟩, (by show 3 ≤ sizeLine; decide), fun q hq => ?_⟩
      have nqa : q ≠ a := (r5.new hq).symm
      have b6 := But.new a (o := .lst [.int 3, .int 100, .int ((10 : Int) ^ (9 : Int).toNat)]) hq
      have r6 := r5.put (o := .lst [.int 3, .int 100, .int ((10 : Int) ^ (9 : Int).toNat)]) nqa
      have q6 : upd H5 q (.lst [.int 3, .int 100, .int ((10 : Int) ^ (9 : Int).toNat)]) q = some (.lst [.int 3, .int 100, .int 1000000000]) := by rw [upd_same]; rfl
      generalize upd H5 q (.lst [.int 3, .int 100, .int ((10 : Int) ^ (9 : Int).toNat)]) = H6 at b6 r6 q6 ⊢
      refine ⟨_, rfl, a, 3, rfl, by decide, by decide, r6, fun e H7 le b7 r7 => ?_⟩
      obtain ⟨z, ez, hz⟩ := at_three (i := 3) (j := 100) (k := 1000000000) le
      have hz1 : 1 ≤ z ∧ z ≤ 1000000000 := by omega
      refine ⟨q, _, _, _, rfl, rfl, SqL.of (b7 _ _ nqa q6), ez, a, z, rfl, by omega, by omega, r7, fun wd H8 lw b8 r8 => ⟨_, _, rfl, rfl, ?_⟩⟩
      have b58 := (b6.trans b7).trans b8
      have p8 := b58 _ _ nPa p5
      have dt8 := (dt.up (off_more (D := PL) hPL)).up ((b5.trans b58).offs (L := [a, PL]) (List.mem_cons_self ..))
      have nnL : ∀ b, b ∈ [a, PL] → H8 b ≠ none := fun b m => by
        rcases List.mem_cons.mp m with rfl | m
        · obtain ⟨o, e⟩ := r8.some
          rw [e]
          exact fun z => nomatch z
        · rw [List.mem_singleton.mp m, p8]
          exact fun z => nomatch z
      refine ⟨_, rfl, .inl ⟨rfl, _, SqL.of p8⟩, _, rfl, _, rfl, _, rfl, _, rfl, a, lt, [a, PL], hs, ts, rfl, r8, (List.mem_cons_self ..), nnL, dt8, okt, fun v o H9 b9 r9 dv ov => ?_⟩
      refine ⟨(by show 3 ≤ sizeLine; decide), fun t ht => ?_⟩
      have nta : t ≠ a := (r9.new ht).symm
      have p9 := b9 _ _ nPa p8
      have ntP : t ≠ PL := (ne_of_none p9 ht).symm
      have b59 := b58.trans b9
      have a9 := a5.up (b59.offs (L := [a, PL]) (List.mem_cons_self ..))
      have lcs : cs.length = i := by
        have z := congrArg List.length e5
        rw [List.length_map, List.length_take] at z
        omega
      have lacc : acc.length ≤ 1000 := by
        rw [a9.len, List.length_map]
        omega
      have hpt : p ≠ t := fun c => by
        rw [← c, b59 _ _ npa hp5] at ht
        cases ht
      refine ⟨PL, acc, _, rfl, rfl, (by rw [upd_ne ntP.symm]; exact p9), small1000 lacc, ?_⟩
      refine ⟨cs ++ [(x, 1 + (wd : Int), o)], acc ++ [.ref t], _, _, rfl, ?_, (r9.put nta).put nPa, upd_same, ?_, ?_, ?_, ?_⟩
      · intro b u nb hb
        rw [upd_ne (ne_of_none hb hPL)]
        exact (b5.trans (b59.trans (But.new a ht))) b u nb hb
      · rw [off_put (List.mem_cons_of_mem _ (List.mem_cons_self ..)), List.map_append]
        have nt := (But.new a (o := .tup [.str x, .int (1 + (wd : Int)), v]) ht).offs (L := [a, PL]) (List.mem_cons_self ..)
        refine (a9.up nt).snoc (dt_pcM (off_set upd_same (by simp [nta, ntP])) (dv.up nt))
      · rw [List.map_append, e5, take_snoc hx]
        rfl
      · intro c hc
        rcases List.mem_append.mp hc with m | m
        · exact k5 c m
        · rw [List.mem_singleton.mp m]
          exact ⟨nmx x (List.mem_of_getElem? hx), by show 1 ≤ 1 + (wd : Int); omega, by show 1 + (wd : Int) ≤ 1000000000; omega, ov⟩
      · rw [upd_ne npP, upd_ne hpt]
        exact b59 _ _ npa hp5
    · rintro σ H5 ⟨cs, acc, v4, v5, rfl, b5, r5, p5, a5, e5, k5, hp5⟩
      rw [List.length_map, List.take_length] at e5
      have lcs : cs.length = xs.length := by rw [← e5, List.length_map]
      have lacc : acc.length = xs.length := by rw [a5.len, List.length_map, lcs]
      refine ⟨_, rfl, _, rfl, PL, _, rfl, .inl (SqL.of p5), _, _, rfl, rfl, a, (acc.length : Int) + 1, rfl, by omega, by omega, r5, fun tn H6 ltn b56 r6 => ?_⟩
      have y6 := b56 _ _ nPa p5
      refine ⟨_, rfl, _, rfl, _, rfl, PL, _, rfl, SqL.of y6, fun q1 hq1 => ?_⟩
      have n1a : q1 ≠ a := (r6.new hq1).symm
      refine ⟨_, rfl, _, rfl, _, rfl, PL, _, rfl, SqL.of (by rw [upd_ne (ne_of_none y6 hq1)]; exact y6), fun q2 hq2 => ?_⟩
      have r7 := r6.put (o := .lst (cutV acc (some (tn : Int)) none)) n1a
      have n2a : q2 ≠ a := (r7.new hq2).symm
      have r8 := r7.put (o := .lst (cutV acc none (some (tn : Int)))) n2a
      have g12 : q1 ≠ q2 := ne_of_none upd_same hq2
      refine ⟨q1, q2, _, _, rfl, rfl, by rw [upd_ne g12, upd_same], upd_same, ?_, fun q3 hq3 => ?_⟩
      · have z1 := cutV_length acc (some (tn : Int)) none
        have z2 := cutV_length acc none (some (tn : Int))
        exact Nat.le_of_lt (small1000 (by omega))
      have n3a : q3 ≠ a := (r8.new hq3).symm
      have c5 := b56.trans (((But.new a (o := .lst (cutV acc (some (tn : Int)) none)) hq1).trans (But.new a (o := .lst (cutV acc none (some (tn : Int)))) hq2)).trans (But.new a (o := .lst (cutV acc (some (tn : Int)) none ++ cutV acc none (some (tn : Int)))) hq3))
      have pm : (cs.drop tn ++ cs.take tn).Perm cs := List.perm_append_comm.trans (by rw [List.take_append_drop])
      refine k (cs.drop tn ++ cs.take tn) q3 _ (b5.trans c5) (r8.put n3a) ?_ ⟨fun c m => k5 c (pm.mem_iff.mp m), ?_, by rw [pm.length_eq]; omega⟩
      · refine .lst (xs := acc.drop tn ++ acc.take tn) ?_ ?_
        · rw [cut_from, cut_to]
          exact off_set upd_same (by simp [n3a])
        · rw [List.map_append, List.map_drop, List.map_take]
          have z := (a5.up (c5.offs (L := [a, PL]) (List.mem_cons_self ..))).up (off_mono (M := [a]) fun b m => by rw [List.mem_singleton.mp m]; exact List.mem_cons_self ..)
          exact (z.drop tn).app (z.take tn)
      · refine (pm.map (·.1)).nodup_iff.mpr ?_
        rw [e5]
        exact ndx
end
end Kp
namespace Kp
open PySem PySem.Spec PyProof.Rows L2
theorem off_new {H : Hp} {a : Addr} {o : HO} (h : H a = none) : Same H (Off [a] (upd H a o)) := fun b u e => by
  have n := ne_of_none e h
  exact off_set (by rw [upd_ne n]; exact e) (by simp [n])
def spMade (K : PySem.W.Frag) : Sp := fun vs H Q _ => ∃ (l : Addr) (ns : List Int), vs = [.ref l] ∧ SqL K H l (ns.map V.int) ∧ ∀ (hs : List (Str × Int)) (ts : List Pr) (cs : List Pc) H' t lh lt lp g, Same H H' → H' t = some (.tup [.ref lh, .ref lt, .ref lp, .ref g]) → Dt H' (.ref lh) (dHs hs) → TsF H' lt ts →
  Dt H' (.ref lp) (dCs cs) → GoodsAt K H' g hs ts cs → HandsOk hs → Q (.ref t) H'
section
variable {P : Program} {w : World} {K : PySem.W.Frag} {mg : Str → Option Value} {base : Heap}
theorem scStandD : FnScope ["_law_state", "_law_pieces_here", "_law_hands", "_law_stand_here", "_law_piece"] ["_law_state", "_law_pieces_here", "_law_hands"] (defScope (top 44)) := ⟨rfl, rfl, rfl, by decide +kernel, rfl, by decide +kernel, by decide +kernel⟩
theorem ok_standD {f : Addr} {fd : FuncData} (F : FnP K "_law_stand" "_law_stand" (top 44) f fd) (T : Txt K mg) (GD : Gn P w K mg base CX0 1 "_law_digit" ["_law_state", "_law_base"] spDigit) :
    FnOk P w K mg base CX0 2 f fd ["_law_state", "_law_pieces_here", "_law_hands"] spStandD := by
  refine def_ok F scStandD (fun vs H Q E h => ?_) (fun cdv A outer s H vs Q E hr h => ?_)
  · obtain ⟨a, lp, lh, hs, ts, cs, rfl, _⟩ := h
    rfl
  · obtain ⟨a, lp, lh, hs, ts, cs, rfl, rs, dp, dh, okh, okc, k⟩ := h
    have hu := hu_of hr
    refine ⟨_, pss_cons (ps_set (i := 3) scStandD.nd rfl (Or.inl rfl) pe_dnewK)
      (pss_cons (ps_for PassesOwn.never rfl (pi_list (pv 1)) (pg_name (i := 4) scStandD.nd rfl (Or.inl rfl))
        (pss_one (ps_dput hu (pv 3) (pe_ix ix_tup (pv 4) pe_int (fun _ _ => rfl)) (pe_ix ix_tup (pe_ix ix_list (pv 2) (pe_g GD hr (pa_cons (pv 0) (pa_cons (pe_callB call_len_seq (by rfl) (T.free 37) PySem.boot_len (pa_cons (pv 2) pa_nil)) pa_nil)) pass0) (fun _ _ => rfl)) pe_int (fun _ _ => rfl)) rfl)))
      (pss_one (ps_ret (pv 3)))), ?_⟩
    intro d nd
    have nda : d ≠ a := (rs.new nd).symm
    obtain ⟨xs, hx, dx⟩ := dp.list_inv
    obtain ⟨nxa, hx⟩ := off_one hx
    obtain ⟨ys, hy, dy⟩ := dh.list_inv
    obtain ⟨nya, hy⟩ := off_one hy
    have hlx : xs.length = cs.length := by rw [dx.len, List.length_map]
    have hly : ys.length = hs.length := by rw [dy.len, List.length_map]
    have h64 := okc.len
    have hlo := okh.lo
    have hhi := okh.hi
    refine ⟨_, rfl, lp, rfl, ⟨_, SqL.of (by rw [upd_ne (ne_of_none hx nd)]; exact hx)⟩, for_list (K := K) (a := lp) (xs := xs) (fun i σ H5 => ∃ (st : Std) (v4 : Option V), σ = [some (.ref a), some (.ref lp), some (.ref lh), some (.ref d), v4] ∧ But a H H5 ∧ RS H5 a ∧ H5 d = some (.dK (stK st)) ∧
        st.map (·.1) = (cs.take i).map (·.1) ∧ ∀ p ∈ st, p.2 ∈ hs.map (·.1)) ⟨[], none, rfl, But.new a nd, rs.put nda, upd_same, rfl, (fun _ m => nomatch m)⟩ (fun i σ H5 _ ⟨_, _, _, q, _⟩ => SqL.of (q _ _ nxa hx)) ?_ ?_⟩
    · rintro i v σ H5 hi ⟨st, v4, rfl, b5, r5, d5, e5, m5⟩
      obtain ⟨d2, f2, dv⟩ := dx.get hi
      obtain ⟨c, f3, rfl⟩ := at_map f2
      obtain ⟨t, u, rfl, ht, du⟩ := dt_pc dv
      obtain ⟨nta, ht⟩ := off_one ht
      have hil := (List.getElem?_eq_some_iff.mp f3).1
      refine ⟨_, rfl, _, rfl, _, rfl, lh, _, rfl, .inl (SqL.of (b5 _ _ nya hy)), a, (ys.length : Nat), rfl, by omega, by omega, r5, fun e H6 le b6 r6 => ?_⟩
      have b56 := b5.trans b6
      obtain ⟨y, hye⟩ : ∃ y, ys[e]? = some y := ⟨ys[e]'(by omega), List.getElem?_eq_getElem (by omega)⟩
      obtain ⟨d3, g2, dyv⟩ := dy.get hye
      obtain ⟨h, g3, rfl⟩ := at_map g2
      obtain ⟨th, rfl, hth⟩ := dt_hd dyv
      obtain ⟨ntha, hth⟩ := off_one hth
      have at1 : atI ys (e : Int) = some (.ref th) := by
        unfold atI ixN
        rw [if_pos (by omega), if_pos (by omega), Option.bind_some, Int.toNat_natCast, hye]
      refine ⟨lh, _, _, _, rfl, rfl, SqL.of (b56 _ _ nya hy), at1, th, _, 0, _, rfl, rfl, SqT.of (b56 _ _ ntha hth), rfl, ?_⟩
      have lst : (stK st).length = i := by
        have z := congrArg List.length e5
        rw [List.length_map, List.length_map, List.length_take] at z
        unfold stK
        rw [List.length_map]
        omega
      refine ⟨_, rfl, _, rfl, t, _, 0, _, rfl, rfl, SqT.of (b56 _ _ nta ht), rfl, d, _, rfl, DPut.k (k := Sum.inr c.1) (b6 _ _ nda d5) (small1000 (by omega)), ?_⟩
      have fresh : ¬ kk c.1 ∈ (stK st).map (·.1) := by
        rw [stK_keys, e5]
        intro m
        obtain ⟨z, mz, ez⟩ := List.mem_map.mp m
        obtain ⟨c2, mc, rfl⟩ := List.mem_map.mp mz
        have ez := kk_inj ez
        obtain ⟨j, hj, ej⟩ := List.mem_iff_getElem.mp mc
        rw [List.length_take] at hj
        rw [List.getElem_take] at ej
        have h1 : (cs.map (·.1))[j]? = some c.1 := by rw [List.getElem?_map, List.getElem?_eq_getElem (by omega), ej, Option.map_some, ez]
        have h2 : (cs.map (·.1))[i]? = some c.1 := by rw [List.getElem?_map, f3, Option.map_some]
        have := nd_ix okc.nd h1 h2
        omega
      have ep : putK (stK st) (kk c.1) (V.str h.1) = stK (st ++ [(c.1, h.1)]) := by
        rw [putK_new _ (valV_no fresh)]
        unfold stK
        rw [List.map_append]
        rfl
      refine ⟨st ++ [(c.1, h.1)], _, rfl, ?_, r6.put nda, ?_, ?_, fun p mp => ?_⟩
      · intro b o nb hb
        rw [upd_ne (ne_of_none hb nd)]
        exact b56 _ _ nb hb
      · rw [upd_same]
        exact congrArg (fun z => some (HO.dK z)) ep
      · rw [List.map_append, e5, take_snoc f3, List.map_append]
        rfl
      · rcases List.mem_append.mp mp with m | m
        · exact m5 p m
        · rw [List.mem_singleton.mp m]
          exact List.mem_map.mpr ⟨h, List.mem_of_getElem? g3, rfl⟩
    · rintro σ H5 ⟨st, v4, rfl, b5, r5, d5, e5, m5⟩
      rw [hlx, List.take_length] at e5
      exact ⟨_, rfl, k st d _ b5 r5 nd d5 ⟨e5, m5⟩⟩
theorem scMade : FnScope ["_law_script", "_law_hands", "_law_ties", "_law_pieces_here"] ["_law_script"] (defScope (top 45)) := ⟨rfl, rfl, rfl, by decide +kernel, rfl, by decide +kernel, by decide +kernel⟩
theorem ok_made {f : Addr} {fd : FuncData} (F : FnP K "_law_made" "_law_made" (top 45) f fd) (T : Txt K mg) (GC : Gn P w K mg base CX0 1 "_law_cell_at" ["_law_script", "_law_k"] (spCellAt K)) (GW : Gn P w K mg base CX0 3 "_law_web" ["_law_state", "_law_most"] spWebD)
    (GP : Gn P w K mg base CX0 3 "_law_pieces" ["_law_state", "_law_ties", "_law_most"] spPiecesD) (MW : Mn P w K mg base CX0 5 "Web" "__init__" ["self", "hands", "ties"] (spWeb K)) (MG : Mn P w K mg base CX0 6 "Goods" "__init__" ["self", "web", "pieces"] (spGoods K)) :
    FnOk P w K mg base CX0 8 f fd ["_law_script"] (spMade K) := by
  refine def_ok F scMade (fun vs H Q E h => ?_) (fun cdv A outer s H vs Q E hr h => ?_)
  · obtain ⟨l, ns, rfl, _⟩ := h
    rfl
  · obtain ⟨l, ns, rfl, hl, k⟩ := h
    refine ⟨_, pss_cons (ps_asg (pe_g GW hr (pa_cons (pe_lst (pa_cons (pe_g GC hr (pa_cons (pv 0) (pa_cons pe_int pa_nil)) pass0) pa_nil)) (pa_cons pe_int pa_nil)) pass0) (pg_tup rfl (pgs_cons (pg_name (i := 1) scMade.nd rfl (Or.inl rfl)) (pgs_cons (pg_name (i := 2) scMade.nd rfl (Or.inl rfl)) pgs_nil))))
      (pss_cons (ps_set (i := 3) scMade.nd rfl (Or.inl rfl) (pe_g GP hr (pa_cons (pe_lst (pa_cons (pe_g GC hr (pa_cons (pv 0) (pa_cons pe_int pa_nil)) pass0) pa_nil)) (pa_cons (pv 2) (pa_cons pe_int pa_nil))) pass0))
      (pss_one (ps_ret (pe_tup (pa_cons (pv 1) (pa_cons (pv 2) (pa_cons (pv 3) (pa_cons (pe_new (T.mkr 56) MG hr (T.glo 50) (pa_cons (pe_new (T.mkr 55) MW hr (T.glo 49) (pa_cons (pv 1) (pa_cons (pv 2) pa_nil)) pass0) (pa_cons (pv 3) pa_nil)) pass0) pa_nil)))))))), ?_⟩
    refine ⟨_, rfl, l, ns, 0, rfl, hl, fun c0 => ?_⟩
    refine ⟨(by show 1 ≤ sizeLine; decide), fun a na => ?_⟩
    have s0 := same_new (o := .lst [.int c0]) na
    refine ⟨a, rfl, .inl ⟨c0, upd_same⟩, fun hs ts H1 t lh lt b1 r1 ht nlh nta dh dt okh okt => ?_⟩
    have s1 : Same H H1 := fun b o e => b1 b o (ne_of_none e na) (s0 b o e)
    refine ⟨t, _, rfl, SqT.of ht, rfl, _, _, rfl, _, _, rfl, rfl, ?_⟩
    have dh1 := dh.up (off_le [a] H1)
    have tf1 := dt.up (off_le [a] H1)
    have dt1 := tf1.dt
    -- the pieces
    refine ⟨_, rfl, l, ns, 1, rfl, s1.seq hl, fun c1 => ?_⟩
    refine ⟨(by show 1 ≤ sizeLine; decide), fun a2 na2 => ?_⟩
    refine ⟨_, rfl, a2, lt, hs, ts, rfl, .inl ⟨c1, upd_same⟩, dt1.up (off_new na2), okt, fun cs lp H2 b2 r2 dc okc => ?_⟩
    have s12 : Same H1 H2 := fun b o e => b2 b o (ne_of_none e na2) (same_new na2 b o e)
    have dh2 := dh1.up s12
    have tf2 := tf1.up s12
    have dt2 := tf2.dt
    have dc2 := dc.up (off_le [a2] H2)
    refine ⟨_, rfl, _, rfl, _, rfl, _, rfl, _, rfl, fun x dx nx ndx nex => ?_⟩
    have sw : Same H2 (upd (upd H2 dx (.own x)) x (.ins (He.ga K "Web") dx [])) := (same_new ndx).trans (same_new (by rw [upd_ne nex.symm]; exact nx))
    refine ⟨x, dx, lh, lt, hs, ts, rfl, upd_same, dh2.up sw, dt2.up sw, okh, okt, fun H3 b3 wa => ⟨rfl, ?_⟩⟩
    have s23 : Same H2 H3 := fun b o e => b3 b o (ne_of_none e nx) (sw b o e)
    refine ⟨_, rfl, fun g dg ng ndg neg => ?_⟩
    have sg : Same H3 (upd (upd H3 dg (.own g)) g (.ins (He.ga K "Goods") dg [])) := (same_new ndg).trans (same_new (by rw [upd_ne neg.symm]; exact ng))
    obtain ⟨wdx, wd, wl, wus, w1, _⟩ := id wa.ob
    refine ⟨g, dg, x, lp, hs, ts, cs, rfl, upd_same, (ne_of_none w1 ng).symm, wa.up sg, (dc2.up s23).up sg, okc, fun H4 b4 ga => ⟨rfl, ?_⟩⟩
    have s34 : Same H3 H4 := fun b o e => b4 b o (ne_of_none e ng) (sg b o e)
    refine ⟨(by show 4 ≤ sizeLine; decide), fun z nz => ?_⟩
    have s24 := (s23.trans s34).trans (same_new (o := .tup [.ref lh, .ref lt, .ref lp, .ref g]) nz)
    exact k hs ts cs _ z lh lt lp g ((s1.trans s12).trans s24) upd_same (dh2.up s24) (tf2.up s24) (dc2.up s24) (ga.up (same_new nz)) okh
end
end Kp
namespace Kp
open PySem PySem.Spec PyProof.Rows L2
/-- each piece's drawn ways -/
def OwnD (H : Hp) (kvs : List (L2.Key × V)) (cs : List Pc) : Prop := Paired (fun (kv : L2.Key × V) (c : Pc) => kv.1 = kk c.1 ∧ Dt H kv.2 (dW c.2.2)) kvs cs
theorem OwnD.up {H H' : Hp} {kvs : List (L2.Key × V)} {cs : List Pc} (o : OwnD H kvs cs) (s : Same H H') : OwnD H' kvs cs := Paired.mapP o fun _ _ q => ⟨q.1, q.2.up s⟩
theorem OwnD.keys {H : Hp} : ∀ {kvs : List (L2.Key × V)} {cs : List Pc}, OwnD H kvs cs → kvs.map (·.1) = (cs.map (·.1)).map kk
  | _, _, .nil => rfl
  | _, _, .cons q r => by
    rw [List.map_cons, List.map_cons, List.map_cons, q.1, OwnD.keys r]
theorem OwnD.at_ {H : Hp} : ∀ {kvs : List (L2.Key × V)} {cs : List Pc} {x : Str}, OwnD H kvs cs → x ∈ cs.map (·.1) → ∃ z, valV kvs (kk x) = some z ∧ Dt H z (dW (wy cs x))
  | _, _, x, .nil, m => nomatch m
  | _, _, x, .cons (a := kv) (b := c0) (l₁ := kvs) (l₂ := cs) q r, m => by
    by_cases e : c0.1 = x
    · refine ⟨kv.2, valV_pos (by rw [q.1, e]), ?_⟩
      have ew : wy (c0 :: cs) x = c0.2.2 := by
        unfold wy
        rw [List.find?_cons_of_pos (by simpa using e)]
      rw [ew]
      exact q.2
    · have m2 : x ∈ cs.map (·.1) := by
        rcases List.mem_cons.mp m with h | h
        · exact absurd h.symm e
        · exact h
      obtain ⟨z, ez, kz⟩ := OwnD.at_ r m2
      refine ⟨z, ?_, ?_⟩
      · rw [valV_neg fun h => e ?_]
        · exact ez
        · rw [q.1] at h
          exact kk_inj h
      · have ew : wy (c0 :: cs) x = wy cs x := by
          unfold wy
          rw [List.find?_cons_of_neg (by simpa using e)]
        rw [ew]
        exact kz
theorem OwnD.has {H : Hp} {kvs : List (L2.Key × V)} {cs : List Pc} {x : Str} (o : OwnD H kvs cs) : (valV kvs (kk x)).isSome = decide (x ∈ cs.map (·.1)) := by
  by_cases m : x ∈ cs.map (·.1)
  · obtain ⟨z, ez, _⟩ := o.at_ m
    rw [ez, decide_eq_true m]
    rfl
  · rw [decide_eq_false m, valV_no]
    · rfl
    · rw [o.keys]
      intro h
      obtain ⟨y, my, ey⟩ := List.mem_map.mp h
      rw [kk_inj ey] at my
      exact m my
theorem mv_kinds {H : Hp} {v : V} {m : Mv} (dt : Dt H v (dMv m)) : (∃ (t : Addr) (x y z : V), v = .ref t ∧ H t = some (.tup [x, y, z]) ∧ (∀ u ∈ [x, y, z], (∃ x, u = V.str x) ∨ ∃ i, u = V.int i) ∧ ([x, y, z].map isT).all id = m.form) ∨
    (∃ (t : Addr) (o : HO) (xs : List V), v = .ref t ∧ H t = some o ∧ (∀ K : PySem.W.Frag, TyX K H (.ref t) (.type "tuple") ∧ SqT K H t xs) ∧ xs.length ≠ 3 ∧ m.form = false) ∨ ((∃ (l : Addr) (xs : List V), v = .ref l ∧ H l = some (.lst xs)) ∧ m.form = false) ∨ (v = .non ∧ m.form = false) := by
  cases m with
  | ok p a b =>
    obtain ⟨t, e, q⟩ := dt_flat (xs := [p, a, b]) dt
    refine .inl ⟨t, _, _, _, e, q, fun u hu => ?_, rfl⟩
    simp only [List.mem_cons, List.not_mem_nil, or_false] at hu
    rcases hu with rfl | rfl | rfl <;> exact .inl ⟨_, rfl⟩
  | five p a =>
    obtain ⟨t, e, q⟩ := dt_five dt
    refine .inl ⟨t, _, _, _, e, q, fun u hu => ?_, rfl⟩
    simp only [List.mem_cons, List.not_mem_nil, or_false] at hu
    rcases hu with rfl | rfl | rfl
    · exact .inl ⟨_, rfl⟩
    · exact .inl ⟨_, rfl⟩
    · exact .inr ⟨_, rfl⟩
  | two p a =>
    obtain ⟨t, o, e, q, po⟩ := dt_pr (t := (p, a)) dt
    exact .inr (.inl ⟨t, _, _, e, q, fun K => ⟨po.ty q, po.sq q⟩, by show 2 ≠ 3; decide, rfl⟩)
  | four p a b c =>
    obtain ⟨t, e, q⟩ := dt_flat (xs := [p, a, b, c]) dt
    exact .inr (.inl ⟨t, _, _, e, q, fun K => ⟨.base (.tup q), SqT.of q⟩, by show 4 ≠ 3; decide, rfl⟩)
  | lst p a b =>
    obtain ⟨l, xs, e, hl, _⟩ := dt.list_inv'
    exact .inr (.inr (.inl ⟨⟨l, xs, e, hl⟩, rfl⟩))
  | non =>
    cases dt
    exact .inr (.inr (.inr ⟨rfl, rfl⟩))
theorem reason_form {ts : List Pr} {cs : List Pc} {st : Std} {m : Mv} (h : m.form = false) : reason ts cs st m = some "form" := by
  cases m with
  | ok p a b => cases h
  | _ => rfl
theorem form_ok {m : Mv} (h : m.form = true) : ∃ p a b, m = .ok p a b := by
  cases m with
  | ok p a b => exact ⟨p, a, b, rfl⟩
  | _ => cases h
def spLReason : Sp := fun vs H Q _ => ∃ (lt wd d : Addr) (v : V) (hs : List (Str × Int)) (ts : List Pr) (cs : List Pc) (kvs : List (L2.Key × V)) (st : Std) (m : Mv), vs = [.ref lt, .ref wd, .ref d, v] ∧ Dt H (.ref lt) (dPs ts) ∧ HandsOk hs ∧ TiesOk hs ts ∧ PiecesOk ts cs ∧ H wd = some (.dK kvs) ∧ OwnD H kvs cs ∧
  H d = some (.dK (stK st)) ∧ StOk hs cs st ∧ Dt H v (dMv m) ∧ MvOk m ∧ ∀ H', Same H H' → Q (rV (reason ts cs st m)) H'
section
variable {P : Program} {w : World} {K : PySem.W.Frag} {mg : Str → Option Value} {base : Heap}
theorem scLReason : FnScope ["_law_ties", "_law_ways_here", "_law_later", "_law_move_here", "_law_name", "_law_one", "_law_other", "_law_part"] ["_law_ties", "_law_ways_here", "_law_later", "_law_move_here"] (defScope (top 46)) := ⟨rfl, rfl, rfl, by decide +kernel, rfl, by decide +kernel, by decide +kernel⟩
theorem ok_lreason {f : Addr} {fd : FuncData} (F : FnP K "_law_reason" "_law_reason" (top 46) f fd) (T : Txt K mg) : FnOk P w K mg base CX0 1 f fd ["_law_ties", "_law_ways_here", "_law_later", "_law_move_here"] spLReason := by
  refine def_ok F scLReason (fun vs H Q E h => ?_) (fun cdv A outer s H vs Q E hr h => ?_)
  · obtain ⟨lt, wd, d, v, hs, ts, cs, kvs, st, m, rfl, _⟩ := h
    rfl
  · obtain ⟨lt, wd, d, v, hs, ts, cs, kvs, st, m, rfl, dlt, okh, okt, okc, hwd, own, hd, ok, dt, okm, k⟩ := h
    have hu := hu_of hr
    refine ⟨_, pss_cons (ps_if (PW.pt (pw_or (pt_not (pt_val (pe_isi (T.free 30) (T.free 34) boot_tupleT (pv 3)))) (pw_or (pt_cmpR op_ne (pe_callB call_len_seq (by rfl) (T.free 37) PySem.boot_len (pa_cons (pv 3) pa_nil)) pe_int (nomark _))
        (pw_or1 (pt_not (pt_val (pe_callB (cr_all rfl) (by rfl) (T.free 38) boot_allB (pa_cons (pe_lc (own := [("_law_part", 7)]) (g := gName 7) (tt := tYes) rfl scLReason.nd (pi_tup (pv 3))
          (blkOk_by (N := ["_law_ties", "_law_ways_here", "_law_later", "_law_move_here", "_law_name", "_law_one", "_law_other", "_law_part"]) (sc := defScope (top 46)) (by decide +kernel)) (fun _ _ _ _ _ => pg_name (i := 7) scLReason.nd rfl (Or.inl rfl)) (fun _ _ _ _ _ => pts_nil)
          (fun _ _ _ _ _ => show PE _ _ (tCB (rIsiB K "str") (tCons (tVar 7) (tCons (tC (.ty "str")) tNil))) from pe_isi (T.free 30) (T.free 33) boot_strT (pv 7))) pa_nil))))))))
        (pss_one (ps_ret pe_str)) pss_nil)
      (pss_cons (ps_asg (pv 3) (pg_tup rfl (pgs_cons (pg_name (i := 4) scLReason.nd rfl (Or.inl rfl)) (pgs_cons (pg_name (i := 5) scLReason.nd rfl (Or.inl rfl)) (pgs_cons (pg_name (i := 6) scLReason.nd rfl (Or.inl rfl)) pgs_nil)))))
      (pss_cons (ps_if (pt_cmp (pc_dnotin hu (pv 4) (pv 1)) (by rfl)) (pss_one (ps_ret pe_str)) pss_nil)
      (pss_cons (ps_if (pt_cmpR op_ne (pe_dget hu (pv 2) (pv 4) (fun _ _ => rfl)) (pv 5) (nomark _)) (pss_one (ps_ret pe_str)) pss_nil)
      (pss_cons (ps_if (PW.pt (pw_and (pt_cmpR (op_notInD (hu65 hr)) (pe_tup (pa_cons (pv 5) (pa_cons (pv 6) pa_nil))) (pv 0) (by rfl)) (pw_and1 (pt_cmpR (op_notInD (hu65 hr)) (pe_tup (pa_cons (pv 6) (pa_cons (pv 5) pa_nil))) (pv 0) (by rfl)))))
        (pss_one (ps_ret pe_str)) pss_nil)
      (pss_cons (ps_if (PW.pt (pw_and (pt_cmp (pc_notN (pe_dget hu (pv 1) (pv 4) (fun _ _ => rfl))) rfl) (pw_and (pt_cmpR (op_notInD (hu65 hr)) (pe_tup (pa_cons (pv 5) (pa_cons (pv 6) pa_nil))) (pe_dget hu (pv 1) (pv 4) (fun _ _ => rfl)) (by rfl))
          (pw_and1 (pt_cmpR (op_notInD (hu65 hr)) (pe_tup (pa_cons (pv 6) (pa_cons (pv 5) pa_nil))) (pe_dget hu (pv 1) (pv 4) (fun _ _ => rfl)) (by rfl))))))
        (pss_one (ps_ret pe_str)) pss_nil)
      (pss_one (ps_ret pe_non))))))), ?_⟩
    rcases mv_kinds dt with ⟨t, x, y, z, rfl, ht, hu3, hf⟩ | ⟨t, o, xs, rfl, ho, ht, hl, hf⟩ | ⟨⟨l, xs, rfl, hl⟩, hf⟩ | ⟨rfl, hf⟩
    · refine ⟨_, rfl, .ref t, "tuple", true, rfl, .base (.tup ht), ki_tt, true, rfl, iteF ?_⟩
      refine ⟨_, rfl, t, _, rfl, .inr (SqT.of ht), rfl, _, rfl, iteF ?_⟩
      refine ⟨_, rfl, t, rfl, ⟨_, SqT.of ht⟩, fun D hD => ?_⟩
      refine lc_data (walk_tup (xs := [x, y, z])) (([x, y, z].map isT).map PyData.bool) (by rw [List.length_map, List.length_map]) (by show 3 < sizeLine; decide) hD (fun H1 s1 => SqT.of (s1 _ _ ht)) ?_ ?_
      · rintro i u d' H1 H2 R hi hd' s1 hn ⟨rfl, hv⟩ kk
        have hv : [x, y, z][i]? = some u := hv
        obtain ⟨b, eb, rfl⟩ := at_map hd'
        rw [List.getElem?_map, hv] at eb
        have eb := Option.some.inj eb
        subst eb
        obtain ⟨ty, h1, h2⟩ := isT_at (K := K) (hu3 u (List.mem_of_getElem? hv))
        exact ⟨rfl, _, rfl, u, ty, isT u, rfl, h1, h2, kk _ _ (Same.refl _) (.bl _)⟩
      · intro H1 s1 d1
        refine ⟨D, [x, y, z].map isT, rfl, d1.bools, _, rfl, ?_⟩
        rw [hf]
        cases hm : m.form with
        | false =>
          refine iteT ?_
          have kq := k _ s1
          rw [reason_form hm] at kq
          exact kq
        | true =>
          obtain ⟨p, a, b, rfl⟩ := form_ok hm
          refine iteF ?_
          obtain ⟨t2, e2, q2⟩ := dt_flat (xs := [p, a, b]) dt
          have e2 := V.ref.inj e2
          subst e2
          refine ⟨_, rfl, t, _, rfl, SqT.of (s1 _ _ q2), rfl, _, _, rfl, _, _, rfl, _, _, rfl, rfl, ?_⟩
          have hwd1 := s1 _ _ hwd
          have hd1 := s1 _ _ hd
          refine ⟨_, rfl, _, rfl, wd, _, rfl, DGet.k (k := Sum.inr p) hwd1, _, rfl, ?_⟩
          show if (!(valV kvs (kk p)).isSome) = true then _ else _
          rw [own.has]
          by_cases hmem : p ∈ cs.map (·.1)
          case neg =>
            refine iteB (by rw [decide_eq_false hmem]; rfl) ?_
            have kq := k _ s1
            have eh : lk st p = none := lk_none.mpr (by rw [ok.keys]; exact hmem)
            have hRe : reason ts cs st (.ok p a b) = some "piece" := by
              show why ts cs p a b (lk st p) = _
              rw [eh]
              rfl
            rw [hRe] at kq
            exact kq
          refine iteC (by rw [decide_eq_true hmem]; rfl) ?_
          obtain ⟨h, eh⟩ : ∃ h, lk st p = some h := by
            cases e : lk st p with
            | none => exact absurd (by rw [ok.keys]; exact hmem) (lk_none.mp e)
            | some h => exact ⟨h, rfl⟩
          have ev : valV (stK st) (kk p) = some (V.str h) := by
            rw [lk_val, eh]
            rfl
          have hRe : reason ts cs st (.ok p a b) = (if h = a then (if tied ts a b = true then (if goes a b (wy cs p) = true then none else some "ways") else some "tie") else some "place" : Option Str) := by
            show why ts cs p a b (lk st p) = _
            rw [eh]
            rfl
          refine ⟨_, rfl, _, rfl, d, _, rfl, by rw [← ev]; exact DGet.k (k := Sum.inr p) hd1, _, rfl, rfl, _, rfl, ?_⟩
          by_cases e : h = a
          case neg =>
            rw [if_neg e] at hRe
            have kq := k _ s1
            rw [hRe] at kq
            refine iteB ?_ kq
            rw [decide_eq_false fun z => e (V.str.inj z)]
            rfl
          refine iteC (by rw [e]; simp) ?_
          rw [if_pos e] at hRe
          have sab : SeqAt.shaped (dP (a, b)) = true := dP_shaped okm
          have sba : SeqAt.shaped (dP (b, a)) = true := dP_shaped (t := (b, a)) ⟨okm.2, okm.1⟩
          have sts : SeqAt.shaped (dPs ts) = true := dPs_shaped fun t m => okt.nm1 okh m
          refine ⟨_, rfl, _, rfl, (by show 2 ≤ sizeLine; decide), fun q1 hq1 => ?_⟩
          have s2 : Same H (upd H1 q1 (.tup [.str a, .str b])) := s1.trans (same_new hq1)
          have q2 : upd H1 q1 (.tup [.str a, .str b]) q1 = some (.tup [.str a, .str b]) := upd_same
          generalize upd H1 q1 (.tup [.str a, .str b]) = H2 at s2 q2 ⊢
          refine ⟨_, rfl, dP (a, b), ts.map dP, (dt_prM (t := (a, b)) q2).dp, (dlt.up s2).dp, sab, sts, _, rfl, ?_⟩
          rw [any_dP]
          by_cases m1 : (a, b) ∈ ts
          case' pos =>
            refine iteC (by rw [decide_eq_true m1]; rfl) (iteF ?_)
            have htd : tied ts a b = true := by
              unfold tied
              rw [decide_eq_true m1]
              rfl
            obtain ⟨H3, e3⟩ : ∃ H3, H3 = H2 := ⟨_, rfl⟩
            have s3 : Same H H3 := by rw [e3]; exact s2
            rw [← e3]
          case' neg =>
            refine iteB (by rw [decide_eq_false m1]; rfl) ?_
            refine ⟨_, rfl, _, rfl, (by show 2 ≤ sizeLine; decide), fun r1 hr1 => ?_⟩
            have s3 : Same H (upd H2 r1 (.tup [.str b, .str a])) := s2.trans (same_new hr1)
            have q3 : upd H2 r1 (.tup [.str b, .str a]) r1 = some (.tup [.str b, .str a]) := upd_same
            generalize upd H2 r1 (.tup [.str b, .str a]) = H3 at s3 q3 ⊢
            refine ⟨_, rfl, dP (b, a), ts.map dP, (dt_prM (t := (b, a)) q3).dp, (dlt.up s3).dp, sba, sts, _, rfl, ?_⟩
            rw [any_dP]
            by_cases m2 : (b, a) ∈ ts
            case neg =>
              refine iteB (by rw [decide_eq_false m2]; rfl) ?_
              have htd : tied ts a b = false := by
                unfold tied
                rw [decide_eq_false m1, decide_eq_false m2]
                rfl
              have kq := k _ s3
              rw [hRe, htd] at kq
              exact kq
            refine iteC (by rw [decide_eq_true m2]; rfl) ?_
            have htd : tied ts a b = true := by
              unfold tied
              rw [decide_eq_true m2, Bool.or_true]
          all_goals
            rw [if_pos htd] at hRe
            obtain ⟨c, mc, ec, ew⟩ := wy_of hmem
            have okw := (okc.ok c mc).ways
            rw [← ew] at okw
            obtain ⟨z, ez, dz⟩ := (own.up s3).at_ hmem
            have hwd3 := s3 _ _ hwd
            refine ⟨_, rfl, _, rfl, wd, z, rfl, by rw [← ez]; exact DGet.k (k := Sum.inr p) hwd3, _, rfl, ?_⟩
            cases hwy : wy cs p with
            | none =>
              rw [hwy] at dz
              have ezn : z = .non := by
                cases dz
                rfl
              have kq := k _ s3
              rw [hRe, hwy] at kq
              exact iteC (by rw [ezn]; rfl) (iteF kq)
            | some us =>
              rw [hwy] at dz okw
              have okw : SomeOk ts us := okw
              have sus : SeqAt.shaped (dPs us) = true := dPs_shaped fun t m => by
                have nn := tied_nm okh okt (okw.mem t m)
                exact ⟨nn.1, nn.2.1⟩
              have kq : ∀ H4, Same H3 H4 → Q (rV (if tied us a b = true then none else some "ways" : Option Str)) H4 := fun H4 s4 => by
                have z := k _ (s3.trans s4)
                rw [hRe, hwy] at z
                exact z
              have nz : ¬ z = .non := fun c => by
                rw [c] at dz
                obtain ⟨_, _, e, _⟩ := Dt.list_inv' (ds := us.map dP) dz
                cases e
              refine iteB (by rw [decide_eq_false nz]; rfl) ?_
              refine ⟨_, rfl, _, rfl, (by show 2 ≤ sizeLine; decide), fun r2 hr2 => ?_⟩
              have s34 : Same H3 (upd H3 r2 (.tup [.str a, .str b])) := same_new hr2
              have q4 : upd H3 r2 (.tup [.str a, .str b]) r2 = some (.tup [.str a, .str b]) := upd_same
              generalize upd H3 r2 (.tup [.str a, .str b]) = H4 at s34 q4 ⊢
              refine ⟨_, rfl, _, rfl, wd, z, rfl, by rw [← ez]; exact DGet.k (k := Sum.inr p) (s34 _ _ hwd3), dP (a, b), us.map dP, (dt_prM (t := (a, b)) q4).dp, (Dt.up s34 (d := dPs us) dz).dp, sab, sus, _, rfl, ?_⟩
              rw [any_dP]
              by_cases w1 : (a, b) ∈ us
              case pos =>
                refine iteC (by rw [decide_eq_true w1]; rfl) (iteF ?_)
                have z := kq _ s34
                unfold tied at z
                rw [decide_eq_true w1] at z
                exact z
              refine iteB (by rw [decide_eq_false w1]; rfl) ?_
              refine ⟨_, rfl, _, rfl, (by show 2 ≤ sizeLine; decide), fun r3 hr3 => ?_⟩
              have s35 : Same H3 (upd H4 r3 (.tup [.str b, .str a])) := s34.trans (same_new hr3)
              have q5 : upd H4 r3 (.tup [.str b, .str a]) r3 = some (.tup [.str b, .str a]) := upd_same
              generalize upd H4 r3 (.tup [.str b, .str a]) = H5 at s35 q5 ⊢
              refine ⟨_, rfl, _, rfl, wd, z, rfl, by rw [← ez]; exact DGet.k (k := Sum.inr p) (s35 _ _ hwd3), dP (b, a), us.map dP, (dt_prM (t := (b, a)) q5).dp, (Dt.up s35 (d := dPs us) dz).dp, sba, sus, _, rfl, ?_⟩
              rw [any_dP]
              have z2 := kq _ s35
              unfold tied at z2
              rw [decide_eq_false w1, Bool.false_or] at z2
              by_cases w2 : (b, a) ∈ us
              · rw [decide_eq_true w2] at z2
                exact iteC (by rw [decide_eq_true w2]; rfl) z2
              · rw [decide_eq_false w2] at z2
                exact iteB (by rw [decide_eq_false w2]; rfl) z2
    · refine ⟨_, rfl, .ref t, "tuple", true, rfl, (ht K).1, ki_tt, true, rfl, iteF ?_⟩
      refine ⟨_, rfl, t, _, rfl, .inr ((ht K).2), rfl, _, rfl, iteB ?_ ?_⟩
      · rw [decide_eq_false fun z => hl (by have := V.int.inj z; omega)]
        rfl
      · have kq := k _ (Same.refl _)
        rw [reason_form hf] at kq
        exact kq
    · refine ⟨_, rfl, .ref l, "list", false, rfl, .base (.lst hl), ki_lt, false, rfl, iteT ?_⟩
      have kq := k _ (Same.refl _)
      rw [reason_form hf] at kq
      exact kq
    · refine ⟨_, rfl, .non, "NoneType", false, rfl, .base .non, ki_nt, false, rfl, iteT ?_⟩
      have kq := k _ (Same.refl _)
      rw [reason_form hf] at kq
      exact kq
end
end Kp
namespace Kp
open PySem PySem.Spec PyProof.Rows L2
def dQ (c : Pc) : PyData := .tuple [.str c.1, dW c.2.2]
theorem dt_own {K : PySem.W.Frag} {H : Hp} : ∀ {cs : List Pc} {xs : List V}, DtAll H xs (cs.map dQ) → ∃ (ps : List Addr) (kvs : List (L2.Key × V)), xs = ps.map V.ref ∧ Paired (fun (p : Addr) (kv : L2.Key × V) => SqT K H p [kV kv.1, kv.2]) ps kvs ∧ OwnD H kvs cs
  | [], _, h => by
    cases h
    exact ⟨[], [], rfl, .nil, .nil⟩
  | c :: cs, _, h => by
    cases h with
    | cons a r =>
      obtain ⟨ps, kvs, e, k, o⟩ := dt_own (K := K) r
      obtain ⟨q, us, e1, hq, du⟩ := Dt.tup_inv (ds := [.str c.1, dW c.2.2]) a (fun x y e => by
        have z := (List.cons.inj (List.cons.inj e).2).1
        cases h : c.2.2 with
        | none =>
          rw [h] at z
          cases z
        | some us =>
          rw [h] at z
          cases z)
      cases du with
      | cons h1 r1 =>
        cases r1 with
        | cons h2 r2 =>
          cases r2
          cases h1
          exact ⟨q :: ps, (kk c.1, _) :: kvs, by rw [List.map_cons, e1, e], .cons (SqT.of hq) k, .cons ⟨rfl, h2⟩ o⟩
def spWalked : Sp := fun vs H Q _ => ∃ (lt lp d lr : Addr) (hs : List (Str × Int)) (ts : List Pr) (cs : List Pc) (st : Std) (ms : List Mv), vs = [.ref lt, .ref lp, .ref d, .ref lr] ∧ Dt H (.ref lt) (dPs ts) ∧ HandsOk hs ∧ TiesOk hs ts ∧ PiecesOk ts cs ∧ Dt H (.ref lp) (dCs cs) ∧
  H d = some (.dK (stK st)) ∧ StOk hs cs st ∧ Dt H (.ref lr) (.list (ms.map dMv)) ∧ (∀ m ∈ ms, MvOk m) ∧ ms.length ≤ 1000 ∧ ∀ H' v, Same H H' → Res H' v (walk ts cs 0 ms st) → Q v H'
theorem at_nat {xs : List V} {i : Nat} {v : V} (h : xs[i]? = some v) : atI xs (0 + (i : Int)) = some v := by
  have hi := (List.getElem?_eq_some_iff.mp h).1
  unfold atI ixN
  rw [if_pos (by omega), if_pos (by omega), Option.bind_some, Int.zero_add, Int.toNat_natCast]
  exact h
section
variable {P : Program} {w : World} {K : PySem.W.Frag} {mg : Str → Option Value} {base : Heap}
theorem scWalked : FnScope ["_law_ties", "_law_pieces_here", "_law_stand_here", "_law_row", "_law_later", "_law_ways_here", "_law_k", "_law_reason_here", "_law_piece"] ["_law_ties", "_law_pieces_here", "_law_stand_here", "_law_row"] (defScope (top 47)) := ⟨rfl, rfl, rfl, by decide +kernel, rfl, by decide +kernel, by decide +kernel⟩
theorem ok_walked {f : Addr} {fd : FuncData} (F : FnP K "_law_walked" "_law_walked" (top 47) f fd) (T : Txt K mg) (GR : Gn P w K mg base CX0 1 "_law_reason" ["_law_ties", "_law_ways_here", "_law_later", "_law_move_here"] spLReason) :
    FnOk P w K mg base CX0 2 f fd ["_law_ties", "_law_pieces_here", "_law_stand_here", "_law_row"] spWalked := by
  refine def_ok F scWalked (fun vs H Q E h => ?_) (fun cdv A outer s H vs Q E hr h => ?_)
  · obtain ⟨lt, lp, d, lr, hs, ts, cs, st, ms, rfl, _⟩ := h
    rfl
  · obtain ⟨lt, lp, d, lr, hs, ts, cs, st, ms, rfl, dlt, okh, okt, okc, dlp, hd, ok, dlr, okm, lms, k⟩ := h
    have hu := hu_of hr
    have h64 := okc.len
    refine ⟨_, pss_cons (ps_set (i := 4) scWalked.nd rfl (Or.inl rfl) (pe_callTy call_dictD (by rfl) (T.free 36) boot_dictT (pa_cons (pv 2) pa_nil)))
      (pss_cons (ps_set (i := 5) scWalked.nd rfl (Or.inl rfl) (pe_callTy (call_dictP rfl) (by rfl) (T.free 36) boot_dictT (pa_cons (pe_lc (own := [("_law_piece", 8)]) (g := gName 8) (tt := tYes) rfl scWalked.nd (pi_list (pv 1))
        (blkOk_by (N := ["_law_ties", "_law_pieces_here", "_law_stand_here", "_law_row", "_law_later", "_law_ways_here", "_law_k", "_law_reason_here", "_law_piece"]) (sc := defScope (top 47)) (by decide +kernel)) (fun _ _ _ _ _ => pg_name (i := 8) scWalked.nd rfl (Or.inl rfl)) (fun _ _ _ _ _ => pts_nil)
        (fun _ _ _ _ _ => pe_tup (pa_cons (pe_ix (r := rIxT K) ix_tup (pv 8) pe_int (fun _ _ => rfl)) (pa_cons (pe_ix (r := rIxT K) ix_tup (pv 8) pe_int (fun _ _ => rfl)) pa_nil)))) pa_nil)))
      (pss_cons (ps_for PassesOwn.never rfl (pi_range1 (by rfl) (T.free 41) (pa_cons (pe_callB call_len_seq (by rfl) (T.free 37) PySem.boot_len (pa_cons (pv 3) pa_nil)) pa_nil)) (pg_name (i := 6) scWalked.nd rfl (Or.inl rfl))
        (pss_cons (ps_set (i := 7) scWalked.nd rfl (Or.inl rfl) (pe_g GR hr (pa_cons (pv 0) (pa_cons (pv 5) (pa_cons (pv 4) (pa_cons (pe_ix ix_list (pv 3) (pv 6) (fun _ _ => rfl)) pa_nil)))) pass0))
        (pss_cons (ps_if (pt_cmp (pc_notN (pv 7)) rfl) (pss_one (ps_ret (pe_tup (pa_cons pe_str (pa_cons (pv 6) (pa_cons (pv 7) pa_nil)))))) pss_nil)
        (pss_one (ps_dput hu (pv 4) (pe_ix ix_tup (pe_ix ix_list (pv 3) (pv 6) (fun _ _ => rfl)) pe_int (fun _ _ => rfl)) (pe_ix ix_tup (pe_ix ix_list (pv 3) (pv 6) (fun _ _ => rfl)) pe_int (fun _ _ => rfl)) rfl)))))
      (pss_one (ps_ret (pe_tup (pa_cons pe_str (pa_cons (pv 4) pa_nil))))))), ?_⟩
    refine ⟨_, rfl, d, _, rfl, .inl hd, fun p np => ?_⟩
    have s1 := same_new (o := .dK (stK st)) np
    have p1 : upd H p (.dK (stK st)) p = some (.dK (stK st)) := upd_same
    -- the pieces' ways
    obtain ⟨xs, hx, dx⟩ := dlp.list_inv
    have hlx : xs.length = cs.length := by rw [dx.len, List.length_map]
    refine ⟨_, rfl, lp, rfl, ⟨_, SqL.of (s1 _ _ hx)⟩, fun D hD => ?_⟩
    refine lc_data (walk_list (xs := xs)) (cs.map dQ) (by rw [List.length_map, hlx]) (small1000 (by omega)) hD (fun H2 s2 => SqL.of (s2 _ _ (s1 _ _ hx))) ?_ ?_
    · rintro i v d' H2 H3 R hi hd' s2 hn ⟨rfl, hv⟩ kk
      have hv : xs[i]? = some v := hv
      obtain ⟨d2, e2, dv⟩ := dx.get hv
      obtain ⟨c, e3, rfl⟩ := at_map e2
      obtain ⟨c', e4, rfl⟩ := at_map hd'
      rw [e3] at e4
      have e4 := Option.some.inj e4
      subst e4
      have s02 := s1.trans s2
      obtain ⟨t, u, rfl, ht, du⟩ := dt_pc dv
      have ht2 := s02 _ _ ht
      refine ⟨rfl, ?_⟩
      refine ⟨_, rfl, t, _, 0, _, rfl, rfl, SqT.of ht2, rfl, _, rfl, t, _, 2, _, rfl, rfl, SqT.of ht2, rfl, (by show 2 ≤ sizeLine; decide), fun z nz => ?_⟩
      have nzD : z ≠ D := fun c => hn (by rw [← c]; exact nz)
      have sH : Same H (Off [D] (upd H3 z (.tup [.str c.1, u]))) := fun b o e => by
        have nbD : b ≠ D := ne_of_none (s1 _ _ e) hD
        exact off_set (by rw [upd_ne (ne_of_none (s02 _ _ e) nz)]; exact s02 _ _ e) (by simp [nbD])
      exact kk _ _ (same_new nz) (.tup (off_set upd_same (by simp [nzD])) (.cons (.str _) (.cons (du.up sH) .nil)))
    · intro H2 s2 d2
      obtain ⟨ys, hy, dy⟩ := d2.list_inv
      obtain ⟨ps, kvs, ex, pd, own⟩ := dt_own (K := K) dy
      refine ⟨D, ps, kvs, rfl, by rw [← ex]; exact SqL.of hy, pd, fun wd nw => ?_⟩
      rw [mergeK_nil (by rw [own.keys]; exact nodup_kk okc.nd)]
      have s3 : Same H (upd H2 wd (.dK kvs)) := (s1.trans s2).trans (same_new nw)
      have w3 : upd H2 wd (.dK kvs) wd = some (.dK kvs) := upd_same
      have own3 := own.up (same_new (o := .dK kvs) nw)
      have p3 : upd H2 wd (.dK kvs) p = some (.dK (stK st)) := (s2.trans (same_new nw)) _ _ p1
      have nwp : wd ≠ p := (ne_of_none (s2 _ _ p1) nw).symm
      generalize upd H2 wd (.dK kvs) = H3 at s3 w3 own3 p3 ⊢
      obtain ⟨rs, hr0, dr⟩ := dlr.list_inv
      have hlr : rs.length = ms.length := by rw [dr.len, List.length_map]
      refine ⟨_, rfl, lr, _, rfl, .inl (SqL.of (s3 _ _ hr0)), (rs.length : Nat), rfl, by omega, by omega, for_range (fun i σ H5 => ∃ (st2 : Std) (v6 v7 : Option V), σ = [some (.ref lt), some (.ref lp), some (.ref d), some (.ref lr), some (.ref p), some (.ref wd), v6, v7, none] ∧ Same H H5 ∧
          H5 p = some (.dK (stK st2)) ∧ H5 wd = some (.dK kvs) ∧ OwnD H5 kvs cs ∧ StOk hs cs st2 ∧ walk ts cs i (ms.drop i) st2 = walk ts cs 0 ms st) ⟨st, none, none, rfl, s3, p3, w3, own3, ok, rfl⟩ ?_ ?_⟩
      · rintro i σ H5 hi ⟨st2, v6, v7, rfl, q5, p5, w5, own5, o5, e5⟩
        have hil : i < rs.length := by omega
        have hv : rs[i]? = some rs[i] := List.getElem?_eq_getElem hil
        obtain ⟨d2, f2, dv⟩ := dr.get hv
        obtain ⟨m, f3, rfl⟩ := at_map f2
        generalize rs[i] = v at hv dv
        have hdr : ms.drop i = m :: ms.drop (i + 1) := List.drop_eq_getElem_cons (List.getElem?_eq_some_iff.mp f3).1 |>.trans (by rw [(List.getElem?_eq_some_iff.mp f3).2])
        rw [hdr] at e5
        have e5 : (match reason ts cs st2 m with | some r => .inl (i, r) | none => walk ts cs (i + 1) (ms.drop (i + 1)) (stp st2 m)) = walk ts cs 0 ms st := e5
        refine ⟨_, rfl, _, rfl, _, rfl, _, rfl, _, rfl, lr, _, _, v, rfl, rfl, SqL.of (q5 _ _ hr0), at_nat hv, lt, wd, p, v, hs, ts, cs, kvs, st2, m, rfl, dlt.up q5, okh, okt, okc, w5, own5, p5, o5, dv.up q5, okm m (List.mem_of_getElem? f3), fun H6 s6 => ?_⟩
        have q6 := q5.trans s6
        cases hre : reason ts cs st2 m with
        | some r =>
          rw [hre] at e5
          refine ⟨_, rfl, _, rfl, iteT ?_⟩
          refine ⟨_, rfl, _, rfl, (by show 3 ≤ sizeLine; decide), fun z nz => ?_⟩
          refine k _ _ (q6.trans (same_new nz)) ?_
          rw [← e5]
          refine ⟨z, rfl, ?_⟩
          rw [upd_same, Int.zero_add]
          rfl
        | none =>
          rw [hre] at e5
          refine ⟨_, rfl, _, rfl, iteF ?_⟩
          obtain ⟨pn, a, b, rfl, ela, etd⟩ := reason_ok hre
          obtain ⟨tm, rfl, htm⟩ := dt_flat (xs := [pn, a, b]) (dv.up q6)
          have mp : pn ∈ st2.map (·.1) := by
            cases Classical.em (pn ∈ st2.map (·.1)) with
            | inl h => exact h
            | inr h =>
              rw [lk_none.mpr h] at ela
              cases ela
          have l2 : (stK st2).length < sizeLine := by
            have z := congrArg List.length o5.keys
            rw [List.length_map, List.length_map] at z
            unfold stK
            rw [List.length_map]
            exact small1000 (by omega)
          refine ⟨_, rfl, _, rfl, lr, _, _, _, rfl, rfl, SqL.of (q6 _ _ hr0), at_nat hv, tm, _, 2, _, rfl, rfl, SqT.of htm, rfl, _, rfl, _, rfl, _, rfl, lr, _, _, _, rfl, rfl, SqL.of (q6 _ _ hr0), at_nat hv, tm, _, 0, _, rfl, rfl, SqT.of htm, rfl, p, _, rfl, DPut.k (k := Sum.inr pn) (s6 _ _ p5) l2, ?_⟩
          have ep : putK (stK st2) (kk pn) (V.str b) = stK (setS st2 pn b) := stK_put mp
          have sq : Seqs H6 (upd H6 p (.dK (putK (stK st2) (kk pn) (V.str b)))) := Seqs.dct (s6 _ _ p5)
          refine ⟨setS st2 pn b, _, _, rfl, same_put q6 np, ?_, ?_, ?_, o5.set (tied_mem okt etd).2, e5⟩
          · rw [upd_same]
            exact congrArg (fun z => some (HO.dK z)) ep
          · rw [upd_ne nwp]
            exact s6 _ _ w5
          · exact Paired.mapP (own5.up s6) fun _ _ q => ⟨q.1, dt_seq sq q.2⟩
      · rintro σ H5 ⟨st2, v6, v7, rfl, q5, p5, w5, own5, o5, e5⟩
        have e6 : ((rs.length : Nat) : Int).toNat = ms.length := by rw [Int.toNat_natCast, hlr]
        rw [e6, List.drop_length] at e5
        refine ⟨_, rfl, (by show 2 ≤ sizeLine; decide), fun z nz => ?_⟩
        refine k _ _ (q5.trans (same_new nz)) ?_
        rw [← e5]
        exact ⟨z, p, rfl, upd_same, by rw [upd_ne (ne_of_none p5 nz)]; exact p5⟩
end
end Kp
namespace Kp
open PySem PySem.Spec PyProof.Rows L2
theorem dC_lay {ts : List Pr} {hs : List (Str × Int)} {c : Pc} (okh : HandsOk hs) (okt : TiesOk hs ts) (h : PieceOk ts c) : (dC c).canLay0 = true := by
  obtain ⟨x, n, o⟩ := c
  have hx : PyData.strOk x = true := nm_ok h.nm
  cases o with
  | none => simp [dC, dW, PyData.canLay0, PyData.canLayAll0, hx]
  | some us =>
    have w : SomeOk ts us := h.ways
    have z : PyData.canLayAll0 (us.map dP) = true := dPs_lay fun t m => by
      have nn := tied_nm okh okt (w.mem t m)
      exact ⟨nn.1, nn.2.1⟩
    simp [dC, dW, dPs, PyData.canLay0, PyData.canLayAll0, hx, z]
theorem dC_depth (c : Pc) : (dC c).depth ≤ 3 := by
  obtain ⟨x, n, o⟩ := c
  cases o with
  | none => simp [dC, dW, PyData.depth, PyData.depthAll]
  | some us =>
    have z := dPs_depth us
    simp only [dC, dW, dPs, PyData.depth, PyData.depthAll]
    omega
theorem dCs_shaped {ts : List Pr} {hs : List (Str × Int)} {cs : List Pc} (okh : HandsOk hs) (okt : TiesOk hs ts) (h : ∀ c ∈ cs, PieceOk ts c) : SeqAt.shaped (dCs cs) = true := by
  have lay : ∀ cs : List Pc, (∀ c ∈ cs, PieceOk ts c) → PyData.canLayAll0 (cs.map dC) = true := by
    intro cs
    induction cs with
    | nil => intro _; rfl
    | cons c cs ih =>
      intro h
      have h1 := dC_lay okh okt (h c (List.mem_cons_self ..))
      have h2 := ih fun c m => h c (List.mem_cons_of_mem _ m)
      simp [PyData.canLayAll0, h1, h2]
  have dep : ∀ cs : List Pc, PyData.depthAll (cs.map dC) ≤ 3 := by
    intro cs
    induction cs with
    | nil => exact Nat.zero_le _
    | cons c cs ih =>
      have h1 := dC_depth c
      simp only [List.map_cons, PyData.depthAll]
      omega
  have d := dep cs
  show ((dCs cs).canLay0 && decide ((dCs cs).depth ≤ 64)) = true
  rw [Bool.and_eq_true]
  refine ⟨by simp only [dCs, PyData.canLay0]; exact lay cs h, decide_eq_true ?_⟩
  simp only [dCs, PyData.depth]
  omega
theorem strs_shaped {xs : List Str} (h : ∀ x ∈ xs, Nm x) : SeqAt.shaped (.list (xs.map PyData.str)) = true := by
  have lay : ∀ xs : List Str, (∀ x ∈ xs, Nm x) → PyData.canLayAll0 (xs.map PyData.str) = true := by
    intro xs
    induction xs with
    | nil => intro _; rfl
    | cons x xs ih =>
      intro h
      have h1 := nm_ok (h x (List.mem_cons_self ..))
      have h2 := ih fun c m => h c (List.mem_cons_of_mem _ m)
      simp [PyData.canLayAll0, PyData.canLay0, h1, h2]
  have dep : ∀ xs : List Str, PyData.depthAll (xs.map PyData.str) ≤ 1 := by
    intro xs
    induction xs with
    | nil => exact Nat.zero_le _
    | cons c cs ih =>
      simp only [List.map_cons, PyData.depthAll, PyData.depth]
      omega
  have d := dep xs
  show ((PyData.list (xs.map PyData.str)).canLay0 && decide ((PyData.list (xs.map PyData.str)).depth ≤ 64)) = true
  rw [Bool.and_eq_true]
  refine ⟨by simp only [PyData.canLay0]; exact lay xs h, decide_eq_true ?_⟩
  simp only [PyData.depth]
  omega
theorem nil_shaped : SeqAt.shaped (.list []) = true := by decide +kernel
theorem eqv_nil (d : PyData) (ds : List PyData) : PyData.eqv (.list (d :: ds)) (.list []) = false := by
  simp [PyData.eqv, PyData.eqvAll]
theorem eqv_nil0 : PyData.eqv (.list []) (.list []) = true := by
  simp [PyData.eqv, PyData.eqvAll]
end Kp
namespace Kp
open PySem PySem.Spec PyProof.Rows L2
theorem at_int {xs : List V} {i : Nat} {v : V} (h : xs[i]? = some v) : atI xs (i : Int) = some v := by
  have z := at_nat h
  rw [Int.zero_add] at z
  exact z
theorem dt_pick {H : Hp} {a lh : Addr} {hs : List (Str × Int)} (dh : Dt (Off [a] H) (.ref lh) (dHs hs)) : ∃ ys, H lh = some (.lst ys) ∧ lh ≠ a ∧ ys.length = hs.length ∧ ∀ e : Nat, e < hs.length → ∃ (th : Addr) (h : Str × Int), atI ys (e : Int) = some (.ref th) ∧ h ∈ hs ∧ th ≠ a ∧ H th = some (.tup [.str h.1, .int h.2]) := by
  obtain ⟨ys, hy, dy⟩ := dh.list_inv
  obtain ⟨nya, hy⟩ := off_one hy
  have hly : ys.length = hs.length := by rw [dy.len, List.length_map]
  refine ⟨ys, hy, nya, hly, fun e he => ?_⟩
  have hye : ys[e]? = some (ys[e]'(by omega)) := List.getElem?_eq_getElem (by omega)
  obtain ⟨d3, g2, dyv⟩ := dy.get hye
  obtain ⟨h, g3, rfl⟩ := at_map g2
  obtain ⟨th, ev, hth⟩ := dt_hd dyv
  obtain ⟨nt, hth⟩ := off_one hth
  rw [ev] at hye
  exact ⟨th, h, at_int hye, List.mem_of_getElem? g3, nt, hth⟩
theorem dt_pickC {H : Hp} {a lp : Addr} {cs : List Pc} (dh : Dt (Off [a] H) (.ref lp) (dCs cs)) : ∃ ys, H lp = some (.lst ys) ∧ lp ≠ a ∧ ys.length = cs.length ∧ ∀ e : Nat, e < cs.length → ∃ (th : Addr) (c : Pc) (u : V), atI ys (e : Int) = some (.ref th) ∧ c ∈ cs ∧ th ≠ a ∧ H th = some (.tup [.str c.1, .int c.2.1, u]) := by
  obtain ⟨ys, hy, dy⟩ := dh.list_inv
  obtain ⟨nya, hy⟩ := off_one hy
  have hly : ys.length = cs.length := by rw [dy.len, List.length_map]
  refine ⟨ys, hy, nya, hly, fun e he => ?_⟩
  have hye : ys[e]? = some (ys[e]'(by omega)) := List.getElem?_eq_getElem (by omega)
  obtain ⟨d3, g2, dyv⟩ := dy.get hye
  obtain ⟨h, g3, rfl⟩ := at_map g2
  obtain ⟨th, u, ev, hth, _⟩ := dt_pc dyv
  obtain ⟨nt, hth⟩ := off_one hth
  rw [ev] at hye
  exact ⟨th, h, u, at_int hye, List.mem_of_getElem? g3, nt, hth⟩
/-- its hands are hands of the web -/
def MvIn (hs : List (Str × Int)) : Mv → Prop
  | .ok _ a b => a ∈ hs.map (·.1) ∧ b ∈ hs.map (·.1)
  | .five _ a => a ∈ hs.map (·.1)
  | _ => True
theorem MvIn.ok {hs : List (Str × Int)} {m : Mv} (k : HandsOk hs) (h : MvIn hs m) : MvOk m := by
  cases m with
  | ok p a b => exact ⟨k.name h.1, k.name h.2⟩
  | _ => trivial
def spMove : Sp := fun vs H Q _ => ∃ (a lh lt lp d : Addr) (rare : Int) (L : List Addr) (hs : List (Str × Int)) (ts : List Pr) (cs : List Pc) (st : Std), vs = [.ref a, .ref lh, .ref lt, .ref lp, .ref d, .int rare] ∧ 0 < rare ∧ rare < 1073741824 ∧ RS H a ∧ a ∈ L ∧ (∀ b, b ∈ L → H b ≠ none) ∧
  Dt (Off [a] H) (.ref lh) (dHs hs) ∧ TsF (Off [a] H) lt ts ∧ Dt (Off [a] H) (.ref lp) (dCs cs) ∧ HandsOk hs ∧ TiesOk hs ts ∧ PiecesOk ts cs ∧ H d = some (.dK (stK st)) ∧ StOk hs cs st ∧
  ∀ (m : Mv) v H', But a H H' → RS H' a → Dt (Off L H') v (dMv m) → MvIn hs m → Q v H'
def rTupIx (K : PySem.W.Frag) : V → List V → Hp → VK → Prop := fun x xs H Q => ∃ p, ∃ ys : List Str, ∃ z j, x = .ref p ∧ xs = [.str z] ∧ SqT K H p (ys.map V.str) ∧ ys[j]? = some z ∧ (∀ m, m < j → ys[m]? ≠ some z) ∧ Q (.int (j : Nat)) H
/-- t.index(x), t a tuple whose object is known -/
def tTix (K : PySem.W.Frag) (to : TE) (t : TA) : TE := fun σ H Q => to σ H fun x H1 => (∃ (q : Addr) (ob : Obj) (xs : List V), x = .ref q ∧ ob.dict = none ∧ H1 q = some (.frz ob (.tup xs))) ∧ t σ H1 fun us H2 => rTupIx K x us H2 Q
section
variable {X : Cx} {o e : Expr} {to : TE} {t : TA} {ap cp : Pos}
theorem pe_tix (ho : PE X o to) (ha : PA X [e] t) (hb : attributeBase o "index" X.env (eval o X.env) = eval o X.env := by rfl)
    (hf : ((backTo cp (starEach [e] X.env)).all (fun x => !x.1) && (backToKw cp (keywordEach [] X.env)).all (fun x => x.1.isSome) && decide (([e] : List Expr).length + ([] : List Keyword).length + (if ([] : List Keyword).isEmpty then 0 else 1) < 30)) = true := by rfl)
    (hl : (ap.endLine == cp.line) = true := by rfl) (hs : starEach [e] X.env = (false, eval e X.env) :: starEach [] X.env := by rfl) (hp : (backTo cp (starEach [] X.env)).any (·.1) = false := by rfl) :
    PE X (.Call (.Attribute o "index" ap) [e] [] cp) (tTix X.K to t) := by
  refine ⟨fun pins s σ H Q I h => wpAny_Call_method_late hb hf hl rfl (thn (ho.run pins s σ H _ I h) ?_)⟩
  rintro v s1 ⟨x, H1, I1, r1, ⟨q, ob, xs, rfl, hd, hq⟩, q1⟩
  obtain rfl : v = Value.ref q := r1
  obtain ⟨ge, _, its, _, o2, g2, c2, _⟩ := (show ObjOk X.prog X.w H1 s1.heap q (.frz ob (.tup xs)) from I1.hok q _ hq)
  have eo : o2 = ob := by
    rw [ge] at g2
    exact (Option.some.inj g2).symm
  rw [eo] at c2
  refine ⟨"tuple", "tuple.index", PySem.F.plainAttrs_tuple, PySem.F.slot_tuple_index, PySem.F.type_tuple_index, ⟨ob, ge, c2⟩, fun a ea => ?_, ?_⟩
  · cases ea
    exact ⟨ob, ge, hd⟩
  · have hA := ha.run cp pins s1 σ H1 _ I1 q1
    rw [hs] at hA ⊢
    refine Calls.callWith_builtin (by show (false || (backTo cp (starEach [] X.env)).any (·.1)) = false; rw [hp]; rfl) (Calls.evalArgs_plain (thn hA ?_))
    rintro us s2 ⟨vs, H2, I2, r2, q2⟩
    exact mt_tup_index pins s2 σ H2 (.ref q) vs (.ref q) us Q I2 rfl r2 q2
end
theorem dt_strs {H : Hp} : ∀ {xs : List Str} {vs : List V}, DtAll H vs (xs.map PyData.str) → vs = xs.map V.str
  | [], _, h => by
    cases h
    rfl
  | x :: xs, _, h => by
    cases h with
    | cons a r =>
      cases a
      rw [dt_strs r]
      rfl
theorem neq_list {α : Type} (f : α → PyData) (l : List α) : (!PyData.eqv (.list (l.map f)) (.list [])) = decide (l ≠ []) := by
  cases l with
  | nil =>
    rw [List.map_nil, eqv_nil0]
    rfl
  | cons x l =>
    rw [List.map_cons, eqv_nil]
    exact (decide_eq_true (by simp)).symm
section
variable {P : Program} {w : World} {K : PySem.W.Frag} {mg : Str → Option Value} {base : Heap}
theorem scMove : FnScope ["_law_state", "_law_hands", "_law_ties", "_law_pieces_here", "_law_later", "_law_rare", "_law_name", "_law_one", "_law_near", "_law_other", "_law_some", "_law_tie"] ["_law_state", "_law_hands", "_law_ties", "_law_pieces_here", "_law_later", "_law_rare"] (defScope (top 48)) := ⟨rfl, rfl, rfl, by decide +kernel, rfl, by decide +kernel, by decide +kernel⟩
theorem ok_move {f : Addr} {fd : FuncData} (F : FnP K "_law_move" "_law_move" (top 48) f fd) (T : Txt K mg) (GD : Gn P w K mg base CX0 1 "_law_digit" ["_law_state", "_law_base"] spDigit) :
    FnOk P w K mg base CX0 2 f fd ["_law_state", "_law_hands", "_law_ties", "_law_pieces_here", "_law_later", "_law_rare"] spMove := by
  refine def_ok F scMove (fun vs H Q E h => ?_) (fun cdv A outer s H vs Q E hr h => ?_)
  · obtain ⟨a, lh, lt, lp, d, rare, L, hs, ts, cs, st, rfl, _⟩ := h
    rfl
  · obtain ⟨a, lh, lt, lp, d, rare, L, hs, ts, cs, st, rfl, hra, hrb, rs, hL, hn, dh, dt, dc, okh, okt, okc, hd, ok, k⟩ := h
    have hu := hu_of hr
    have h64 := okc.len
    have h64t := okt.len
    have h8 := okh.hi
    have h1 := okh.lo
    refine ⟨_, pss_cons (ps_set (i := 6) scMove.nd rfl (Or.inl rfl) pe_str)
      (pss_cons (ps_if (PW.pt (pw_and (pt_cmpR (op_neD hr.units) (pv 3) (pe_lst pa_nil) (by rfl)) (pw_and1 (pt_cmpR op_gt (pe_g GD hr (pa_cons (pv 0) (pa_cons (pv 5) pa_nil)) pass0) pe_int (nomark _)))))
        (pss_one (ps_set (i := 6) scMove.nd rfl (Or.inl rfl) (pe_ix ix_tup (pe_ix ix_list (pv 3) (pe_g GD hr (pa_cons (pv 0) (pa_cons (pe_callB call_len_seq (by rfl) (T.free 37) PySem.boot_len (pa_cons (pv 3) pa_nil)) pa_nil)) pass0) (fun _ _ => rfl)) pe_int (fun _ _ => rfl)))) pss_nil)
      (pss_cons (ps_set (i := 7) scMove.nd rfl (Or.inr rfl) (pe_ix ix_tup (pe_ix ix_list (pv 1) (pe_g GD hr (pa_cons (pv 0) (pa_cons (pe_callB call_len_seq (by rfl) (T.free 37) PySem.boot_len (pa_cons (pv 1) pa_nil)) pa_nil)) pass0) (fun _ _ => rfl)) pe_int (fun _ _ => rfl)))
      (pss_cons (ps_if (pt_cmpR op_gt (pe_g GD hr (pa_cons (pv 0) (pa_cons (pv 5) pa_nil)) pass0) pe_int (nomark _)) (pss_one (ps_set (i := 7) scMove.nd rfl (Or.inr rfl) (pe_dget2 hu (pv 4) (pv 6) (pv 7) ⟨rfl, rfl, rfl, rfl⟩))) pss_nil)
      (pss_cons (ps_setLc (i := 8) (own := [("_law_tie", 11)]) (g := gName 11) rfl scMove.nd rfl rfl (sw_true rfl rfl rfl (by decide +kernel)) (pi_list (pv 2))
        (blkOk_by (N := ["_law_state", "_law_hands", "_law_ties", "_law_pieces_here", "_law_later", "_law_rare", "_law_name", "_law_one", "_law_near", "_law_other", "_law_some", "_law_tie"]) (sc := defScope (top 48)) (by decide +kernel)) (fun _ _ _ _ _ => pg_name (i := 11) scMove.nd rfl (Or.inl rfl)) (fun _ _ _ _ _ => pts_one (pt_cmpR (r := rIn K false) op_in_seq (pv 7) (pv 11) (by rfl)))
        (fun _ _ _ _ _ => pe_ix (r := rIxT K) ix_tup (pv 11) (pe_op op_sub pe_int (show PE _ _ (tTix K (tVar 11) (tCons (tVar 7) tNil)) from pe_tix (pv 11) (pa_cons (pv 7) pa_nil))) (fun _ _ => rfl)))
      (pss_cons (ps_set (i := 9) scMove.nd rfl (Or.inl rfl) (pe_ix ix_tup (pe_ix ix_list (pv 1) (pe_g GD hr (pa_cons (pv 0) (pa_cons (pe_callB call_len_seq (by rfl) (T.free 37) PySem.boot_len (pa_cons (pv 1) pa_nil)) pa_nil)) pass0) (fun _ _ => rfl)) pe_int (fun _ _ => rfl)))
      (pss_cons (ps_if (PW.pt (pw_and (pt_cmpR (op_neD hr.units) (pv 8) (pe_lst pa_nil) (by rfl)) (pw_and1 (pt_cmpR op_gt (pe_g GD hr (pa_cons (pv 0) (pa_cons (pv 5) pa_nil)) pass0) pe_int (nomark _)))))
        (pss_one (ps_set (i := 9) scMove.nd rfl (Or.inl rfl) (pe_ix ix_list (pv 8) (pe_g GD hr (pa_cons (pv 0) (pa_cons (pe_callB call_len_seq (by rfl) (T.free 37) PySem.boot_len (pa_cons (pv 8) pa_nil)) pa_nil)) pass0) (fun _ _ => rfl)))) pss_nil)
      (pss_cons (ps_set (i := 10) scMove.nd rfl (Or.inl rfl) (pe_lst (pa_cons (pe_lst (pa_cons (pv 6) (pa_cons (pv 7) (pa_cons (pv 9) pa_nil)))) (pa_cons (pe_tup (pa_cons (pv 6) (pa_cons (pv 7) pa_nil))) (pa_cons (pe_tup (pa_cons (pv 6) (pa_cons (pv 7) (pa_cons pe_int pa_nil)))) (pa_cons pe_non (pa_cons (pe_tup (pa_cons (pv 6) (pa_cons (pv 7) (pa_cons (pv 9) (pa_cons (pv 9) pa_nil))))) pa_nil)))))))
      (pss_cons (ps_if (PW.pt (pw_and (pt_cmpR op_eq (pe_g GD hr (pa_cons (pv 0) (pa_cons (pv 5) pa_nil)) pass0) pe_int (nomark _)) (pw_and1 (pt_cmpR op_eq (pe_g GD hr (pa_cons (pv 0) (pa_cons pe_int pa_nil)) pass0) pe_int (nomark _)))))
        (pss_one (ps_ret (pe_ix ix_list (pv 10) (pe_g GD hr (pa_cons (pv 0) (pa_cons pe_int pa_nil)) pass0) (fun _ _ => rfl)))) pss_nil)
      (pss_one (ps_ret (pe_tup (pa_cons (pv 6) (pa_cons (pv 7) (pa_cons (pv 9) pa_nil)))))))))))))), ?_⟩
    have nlp : ∀ {H2 : Hp} {z : Addr}, But a H H2 → RS H2 a → H2 z = none → ¬ z ∈ L := fun {H2 z} b2 r2 e m => hn z m (b2.none ((r2.new e).symm) e)
    -- pieces != []
    refine ⟨_, rfl, (by show 0 ≤ sizeLine; decide), fun q0 hq0 => ?_⟩
    have n0a : q0 ≠ a := (rs.new hq0).symm
    have b0 := But.new a (o := .lst []) hq0
    have r0 := rs.put (o := .lst []) n0a
    have dc0 := (dc.up (b0.offs (L := [a]) (List.mem_cons_self ..)))
    have e0 : upd H q0 (.lst []) q0 = some (.lst []) := upd_same
    generalize upd H q0 (.lst []) = H0 at b0 r0 dc0 e0 ⊢
    refine ⟨dCs cs, .list [], (dc0.up (off_le _ _)).dp, .lst (SqL.of e0) .nil, dCs_shaped okh okt okc.ok, nil_shaped, _, rfl, ?_⟩
    rw [show (!PyData.eqv (dCs cs) (.list [])) = decide (cs ≠ []) from neq_list dC cs]
    by_cases hc0 : cs ≠ []
    case' neg =>
      refine iteC (decide_eq_false hc0) (iteF ?_)
      obtain ⟨H2, e2⟩ : ∃ H2, H2 = H0 := ⟨_, rfl⟩
      have b2 : But a H H2 := by rw [e2]; exact b0
      have r2 : RS H2 a := by rw [e2]; exact r0
      obtain ⟨name, en⟩ : ∃ name : Str, name = "nobody" := ⟨_, rfl⟩
      rw [← e2, ← en]
    case' pos =>
      refine iteB (decide_eq_true hc0) ?_
      have hcl : 0 < cs.length := List.length_pos_iff.mpr hc0
      refine ⟨_, rfl, _, rfl, a, rare, rfl, hra, hrb, r0, fun d1 H1 ld1 b01 r1 => ⟨_, _, rfl, rfl, _, rfl, ?_⟩⟩
      have b1 := b0.trans b01
      by_cases hd1 : (0 : Int) < d1
      case' pos =>
        refine iteB (decide_eq_true hd1) ?_
        obtain ⟨ys, hy, nya, ly, pick⟩ := dt_pickC (dc0.up (b01.offs (L := [a]) (List.mem_cons_self ..)))
        refine ⟨_, rfl, _, rfl, _, rfl, lp, _, rfl, .inl (SqL.of hy), a, (ys.length : Nat), rfl, by omega, by omega, r1, fun e H2 le b12 r2 => ?_⟩
        obtain ⟨th, c, u, at1, mc, nta, hth⟩ := pick e (by omega)
        refine ⟨lp, _, _, _, rfl, rfl, SqL.of (b12 _ _ nya hy), at1, th, _, 0, _, rfl, rfl, SqT.of (b12 _ _ nta hth), rfl, ?_⟩
        have b2 := b1.trans b12
        obtain ⟨name, en⟩ : ∃ name : Str, name = c.1 := ⟨_, rfl⟩
        rw [← en]
      case' neg =>
        refine iteC (decide_eq_false hd1) ?_
        obtain ⟨H2, e2⟩ : ∃ H2, H2 = H1 := ⟨_, rfl⟩
        have b2 : But a H H2 := by rw [e2]; exact b1
        have r2 : RS H2 a := by rw [e2]; exact r1
        obtain ⟨name, en⟩ : ∃ name : Str, name = "nobody" := ⟨_, rfl⟩
        rw [← e2, ← en]
    all_goals
      obtain ⟨hy, hhy, nha, lhy, hpick⟩ := dt_pick (dh.up (b2.offs (L := [a]) (List.mem_cons_self ..)))
      refine ⟨_, rfl, _, rfl, _, rfl, lh, _, rfl, .inl (SqL.of hhy), a, (hy.length : Nat), rfl, by omega, by omega, r2, fun e3 H3 le3 b23 r3 => ?_⟩
      obtain ⟨th, h, at3, mh, nth, hth⟩ := hpick e3 (by omega)
      refine ⟨lh, _, _, _, rfl, rfl, SqL.of (b23 _ _ nha hhy), at3, th, _, 0, _, rfl, rfl, SqT.of (b23 _ _ nth hth), rfl, ?_⟩
      have b3 := b2.trans b23
      refine ⟨_, rfl, _, rfl, a, rare, rfl, hra, hrb, r3, fun d2 H4 ld2 b34 r4 => ⟨_, _, rfl, rfl, _, rfl, ?_⟩⟩
      have b4 := b3.trans b34
      have nda : d ≠ a := rs.ne hd (by intro _ z; cases z)
      have hd4 := b4 _ _ nda hd
      by_cases hd2 : (0 : Int) < d2
      case' neg =>
        refine iteC (decide_eq_false hd2) ?_
        obtain ⟨one, eo⟩ : ∃ one : Str, one = h.1 := ⟨_, rfl⟩
        have m1 : one ∈ hs.map (·.1) := by
          rw [eo]
          exact List.mem_map.mpr ⟨h, mh, rfl⟩
        rw [← eo]
      case' pos =>
        refine iteB (decide_eq_true hd2) ?_
        obtain ⟨one, eo, m1⟩ : ∃ one : Str, (((lk st name).map V.str).getD (V.str h.1)) = V.str one ∧ one ∈ hs.map (·.1) := by
          cases e : lk st name with
          | none => exact ⟨h.1, rfl, List.mem_map.mpr ⟨h, mh, rfl⟩⟩
          | some x =>
            refine ⟨x, rfl, ?_⟩
            obtain ⟨p, mp, rfl⟩ := List.mem_map.mp (lk_mem e)
            exact ok.at_ p mp
        refine ⟨_, rfl, d, rfl, .inl ⟨_, .inl hd4⟩, _, rfl, _, rfl, (lk st name).map V.str, by rw [← lk_val]; exact DGet.k (k := Sum.inr name) hd4, ?_⟩
        rw [eo]
      all_goals
        -- the hands near by
        obtain ⟨acc, hacc, pf⟩ := dt.up (b4.offs (L := [a]) (List.mem_cons_self ..))
        obtain ⟨nlt, hacc⟩ := off_one hacc
        have lacc := pf.len
        refine ⟨_, rfl, lt, rfl, ⟨_, SqL.of hacc⟩, fun D hD => ?_⟩
        have nDa : D ≠ a := (r4.new hD).symm
        refine lc_dataS (walk_list (xs := acc)) a (fun i ds => ∃ xs : List Str, ds = xs.map PyData.str ∧ (∀ x ∈ xs, x ∈ hs.map (·.1)) ∧ xs.length ≤ i) (small1000 (by omega)) hD r4 (fun H5 b5 => SqL.of (b5 _ _ nlt hacc)) ⟨[], rfl, (fun _ m => nomatch m), Nat.le_refl _⟩ ?_ ?_
        · rintro i v ds H5 H6 N R hi ⟨xs, rfl, mx, lx⟩ b5 r5 nD ⟨rfl, hv⟩ kN kR
          have hv : acc[i]? = some v := hv
          obtain ⟨t, ht, q, ob, rfl, dob, hq⟩ := pf.at_ hv
          obtain ⟨nqa, hq⟩ := off_one hq
          have hq5 := b5 _ _ nqa hq
          have sq : SqT K H6 q ([t.1, t.2].map V.str) := (PrO.frz dob).sq hq5
          refine ⟨rfl, _, rfl, _, rfl, q, _, rfl, .inr sq, rfl, flat_strs _, _, rfl, ?_⟩
          show if inV (V.str one) ([t.1, t.2].map V.str) = true then _ else _
          rw [inV_strs]
          by_cases hm : one ∈ [t.1, t.2]
          · refine iteB (decide_eq_true hm) ?_
            have mm := okt.mem t (List.mem_of_getElem? ht)
            obtain ⟨j, y, hj, fj, aj, my⟩ : ∃ (j : Nat) (y : Str), [t.1, t.2][j]? = some one ∧ (∀ m, m < j → [t.1, t.2][m]? ≠ some one) ∧ atI ([t.1, t.2].map V.str) (1 - (j : Int)) = some (V.str y) ∧ y ∈ hs.map (·.1) := by
              by_cases e : t.1 = one
              · exact ⟨0, t.2, by rw [e]; rfl, fun m hm => by omega, rfl, mm.2⟩
              · have e2 : t.2 = one := by
                  rcases List.mem_cons.mp hm with z | z
                  · exact absurd z.symm e
                  · exact (List.mem_singleton.mp z).symm
                refine ⟨1, t.1, by rw [e2]; rfl, fun m hm => ?_, rfl, mm.1⟩
                obtain rfl : m = 0 := by omega
                exact fun z => e (Option.some.inj z)
            refine ⟨_, rfl, _, rfl, ⟨q, ob, _, rfl, dob, hq5⟩, _, rfl, q, [t.1, t.2], one, j, rfl, rfl, sq, hj, fj, _, _, rfl, rfl, q, _, _, _, rfl, rfl, sq, aj, ?_⟩
            refine kR (.str y) (.str y) _ (But.refl a _) r5 (.str y) ⟨xs ++ [y], by rw [List.map_append]; rfl, fun x hx => ?_, by rw [List.length_append]; show xs.length + 1 ≤ i + 1; omega⟩
            rcases List.mem_append.mp hx with z | z
            · exact mx x z
            · rw [List.mem_singleton.mp z]
              exact my
          · exact iteC (decide_eq_false hm) (kN _ (But.refl a _) r5 ⟨xs, rfl, mx, by omega⟩)
        · rintro H5 ds b45 r5 ⟨near, rfl, mn, lnr⟩ dn
          have b5 := b4.trans b45
          obtain ⟨hy5, hhy5, nha5, lhy5, hpick5⟩ := dt_pick (dh.up (b5.offs (L := [a]) (List.mem_cons_self ..)))
          refine ⟨_, rfl, _, rfl, _, rfl, lh, _, rfl, .inl (SqL.of hhy5), a, (hy5.length : Nat), rfl, by omega, by omega, r5, fun e6 H6 le6 b56 r6 => ?_⟩
          obtain ⟨th6, h6, at6, mh6, nth6, hth6⟩ := hpick5 e6 (by omega)
          refine ⟨lh, _, _, _, rfl, rfl, SqL.of (b56 _ _ nha5 hhy5), at6, th6, _, 0, _, rfl, rfl, SqT.of (b56 _ _ nth6 hth6), rfl, ?_⟩
          have b6 := b5.trans b56
          have dn6 := dn.up (b56.offs (L := [a]) (List.mem_cons_self ..))
          have mh6' : h6.1 ∈ hs.map (·.1) := List.mem_map.mpr ⟨h6, mh6, rfl⟩
          -- near != []
          refine ⟨_, rfl, (by show 0 ≤ sizeLine; decide), fun q7 hq7 => ?_⟩
          have n7a : q7 ≠ a := (r6.new hq7).symm
          have b67 := But.new a (o := .lst []) hq7
          have b7 := b6.trans b67
          have r7 := r6.put (o := .lst []) n7a
          have dn7 := dn6.up (b67.offs (L := [a]) (List.mem_cons_self ..))
          have e7 : upd H6 q7 (.lst []) q7 = some (.lst []) := upd_same
          generalize upd H6 q7 (.lst []) = H7 at b67 b7 r7 dn7 e7 ⊢
          refine ⟨.list (near.map PyData.str), .list [], (dn7.up (off_le _ _)).dp, .lst (SqL.of e7) .nil, strs_shaped (fun x m => okh.name (mn x m)), nil_shaped, _, rfl, ?_⟩
          rw [show (!PyData.eqv (.list (near.map PyData.str)) (.list [])) = decide (near ≠ []) from neq_list PyData.str near]
          by_cases hn0 : near ≠ []
          case' neg =>
            refine iteC (decide_eq_false hn0) (iteF ?_)
            obtain ⟨H9, e9⟩ : ∃ H9, H9 = H7 := ⟨_, rfl⟩
            have b9 : But a H H9 := by rw [e9]; exact b7
            have r9 : RS H9 a := by rw [e9]; exact r7
            obtain ⟨other, eo⟩ : ∃ other : Str, other = h6.1 := ⟨_, rfl⟩
            have m2 : other ∈ hs.map (·.1) := by rw [eo]; exact mh6'
            rw [← e9, ← eo]
          case' pos =>
            refine iteB (decide_eq_true hn0) ?_
            have hnl : 0 < near.length := List.length_pos_iff.mpr hn0
            refine ⟨_, rfl, _, rfl, a, rare, rfl, hra, hrb, r7, fun d8 H8 ld8 b78 r8 => ⟨_, _, rfl, rfl, _, rfl, ?_⟩⟩
            have b8 := b7.trans b78
            by_cases hd8 : (0 : Int) < d8
            case' neg =>
              refine iteC (decide_eq_false hd8) ?_
              obtain ⟨H9, e9⟩ : ∃ H9, H9 = H8 := ⟨_, rfl⟩
              have b9 : But a H H9 := by rw [e9]; exact b8
              have r9 : RS H9 a := by rw [e9]; exact r8
              obtain ⟨other, eo⟩ : ∃ other : Str, other = h6.1 := ⟨_, rfl⟩
              have m2 : other ∈ hs.map (·.1) := by rw [eo]; exact mh6'
              rw [← e9, ← eo]
            case' pos =>
              refine iteB (decide_eq_true hd8) ?_
              obtain ⟨zs, hz, dz⟩ := (dn7.up (b78.offs (L := [a]) (List.mem_cons_self ..))).list_inv
              obtain ⟨_, hz⟩ := off_one hz
              have ezs := dt_strs dz
              subst ezs
              have lnear : near.length ≤ 1000000 := by omega
              refine ⟨_, rfl, _, rfl, _, rfl, D, _, rfl, .inl (SqL.of hz), a, ((near.map V.str).length : Nat), rfl, by rw [List.length_map]; omega, by rw [List.length_map]; omega, r8, fun e9 H9 le9 b89 r9 => ?_⟩
              rw [List.length_map] at le9
              have le9' : e9 < near.length := by omega
              obtain ⟨other, ho9⟩ : ∃ other : Str, near[e9]? = some other := ⟨near[e9], List.getElem?_eq_getElem le9'⟩
              refine ⟨D, _, _, V.str other, rfl, rfl, SqL.of (b89 _ _ nDa hz), at_int (by rw [List.getElem?_map, ho9]; rfl), ?_⟩
              have b9 := b8.trans b89
              have m2 : other ∈ hs.map (·.1) := mn _ (List.mem_of_getElem? ho9)
          all_goals
            -- the five that are none
            refine ⟨_, rfl, _, rfl, _, rfl, (by show 3 ≤ sizeLine; decide), fun z1 hz1 => ?_⟩
            have n1L := nlp b9 r9 hz1
            have n1a : z1 ≠ a := (r9.new hz1).symm
            have bA := b9.trans (But.new a (o := .lst [.str name, .str one, .str other]) hz1)
            have rA := r9.put (o := .lst [.str name, .str one, .str other]) n1a
            have c1 : upd H9 z1 (.lst [.str name, .str one, .str other]) z1 = some (.lst [.str name, .str one, .str other]) := upd_same
            generalize upd H9 z1 (.lst [.str name, .str one, .str other]) = HA at bA rA c1 ⊢
            refine ⟨_, rfl, _, rfl, (by show 2 ≤ sizeLine; decide), fun z2 hz2 => ?_⟩
            have n2L := nlp bA rA hz2
            have n2a : z2 ≠ a := (rA.new hz2).symm
            have bB := bA.trans (But.new a (o := .tup [.str name, .str one]) hz2)
            have rB := rA.put (o := .tup [.str name, .str one]) n2a
            have d1 := same_new (o := .tup [.str name, .str one]) hz2 _ _ c1
            have c2 : upd HA z2 (.tup [.str name, .str one]) z2 = some (.tup [.str name, .str one]) := upd_same
            generalize upd HA z2 (.tup [.str name, .str one]) = HB at bB rB d1 c2 ⊢
            refine ⟨_, rfl, _, rfl, (by show 3 ≤ sizeLine; decide), fun z3 hz3 => ?_⟩
            have n3L := nlp bB rB hz3
            have n3a : z3 ≠ a := (rB.new hz3).symm
            have bC := bB.trans (But.new a (o := .tup [.str name, .str one, .int 5]) hz3)
            have rC := rB.put (o := .tup [.str name, .str one, .int 5]) n3a
            have sC := same_new (o := .tup [.str name, .str one, .int 5]) hz3
            have g1 := sC _ _ d1
            have g2 := sC _ _ c2
            have c3 : upd HB z3 (.tup [.str name, .str one, .int 5]) z3 = some (.tup [.str name, .str one, .int 5]) := upd_same
            generalize upd HB z3 (.tup [.str name, .str one, .int 5]) = HC at bC rC g1 g2 c3 ⊢
            refine ⟨_, rfl, _, rfl, _, rfl, _, rfl, (by show 4 ≤ sizeLine; decide), fun z4 hz4 => ?_⟩
            have n4L := nlp bC rC hz4
            have n4a : z4 ≠ a := (rC.new hz4).symm
            have bD := bC.trans (But.new a (o := .tup [.str name, .str one, .str other, .str other]) hz4)
            have rD := rC.put (o := .tup [.str name, .str one, .str other, .str other]) n4a
            have sD := same_new (o := .tup [.str name, .str one, .str other, .str other]) hz4
            have k1 := sD _ _ g1
            have k2 := sD _ _ g2
            have k3 := sD _ _ c3
            have c4 : upd HC z4 (.tup [.str name, .str one, .str other, .str other]) z4 = some (.tup [.str name, .str one, .str other, .str other]) := upd_same
            generalize upd HC z4 (.tup [.str name, .str one, .str other, .str other]) = HD at bD rD k1 k2 k3 c4 ⊢
            refine ⟨(by show 5 ≤ sizeLine; decide), fun z5 hz5 => ?_⟩
            have n5a : z5 ≠ a := (rD.new hz5).symm
            have bE := bD.trans (But.new a (o := .lst [.ref z1, .ref z2, .ref z3, .non, .ref z4]) hz5)
            have rE := rD.put (o := .lst [.ref z1, .ref z2, .ref z3, .non, .ref z4]) n5a
            have sE := same_new (o := .lst [.ref z1, .ref z2, .ref z3, .non, .ref z4]) hz5
            have m1' := sE _ _ k1
            have m2' := sE _ _ k2
            have m3' := sE _ _ k3
            have m4' := sE _ _ c4
            have c5 : upd HD z5 (.lst [.ref z1, .ref z2, .ref z3, .non, .ref z4]) z5 = some (.lst [.ref z1, .ref z2, .ref z3, .non, .ref z4]) := upd_same
            generalize upd HD z5 (.lst [.ref z1, .ref z2, .ref z3, .non, .ref z4]) = HE at bE rE m1' m2' m3' m4' c5 ⊢
            refine ⟨_, rfl, _, rfl, a, rare, rfl, hra, hrb, rE, fun dF HF ldF bEF rF => ⟨rfl, _, rfl, ?_⟩⟩
            have bF := bE.trans bEF
            by_cases h0 : V.int (dF : Nat) = V.int 0
            case' neg =>
              refine iteC (decide_eq_false h0) (iteF ?_)
              obtain ⟨HG, eG⟩ : ∃ HG, HG = HF := ⟨_, rfl⟩
              have bG : But a H HG := by rw [eG]; exact bF
              have rG : RS HG a := by rw [eG]; exact rF
              rw [← eG]
            case' pos =>
              refine iteB (decide_eq_true h0) ?_
              refine ⟨_, rfl, a, 4, rfl, by decide, by decide, rF, fun dG HG ldG bFG rG => ⟨rfl, _, rfl, ?_⟩⟩
              have bG := bF.trans bFG
              by_cases h1' : V.int (dG : Nat) = V.int 0
              case pos =>
                refine iteB (decide_eq_true h1') ?_
                refine ⟨_, rfl, _, rfl, a, 5, rfl, by decide, by decide, rG, fun dI HI ldI bGI rI => ?_⟩
                have bEI := (bEF.trans bFG).trans bGI
                have j1 := bEI _ _ n1a m1'
                have j2 := bEI _ _ n2a m2'
                have j3 := bEI _ _ n3a m3'
                have j4 := bEI _ _ n4a m4'
                have j5 := bEI _ _ n5a c5
                obtain ⟨m, v, av, dv, mi⟩ : ∃ (m : Mv) (v : V), atI [V.ref z1, .ref z2, .ref z3, .non, .ref z4] (dI : Int) = some v ∧ Dt (Off L HI) v (dMv m) ∧ MvIn hs m := by
                  match dI, ldI with
                  | 0, _ => exact ⟨.lst name one other, .ref z1, rfl, .lst (off_set j1 n1L) (.cons (.str _) (.cons (.str _) (.cons (.str _) .nil))), trivial⟩
                  | 1, _ => exact ⟨.two name one, .ref z2, rfl, .tup (off_set j2 n2L) (.cons (.str _) (.cons (.str _) .nil)), trivial⟩
                  | 2, _ => exact ⟨.five name one, .ref z3, rfl, .tup (off_set j3 n3L) (.cons (.str _) (.cons (.str _) (.cons (.int _) .nil))), m1⟩
                  | 3, _ => exact ⟨.non, .non, rfl, .non, trivial⟩
                  | 4, _ => exact ⟨.four name one other other, .ref z4, rfl, .tup (off_set j4 n4L) (.cons (.str _) (.cons (.str _) (.cons (.str _) (.cons (.str _) .nil)))), trivial⟩
                  | n + 5, h => omega
                exact ⟨z5, _, _, v, rfl, rfl, SqL.of j5, av, k m v _ (bE.trans bEI) rI dv mi⟩
              refine iteC (decide_eq_false h1') ?_
            all_goals
              refine ⟨_, rfl, _, rfl, _, rfl, (by show 3 ≤ sizeLine; decide), fun z hz => ?_⟩
              have nzL := nlp bG rG hz
              have nza : z ≠ a := (rG.new hz).symm
              exact k (.ok name one other) (.ref z) _ (bG.trans (But.new a hz)) (rG.put nza) (.tup (off_set upd_same nzL) (.cons (.str _) (.cons (.str _) (.cons (.str _) .nil)))) ⟨m1, m2⟩
end
end Kp
namespace Kp
open PySem PySem.Spec PyProof.Rows L2
def spLaw (K : PySem.W.Frag) : Sp := fun vs H Q _ => ∃ (l : Addr) (ns : List Int), vs = [.ref l] ∧ SqL K H l (ns.map V.int) ∧ ns.length ≤ 63 ∧ ∀ H', Q (.bl true) H'
theorem at_four {i j k l : Int} {e : Nat} (h : (e : Int) < 4) : ∃ z : Int, atI [V.int i, .int j, .int k, .int l] (e : Int) = some (.int z) ∧ (z = i ∨ z = j ∨ z = k ∨ z = l) := by
  match e, h with
  | 0, _ => exact ⟨i, rfl, .inl rfl⟩
  | 1, _ => exact ⟨j, rfl, .inr (.inl rfl)⟩
  | 2, _ => exact ⟨k, rfl, .inr (.inr (.inl rfl))⟩
  | 3, _ => exact ⟨l, rfl, .inr (.inr (.inr rfl))⟩
  | n + 4, h => omega
theorem at_pick {i j : Int} (b : Bool) : ∃ z : Int, atI [V.int i, .int j] (if b = true then 1 else 0) = some (.int z) ∧ (z = i ∨ z = j) := by
  cases b with
  | true => exact ⟨j, rfl, .inr rfl⟩
  | false => exact ⟨i, rfl, .inl rfl⟩
theorem mv_put {H : Hp} {v : V} {m : Mv} {hs : List (Str × Int)} (dt : Dt H v (dMv m)) (mi : MvIn hs m) : (∃ (tm : Addr) (pn one : Str) (x2 : V) (nv : Str), v = .ref tm ∧ H tm = some (.tup [.str pn, .str one, x2]) ∧ atI [x2, V.str one] (if decide (x2 = V.int 5) = true then 1 else 0) = some (V.str nv) ∧ nv ∈ hs.map (·.1)) ∨
    (∃ (t : Addr) (xs : List V), v = .ref t ∧ (∀ K : PySem.W.Frag, TyX K H (.ref t) (.type "tuple") ∧ SqT K H t xs) ∧ xs.length ≠ 3) ∨ (∃ (l : Addr) (xs : List V), v = .ref l ∧ H l = some (.lst xs)) ∨ v = .non := by
  cases m with
  | ok p a b =>
    obtain ⟨t, e, q⟩ := dt_flat (xs := [p, a, b]) dt
    exact .inl ⟨t, p, a, .str b, b, e, q, by rw [decide_eq_false (by intro z; cases z)]; rfl, mi.2⟩
  | five p a =>
    obtain ⟨t, e, q⟩ := dt_five dt
    exact .inl ⟨t, p, a, .int 5, a, e, q, by rw [decide_eq_true rfl]; rfl, mi⟩
  | two p a =>
    obtain ⟨t, o, e, q, po⟩ := dt_pr (t := (p, a)) dt
    exact .inr (.inl ⟨t, _, e, fun K => ⟨po.ty q, po.sq q⟩, by show 2 ≠ 3; decide⟩)
  | four p a b c =>
    obtain ⟨t, e, q⟩ := dt_flat (xs := [p, a, b, c]) dt
    exact .inr (.inl ⟨t, _, e, fun K => ⟨.base (.tup q), SqT.of q⟩, by show 4 ≠ 3; decide⟩)
  | lst p a b =>
    obtain ⟨l, xs, e, hl, _⟩ := dt.list_inv'
    exact .inr (.inr (.inl ⟨l, xs, e, hl⟩))
  | non =>
    cases dt
    exact .inr (.inr (.inr rfl))
theorem mv_scal {x2 : V} {one nv : Str} (h : atI [x2, V.str one] (if decide (x2 = V.int 5) = true then 1 else 0) = some (V.str nv)) : scal x2 (V.int 5) = true := by
  by_cases e : x2 = V.int 5
  · rw [e]
    rfl
  · rw [decide_eq_false e] at h
    have h : some x2 = some (V.str nv) := h
    rw [Option.some.inj h]
    rfl
section
variable {P : Program} {w : World} {K : PySem.W.Frag} {mg : Str → Option Value} {base : Heap}
theorem scLaw : FnScope ["_law_script", "_law_hands", "_law_ties", "_law_pieces_here", "_law_goods", "_law_k", "_law_state", "_law_stand_here", "_law_later", "_law_rare", "_law_row", "_law_turn", "_law_move_here", "_law_due"] ["_law_script"] (defScope (top 50)) := ⟨rfl, rfl, rfl, by decide +kernel, rfl, by decide +kernel, by decide +kernel⟩
theorem ok_law {f : Addr} {fd : FuncData} (F : FnP K "law" "law" (top 50) f fd) (T : Txt K mg) (GC : Gn P w K mg base CX0 1 "_law_cell_at" ["_law_script", "_law_k"] (spCellAt K)) (GD : Gn P w K mg base CX0 1 "_law_digit" ["_law_state", "_law_base"] spDigit)
    (GS : Gn P w K mg base CX0 2 "_law_stand" ["_law_state", "_law_pieces_here", "_law_hands"] spStandD) (GM : Gn P w K mg base CX0 8 "_law_made" ["_law_script"] (spMade K))
    (GV : Gn P w K mg base CX0 2 "_law_move" ["_law_state", "_law_hands", "_law_ties", "_law_pieces_here", "_law_later", "_law_rare"] spMove) (GW : Gn P w K mg base CX0 2 "_law_walked" ["_law_ties", "_law_pieces_here", "_law_stand_here", "_law_row"] spWalked)
    (GJ : Gn P w K mg base CX0 6 "judged" ["goods", "stand", "moves"] (spJudged K)) (GL : Gn P w K mg base CX0 8 "_law_moved" ["_law_goods", "_law_stand_here", "_law_row"] (spLMoved K)) :
    FnOk P w K mg base CX0 9 f fd ["_law_script"] (spLaw K) := by
  refine def_ok F scLaw (fun vs H Q E h => ?_) (fun cdv A outer s H vs Q E hr h => ?_)
  · obtain ⟨l, ns, rfl, _⟩ := h
    rfl
  · obtain ⟨l, ns, rfl, hl, hlen, k⟩ := h
    have hu := hu_of hr
    refine ⟨_, pss_cons (ps_asg (pe_g GM hr (pa_cons (pv 0) pa_nil) pass0) (pg_tup rfl (pgs_cons (pg_name (i := 1) scLaw.nd rfl (Or.inl rfl)) (pgs_cons (pg_name (i := 2) scLaw.nd rfl (Or.inl rfl)) (pgs_cons (pg_name (i := 3) scLaw.nd rfl (Or.inl rfl)) (pgs_cons (pg_name (i := 4) scLaw.nd rfl (Or.inl rfl)) pgs_nil))))))
      (pss_cons (ps_for PassesOwn.never rfl (pi_range2 (by rfl) (T.free 41) (pa_cons pe_int (pa_cons (pe_callB (call_max2 rfl) (by rfl) (T.free 43) boot_maxB (pa_cons pe_int (pa_cons (pe_callB (call_min2 rfl) (by rfl) (T.free 44) boot_minB (pa_cons pe_int (pa_cons (pe_callB call_len_seq (by rfl) (T.free 37) PySem.boot_len (pa_cons (pv 0) pa_nil)) pa_nil))) pa_nil))) pa_nil)))
        (pg_name (i := 5) scLaw.nd rfl (Or.inl rfl))
        (pss_cons (ps_set (i := 6) scLaw.nd rfl (Or.inl rfl) (pe_lst (pa_cons (pe_op op_add (pe_g GC hr (pa_cons (pv 0) (pa_cons (pv 5) pa_nil)) pass0) (pe_op op_mul pe_int (pv 5))) pa_nil)))
        (pss_cons (ps_set (i := 7) scLaw.nd rfl (Or.inl rfl) (pe_g GS hr (pa_cons (pv 6) (pa_cons (pv 3) (pa_cons (pv 1) pa_nil))) pass0))
        (pss_cons (ps_set (i := 8) scLaw.nd rfl (Or.inl rfl) (pe_callTy call_dictD (by rfl) (T.free 36) boot_dictT (pa_cons (pv 7) pa_nil)))
        (pss_cons (ps_set (i := 9) scLaw.nd rfl (Or.inl rfl) (pe_ix ix_list (pe_lst (pa_cons pe_int (pa_cons pe_int (pa_cons pe_int (pa_cons pe_int pa_nil))))) (pe_g GD hr (pa_cons (pv 6) (pa_cons pe_int pa_nil)) pass0) (fun _ _ => rfl)))
        (pss_cons (ps_set (i := 10) scLaw.nd rfl (Or.inl rfl) (pe_lst pa_nil))
        (pss_cons (ps_for PassesOwn.never rfl (pi_range1 (by rfl) (T.free 41) (pa_cons (pe_g GD hr (pa_cons (pv 6) (pa_cons (pe_ix ix_list (pe_lst (pa_cons pe_int (pa_cons pe_int pa_nil))) (pe_callTy call_int1 (by rfl) (T.free 31) boot_intT (pa_cons (pe_cmpR op_gt (pv 9) pe_int (by rfl)) pa_nil)) (fun _ _ => rfl)) pa_nil)) pass0) pa_nil)) (pg_name (i := 11) scLaw.nd rfl (Or.inl rfl))
          (pss_cons (ps_set (i := 12) scLaw.nd rfl (Or.inl rfl) (pe_g GV hr (pa_cons (pv 6) (pa_cons (pv 1) (pa_cons (pv 2) (pa_cons (pv 3) (pa_cons (pv 8) (pa_cons (pv 9) pa_nil)))))) pass0))
          (pss_cons (ps_expr (pe_bm PySem.F.plainAttrs_list PySem.F.slot_list_append PySem.F.type_list_append mt_append (pv 10) (pa_cons (pv 12) pa_nil)))
          (pss_one (ps_if (PW.pt (pw_and (pt_val (pe_isi (T.free 30) (T.free 34) boot_tupleT (pv 12))) (pw_and (pt_cmpR op_eq (pe_callB call_len_seq (by rfl) (T.free 37) PySem.boot_len (pa_cons (pv 12) pa_nil)) pe_int (nomark _))
              (pw_and1 (pt_cmp (pc_din hu (pe_ix ix_tup (pv 12) pe_int (fun _ _ => rfl)) (pv 8)) (by rfl))))))
            (pss_one (ps_dput hu (pv 8) (pe_ix ix_tup (pv 12) pe_int (fun _ _ => rfl)) (pe_ix ix_list (pe_lst (pa_cons (pe_ix ix_tup (pv 12) pe_int (fun _ _ => rfl)) (pa_cons (pe_ix ix_tup (pv 12) pe_int (fun _ _ => rfl)) pa_nil)))
              (pe_callTy call_int1 (by rfl) (T.free 31) boot_intT (pa_cons (pe_cmpR op_eq (pe_ix ix_tup (pv 12) pe_int (fun _ _ => rfl)) pe_int (nomark _)) pa_nil)) (fun _ _ => rfl)) rfl)) pss_nil)))))
        (pss_cons (ps_set (i := 13) scLaw.nd rfl (Or.inl rfl) (pe_g GW hr (pa_cons (pv 2) (pa_cons (pv 3) (pa_cons (pv 7) (pa_cons (pv 10) pa_nil)))) pass0))
        (pss_one (ps_if (PW.pt (pw_or (pt_cmpR (op_neT hr.units) (pe_g GJ hr (pa_cons (pv 4) (pa_cons (pv 7) (pa_cons (pv 10) pa_nil))) pass0) (pv 13) (by rfl)) (pw_or (pt_cmpR (op_neT hr.units) (pe_g GL hr (pa_cons (pv 4) (pa_cons (pv 7) (pa_cons (pv 10) pa_nil))) pass0) (pv 13) (by rfl))
          (pw_or1 (pt_cmpR (op_neT hr.units) (pe_g GJ hr (pa_cons (pv 4) (pa_cons (pv 7) (pa_cons (pv 10) pa_nil))) pass0) (pv 13) (by rfl)))))) (pss_one (ps_ret pe_bl)) pss_nil))))))))))
      (pss_one (ps_ret pe_bl))), ?_⟩
    refine ⟨_, rfl, l, ns, rfl, hl, fun hs ts cs H1 t lh lt lp g s1 ht dh tf dc ga okh => ?_⟩
    refine ⟨t, _, rfl, SqT.of ht, rfl, _, _, rfl, _, _, rfl, _, _, rfl, _, _, rfl, rfl, ?_⟩
    have okc := ga.okc
    have okt := ga.okt
    have h64 := okc.len
    have hl1 := s1.seq hl
    refine ⟨_, rfl, l, _, rfl, .inl hl1, _, _, rfl, _, _, rfl, 2, _, rfl, ⟨by omega, by omega, ?_, ?_⟩, for_range (lo := 2) (fun i σ H5 => ∃ v5 v6 v7 v8 v9 v10 v11 v12 v13 : Option V, σ = [some (.ref l), some (.ref lh), some (.ref lt), some (.ref lp), some (.ref g), v5, v6, v7, v8, v9, v10, v11, v12, v13] ∧ Same H1 H5)
      ⟨_, _, _, _, _, _, _, _, _, rfl, Same.refl _⟩ ?_ ?_⟩
    · split <;> split <;> omega
    · split <;> split <;> omega
    · rintro i σ H2 hi ⟨v5, v6, v7, v8, v9, v10, v11, v12, v13, rfl, s2⟩
      -- the state
      refine ⟨_, rfl, _, rfl, l, ns, i + 2, by rw [show (2 : Int) + (i : Int) = ((i + 2 : Nat) : Int) by omega]; rfl, s2.seq hl1, fun c0 => ?_⟩
      refine ⟨_, rfl, _, _, rfl, rfl, .inl ⟨by decide, by decide⟩, _, _, rfl, rfl, (by show 1 ≤ sizeLine; decide), fun a na => ?_⟩
      obtain ⟨c1, ec⟩ : ∃ c1 : Int, c1 = c0 + 11 * (2 + (i : Int)) := ⟨_, rfl⟩
      have h3 : upd H2 a (.lst [.int (c0 + 11 * (2 + (i : Int)))]) a = some (.lst [.int c1]) := by rw [upd_same, ec]
      have s3 : Same H2 (upd H2 a (.lst [.int (c0 + 11 * (2 + (i : Int)))])) := same_new na
      have o3 : Same H2 (Off [a] (upd H2 a (.lst [.int (c0 + 11 * (2 + (i : Int)))]))) := off_new na
      generalize upd H2 a (.lst [.int (c0 + 11 * (2 + (i : Int)))]) = H3 at h3 s3 o3 ⊢
      have r3 : RS H3 a := .inl ⟨c1, h3⟩
      have dh3 := (dh.up s2).up o3
      have dc3 := (dc.up s2).up o3
      have tf3 := (tf.up s2).up o3
      -- the stand
      refine ⟨_, rfl, _, rfl, _, rfl, a, lp, lh, hs, ts, cs, rfl, r3, dc3, dh3, okh, okc, fun st d H4 b34 r4 nd hd okst => ?_⟩
      have nda : d ≠ a := (r3.new nd).symm
      have s4 : Same H2 H4 := fun b o e => b34 b o (ne_of_none e na) (s3 b o e)
      -- later, rare, row
      refine ⟨_, rfl, d, _, rfl, .inl hd, fun p np => ?_⟩
      have npa : p ≠ a := (r4.new np).symm
      have b5 := But.new a (o := .dK (stK st)) np
      have r5 := r4.put (o := .dK (stK st)) npa
      have p5 : upd H4 p (.dK (stK st)) p = some (.dK (stK st)) := upd_same
      generalize upd H4 p (.dK (stK st)) = H5 at b5 r5 p5 ⊢
      refine ⟨(by show 4 ≤ sizeLine; decide), fun q hq => ?_⟩
      have nqa : q ≠ a := (r5.new hq).symm
      have b6 := b5.trans (But.new a (o := .lst [.int 3, .int 12, .int 60, .int 400]) hq)
      have r6 := r5.put (o := .lst [.int 3, .int 12, .int 60, .int 400]) nqa
      have q6 : upd H5 q (.lst [.int 3, .int 12, .int 60, .int 400]) q = some (.lst [.int 3, .int 12, .int 60, .int 400]) := upd_same
      have p6 := same_new (o := .lst [.int 3, .int 12, .int 60, .int 400]) hq _ _ p5
      generalize upd H5 q (.lst [.int 3, .int 12, .int 60, .int 400]) = H6 at b6 r6 q6 p6 ⊢
      refine ⟨_, rfl, a, 4, rfl, by decide, by decide, r6, fun e7 H7 le7 b67 r7 => ?_⟩
      obtain ⟨rare, erare, hrare⟩ := at_four (i := 3) (j := 12) (k := 60) (l := 400) le7
      have hra : 0 < rare := by omega
      have hrb : rare < 1073741824 := by omega
      refine ⟨q, _, _, _, rfl, rfl, SqL.of (b67 _ _ nqa q6), erare, ?_⟩
      have b7 := b6.trans b67
      have p7 := b67 _ _ npa p6
      refine ⟨(by show 0 ≤ sizeLine; decide), fun RL hRL => ?_⟩
      have nRa : RL ≠ a := (r7.new hRL).symm
      have nRp : RL ≠ p := (ne_of_none p7 hRL).symm
      have nR4 : H4 RL = none := b7.none nRa hRL
      have b8 := b7.trans (But.new a (o := .lst []) hRL)
      have r8 := r7.put (o := .lst []) nRa
      have p8 := same_new (o := .lst []) hRL _ _ p7
      have l8 : upd H7 RL (.lst []) RL = some (.lst []) := upd_same
      generalize upd H7 RL (.lst []) = H8 at b8 r8 p8 l8 ⊢
      refine ⟨_, rfl, (by show 2 ≤ sizeLine; decide), fun q2 hq2 => ?_⟩
      have nq2a : q2 ≠ a := (r8.new hq2).symm
      have b9 := b8.trans (But.new a (o := .lst [.int 6, .int 101]) hq2)
      have r9 := r8.put (o := .lst [.int 6, .int 101]) nq2a
      have s9 := same_new (o := .lst [.int 6, .int 101]) hq2
      have p9 := s9 _ _ p8
      have l9 := s9 _ _ l8
      have c9 : upd H8 q2 (.lst [.int 6, .int 101]) q2 = some (.lst [.int 6, .int 101]) := upd_same
      generalize upd H8 q2 (.lst [.int 6, .int 101]) = H9 at b9 r9 p9 l9 c9 ⊢
      obtain ⟨most, emost, hmost⟩ := at_pick (i := 6) (j := 101) (decide ((12 : Int) < rare))
      refine ⟨_, rfl, _, _, rfl, rfl, .inr ⟨_, rfl, q2, _, _, _, rfl, rfl, SqL.of c9, emost, a, most, rfl, by omega, by omega, r9, fun nt HA ltn b9A rA => ?_⟩⟩
      have bA := b9.trans b9A
      have pA := b9A _ _ npa p9
      have lA := b9A _ _ nRa l9
      refine ⟨(nt : Nat), rfl, by omega, by omega, for_range (fun j σ HB => ∃ (stL : Std) (ms : List Mv) (acc : List V) (v11 v12 : Option V), σ = [some (.ref l), some (.ref lh), some (.ref lt), some (.ref lp), some (.ref g), some (.int (2 + (i : Int))), some (.ref a), some (.ref d), some (.ref p), some (.int rare), some (.ref RL), v11, v12, v13] ∧
          But a H4 HB ∧ RS HB a ∧ HB p = some (.dK (stK stL)) ∧ StOk hs cs stL ∧ HB RL = some (.lst acc) ∧ DtAll (Off [a, RL, p] HB) acc (ms.map dMv) ∧ (∀ m ∈ ms, MvIn hs m) ∧ ms.length ≤ j)
        ⟨st, [], [], _, _, rfl, bA, rA, pA, okst, lA, .nil, (fun _ m => nomatch m), Nat.le_refl _⟩ ?_ ?_⟩
      · rintro j σ HB hj ⟨stL, ms, acc, v11, v12, rfl, bB, rB, pB, okL, lB, aB, mB, jB⟩
        have kN : ∀ b, b ∈ [a, RL, p] → HB b ≠ none := fun b m => by
          rcases List.mem_cons.mp m with rfl | m
          · obtain ⟨o, e⟩ := rB.some
            rw [e]
            exact fun z => nomatch z
          · rcases List.mem_cons.mp m with rfl | m
            · rw [lB]
              exact fun z => nomatch z
            · rw [List.mem_singleton.mp m, pB]
              exact fun z => nomatch z
        have oB := (b34.trans bB).offs (L := [a]) (List.mem_cons_self ..)
        refine ⟨_, rfl, _, rfl, _, rfl, _, rfl, _, rfl, _, rfl, a, lh, lt, lp, p, rare, [a, RL, p], hs, ts, cs, stL, rfl, hra, hrb, rB, (List.mem_cons_self ..), kN, dh3.up oB, tf3.up oB, dc3.up oB, okh, okt, okc, pB, okL, fun m v HC bC rC dv mi => ?_⟩
        have lC := bC _ _ nRa lB
        have pC := bC _ _ npa pB
        have aC := aB.up (bC.offs (L := [a, RL, p]) (List.mem_cons_self ..))
        have lms : ms.length ≤ 1000 := by omega
        refine ⟨_, rfl, .inl ⟨rfl, _, SqL.of lC⟩, _, rfl, RL, _, _, rfl, rfl, lC, small1000 (by rw [aC.len, List.length_map]; exact lms), ?_⟩
        have bD : But a H4 (upd HC RL (.lst (acc ++ [v]))) := fun b o nb hb => by
          rw [upd_ne (ne_of_none hb nR4)]
          exact (bB.trans bC) b o nb hb
        have rD := rC.put (o := .lst (acc ++ [v])) nRa
        have pD : upd HC RL (.lst (acc ++ [v])) p = some (.dK (stK stL)) := by rw [upd_ne nRp.symm]; exact pC
        have lD : upd HC RL (.lst (acc ++ [v])) RL = some (.lst (acc ++ [v])) := upd_same
        have eD : Off [a, RL, p] (upd HC RL (.lst (acc ++ [v]))) = Off [a, RL, p] HC := off_put (List.mem_cons_of_mem _ (List.mem_cons_self ..))
        have aD : DtAll (Off [a, RL, p] (upd HC RL (.lst (acc ++ [v])))) (acc ++ [v]) ((ms ++ [m]).map dMv) := by
          rw [eD, List.map_append]
          exact aC.snoc dv
        have vD : Dt (upd HC RL (.lst (acc ++ [v]))) v (dMv m) := by
          rw [← eD] at dv
          exact dv.up (off_le _ _)
        generalize upd HC RL (.lst (acc ++ [v])) = HD at bD rD pD lD aD vD ⊢
        have mD : ∀ x ∈ ms ++ [m], MvIn hs x := fun x hx => by
          rcases List.mem_append.mp hx with z | z
          · exact mB x z
          · rw [List.mem_singleton.mp z]
            exact mi
        have jD : (ms ++ [m]).length ≤ j + 1 := by
          rw [List.length_append]
          show ms.length + 1 ≤ j + 1
          omega
        have done : ∀ v11 v12 : Option V, ∃ (stL2 : Std) (ms2 : List Mv) (acc2 : List V) (w11 w12 : Option V), [some (.ref l), some (.ref lh), some (.ref lt), some (.ref lp), some (.ref g), some (.int (2 + (i : Int))), some (.ref a), some (.ref d), some (.ref p), some (.int rare), some (.ref RL), v11, v12, v13] =
            [some (.ref l), some (.ref lh), some (.ref lt), some (.ref lp), some (.ref g), some (.int (2 + (i : Int))), some (.ref a), some (.ref d), some (.ref p), some (.int rare), some (.ref RL), w11, w12, v13] ∧
            But a H4 HD ∧ RS HD a ∧ HD p = some (.dK (stK stL2)) ∧ StOk hs cs stL2 ∧ HD RL = some (.lst acc2) ∧ DtAll (Off [a, RL, p] HD) acc2 (ms2.map dMv) ∧ (∀ m ∈ ms2, MvIn hs m) ∧ ms2.length ≤ j + 1 := fun v11 v12 =>
          ⟨stL, ms ++ [m], acc ++ [v], _, _, rfl, bD, rD, pD, okL, lD, aD, mD, jD⟩
        rcases mv_put vD mi with ⟨tm, pn, one, x2, nv, rfl, htm, hat, mnv⟩ | ⟨tm, xs, rfl, hty, hl3⟩ | ⟨ll, xs, rfl, hll⟩ | rfl
        · refine ⟨_, rfl, .ref tm, "tuple", true, rfl, .base (.tup htm), ki_tt, true, rfl, iteT ?_⟩
          refine ⟨_, rfl, tm, _, rfl, .inr (SqT.of htm), rfl, true, rfl, iteT ?_⟩
          refine ⟨_, rfl, tm, _, 0, _, rfl, rfl, SqT.of htm, rfl, _, rfl, p, _, rfl, DGet.k (k := Sum.inr pn) pD, _, rfl, ?_⟩
          by_cases hm : (valV (stK stL) (kk pn)).isSome = true
          · refine iteB hm ?_
            have mp : pn ∈ stL.map (·.1) := by
              rw [lk_val] at hm
              cases Classical.em (pn ∈ stL.map (·.1)) with
              | inl h => exact h
              | inr h =>
                rw [lk_none.mpr h] at hm
                cases hm
            have lst2 : (stK stL).length < sizeLine := by
              have z := congrArg List.length okL.keys
              rw [List.length_map, List.length_map] at z
              unfold stK
              rw [List.length_map]
              exact small1000 (by omega)
            refine ⟨_, rfl, tm, _, 2, _, rfl, rfl, SqT.of htm, rfl, _, rfl, tm, _, 1, _, rfl, rfl, SqT.of htm, rfl, (by show 2 ≤ sizeLine; decide), fun q3 hq3 => ?_⟩
            have nq3a : q3 ≠ a := (rD.new hq3).symm
            have sE := same_new (o := .lst [x2, .str one]) hq3
            have rE := rD.put (o := .lst [x2, .str one]) nq3a
            have bE := bD.trans (But.new a (o := .lst [x2, .str one]) hq3)
            have c3 : upd HD q3 (.lst [x2, .str one]) q3 = some (.lst [x2, .str one]) := upd_same
            have aE := aD.up ((But.new a (o := .lst [x2, .str one]) hq3).offs (L := [a, RL, p]) (List.mem_cons_self ..))
            have htmE := sE _ _ htm
            have pE := sE _ _ pD
            have lE := sE _ _ lD
            generalize upd HD q3 (.lst [x2, .str one]) = HE at sE rE bE c3 aE htmE pE lE ⊢
            refine ⟨_, rfl, tm, _, 2, _, rfl, rfl, SqT.of htmE, rfl, mv_scal hat, .inr ⟨_, rfl, q3, _, _, _, rfl, rfl, SqL.of c3, hat, ?_⟩⟩
            refine ⟨_, rfl, _, rfl, tm, _, 0, _, rfl, rfl, SqT.of htmE, rfl, p, _, rfl, DPut.k (k := Sum.inr pn) pE lst2, ?_⟩
            have ep : putK (stK stL) (kk pn) (V.str nv) = stK (setS stL pn nv) := stK_put mp
            refine ⟨setS stL pn nv, ms ++ [m], acc ++ [V.ref tm], _, _, rfl, ?_, rE.put npa, ?_, okL.set mnv, ?_, ?_, mD, jD⟩
            · intro b o nb hb
              rw [upd_ne (ne_of_none hb np)]
              exact bE b o nb hb
            · rw [upd_same]
              exact congrArg (fun z => some (HO.dK z)) ep
            · rw [upd_ne nRp]
              exact lE
            · rw [off_put (List.mem_cons_of_mem _ (List.mem_cons_of_mem _ (List.mem_cons_self ..)))]
              exact aE
          · exact iteC (by simpa using hm) (done _ _)
        · refine ⟨_, rfl, .ref tm, "tuple", true, rfl, (hty K).1, ki_tt, true, rfl, iteT ?_⟩
          refine ⟨_, rfl, tm, _, rfl, .inr (hty K).2, rfl, _, rfl, iteC (decide_eq_false fun z => hl3 ?_) (iteF (done _ _))⟩
          have := V.int.inj z
          omega
        · exact ⟨_, rfl, .ref ll, "list", false, rfl, .base (.lst hll), ki_lt, false, rfl, iteF (iteF (done _ _))⟩
        · exact ⟨_, rfl, .non, "NoneType", false, rfl, .base .non, ki_nt, false, rfl, iteF (iteF (done _ _))⟩
      · rintro σ HB ⟨stL, ms, acc, v11, v12, rfl, bB, rB, pB, okL, lB, aB, mB, jB⟩
        rw [Int.toNat_natCast] at jB
        have dB := bB _ _ nda hd
        have oB := (b34.trans bB).offs (L := [a]) (List.mem_cons_self ..)
        have dlt := (tf3.up oB).dt.up (off_le _ _)
        have dlp := (dc3.up oB).up (off_le _ _)
        have dRL : Dt HB (.ref RL) (.list (ms.map dMv)) := .lst lB (aB.up (off_le _ _))
        have okm : ∀ m ∈ ms, MvOk m := fun m mm => (mB m mm).ok okh
        have s2B : Same H2 HB := fun b o e => bB b o (ne_of_none e na) (s4 b o e)
        have nd' : ∀ st', walk ts cs 0 ms st = .inr st' → (st'.map (·.1)).Nodup := fun st' e => by
          rw [walk_keys ms 0 st st' e, okst.keys]
          exact okc.nd
        refine ⟨_, rfl, _, rfl, _, rfl, _, rfl, lt, lp, d, RL, hs, ts, cs, st, ms, rfl, dlt, okh, okt, okc, dlp, dB, okst, dRL, okm, by omega, fun HC due sC resC => ?_⟩
        have gaC := (ga.up s2).up (s2B.trans sC)
        have dC := sC _ _ dB
        have eC := dRL.up sC
        refine ⟨_, rfl, _, rfl, _, rfl, g, d, RL, hs, ts, cs, st, ms, rfl, gaC, dC, okst, eC, okm, fun HD w1 sD res1 => ⟨_, rfl, res_ne res1 (resC.up sD) nd' ⟨_, rfl, iteF ?_⟩⟩⟩
        refine ⟨_, rfl, _, rfl, _, rfl, g, d, RL, hs, ts, cs, st, ms, rfl, gaC.up sD, sD _ _ dC, okst, eC.up sD, okm, fun HE w2 sE res2 => ⟨_, rfl, res_ne res2 ((resC.up sD).up sE) nd' ⟨_, rfl, iteF ?_⟩⟩⟩
        have sDE := sD.trans sE
        refine ⟨_, rfl, _, rfl, _, rfl, g, d, RL, hs, ts, cs, st, ms, rfl, gaC.up sDE, sDE _ _ dC, okst, eC.up sDE, okm, fun HF w3 sF res3 => ⟨_, rfl, res_ne res3 ((resC.up sDE).up sF) nd' ⟨_, rfl, iteF ?_⟩⟩⟩
        exact ⟨_, _, _, _, _, _, _, _, _, rfl, (((s2.trans s2B).trans sC).trans sDE).trans sF⟩
    · rintro σ H5 ⟨v5, v6, v7, v8, v9, v10, v11, v12, v13, rfl, s5⟩
      exact k _
end
end Kp
namespace Kp
open PySem PySem.Spec PyProof.Rows L2
/-! ### the parts, joined -/
theorem facts {P : Program} {w : World} {K : PySem.W.Frag} {h : Heap} {mg : Str → Option Value} {f : Addr} (X : K.In h) (Gh : h.Ns mainGlobals mg) (hfa : mg ("law" : Str) = some (.ref f)) (c : Told K) :
    ∃ fd : FuncData, (∀ (s : Shared) (v : Value), BindsTo s fd ⟨[v], []⟩ [("_law_script", v)]) ∧ ∀ base : Heap, K.In base → base.Ns mainGlobals mg → FnOk P w K mg base CX0 9 f fd ["_law_script"] (spLaw K) := by
  have T : Txt K mg := ⟨c, h, X, Gh⟩
  obtain ⟨fd, F⟩ := T.d.def_ 38 (d := dG "law" 50) rfl
  have e := hfa.symm.trans (T.glo 70)
  cases e
  have b := FunD.bindsA (ps := ["_law_script"]) F fun _ _ _ _ _ _ us hl => match us, hl with | [_], _ => rfl
  refine ⟨fd, fun s v => b s [v] rfl, fun base _ _ => ?_⟩
  obtain ⟨d1, F1⟩ := T.d.def_ 1 (d := dG "is_whole" 11) rfl
  have G1 : Gn P w K mg base CX0 1 "is_whole" ["thing"] spWhole := ⟨⟨d1, ok_whole F1 T , FunD.bindsN F1 fun _ _ _ _ _ _ us hl => match us, hl with | [_], _ => rfl⟩, T.glo 0, F1.kp⟩
  obtain ⟨d2, F2⟩ := T.d.def_ 2 (d := dG "is_within" 12) rfl
  have G2 : Gn P w K mg base CX0 2 "is_within" ["thing", "low", "high"] spWithin := ⟨⟨d2, ok_within F2 (by assumption), FunD.bindsN F2 fun _ _ _ _ _ _ us hl => match us, hl with | [_, _, _], _ => rfl⟩, T.glo 1, F2.kp⟩
  obtain ⟨d3, F3⟩ := T.d.def_ 3 (d := dG "is_name" 13) rfl
  have G3 : Gn P w K mg base CX0 1 "is_name" ["thing"] spName := ⟨⟨d3, ok_name F3 T , FunD.bindsN F3 fun _ _ _ _ _ _ us hl => match us, hl with | [_], _ => rfl⟩, T.glo 2, F3.kp⟩
  obtain ⟨d6, F6⟩ := T.d.def_ 6 (d := dG "is_move" 18) rfl
  have G6 : Gn P w K mg base CX0 1 "is_move" ["thing"] spIsMove := ⟨⟨d6, ok_isMove F6 T , FunD.bindsN F6 fun _ _ _ _ _ _ us hl => match us, hl with | [_], _ => rfl⟩, T.glo 5, F6.kp⟩
  obtain ⟨d11, F11⟩ := T.d.def_ 11 (d := dG "is_pair" 26) rfl
  have G11 : Gn P w K mg base CX0 2 "is_pair" ["thing"] spPair := ⟨⟨d11, ok_pair F11 T (by assumption), FunD.bindsN F11 fun _ _ _ _ _ _ us hl => match us, hl with | [_], _ => rfl⟩, T.glo 10, F11.kp⟩
  obtain ⟨d12, F12⟩ := T.d.def_ 12 (d := dG "sorted_pair" 27) rfl
  have G12 : Gn P w K mg base CX0 1 "sorted_pair" ["pair"] spSorted := ⟨⟨d12, ok_sorted F12 T , FunD.bindsN F12 fun _ _ _ _ _ _ us hl => match us, hl with | [_], _ => rfl⟩, T.glo 11, F12.kp⟩
  obtain ⟨d10, F10⟩ := T.d.def_ 10 (d := dG "is_hand_row" 25) rfl
  have G10 : Gn P w K mg base CX0 3 "is_hand_row" ["thing"] spHand := ⟨⟨d10, ok_hand F10 T (by assumption) (by assumption), FunD.bindsN F10 fun _ _ _ _ _ _ us hl => match us, hl with | [_], _ => rfl⟩, T.glo 9, F10.kp⟩
  obtain ⟨d13, F13⟩ := T.d.def_ 13 (d := dG "sure" 28) rfl
  have G13 : Gn P w K mg base CX0 1 "sure" ["good"] spSure := ⟨⟨d13, ok_sure F13 , FunD.bindsN F13 fun _ _ _ _ _ _ us hl => match us, hl with | [_], _ => rfl⟩, T.glo 12, F13.kp⟩
  obtain ⟨d14, F14⟩ := T.d.def_ 14 (d := dG "strengths_of" 29) rfl
  have G14 : Gn P w K mg base CX0 4 "strengths_of" ["hands"] spStr := ⟨⟨d14, ok_str F14 T (by assumption) (by assumption), FunD.bindsN F14 fun _ _ _ _ _ _ us hl => match us, hl with | [_], _ => rfl⟩, T.glo 13, F14.kp⟩
  obtain ⟨d15, F15⟩ := T.d.def_ 15 (d := dG "pairs_of" 30) rfl
  have G15 : Gn P w K mg base CX0 3 "pairs_of" ["ties", "strengths"] spPairs := ⟨⟨d15, ok_pairs F15 T (by assumption) (by assumption) (by assumption), FunD.bindsN F15 fun _ _ _ _ _ _ us hl => match us, hl with | [_, _], _ => rfl⟩, T.glo 14, F15.kp⟩
  obtain ⟨d16, F16⟩ := T.d.def_ 16 (d := dM "Web" "__init__" "Web.__init__" 31 0) rfl
  have G16 : Mn P w K mg base CX0 5 "Web" "__init__" ["self", "hands", "ties"] (spWeb K) := ⟨⟨d16, ok_web F16 T (by assumption) (by assumption), FunD.bindsN F16 fun _ _ _ _ _ _ us hl => match us, hl with | [_, _, _], _ => rfl⟩⟩
  obtain ⟨d17, F17⟩ := T.d.def_ 17 (d := dM "Web" "hands" "Web.hands" 31 1) rfl
  have G17 : Mn P w K mg base CX0 1 "Web" "hands" ["self"] (spHands K) := ⟨⟨d17, ok_hands F17 T , FunD.bindsN F17 fun _ _ _ _ _ _ us hl => match us, hl with | [_], _ => rfl⟩⟩
  obtain ⟨d18, F18⟩ := T.d.def_ 18 (d := dM "Web" "are_tied" "Web.are_tied" 31 5) rfl
  have G18 : Mn P w K mg base CX0 3 "Web" "are_tied" ["self", "one", "other"] (spTied K) := ⟨⟨d18, ok_tied F18 T (by assumption) (by assumption), FunD.bindsN F18 fun _ _ _ _ _ _ us hl => match us, hl with | [_, _, _], _ => rfl⟩⟩
  obtain ⟨d19, F19⟩ := T.d.def_ 19 (d := dG "are_ways" 33) rfl
  have G19 : Gn P w K mg base CX0 4 "are_ways" ["web", "thing"] (spAreWays K) := ⟨⟨d19, ok_ways F19 T (by assumption) (by assumption) (by assumption), FunD.bindsN F19 fun _ _ _ _ _ _ us hl => match us, hl with | [_, _], _ => rfl⟩, T.glo 15, F19.kp⟩
  obtain ⟨d20, F20⟩ := T.d.def_ 20 (d := dG "is_piece_row" 34) rfl
  have G20 : Gn P w K mg base CX0 5 "is_piece_row" ["web", "thing"] (spPiece K) := ⟨⟨d20, ok_piece F20 T (by assumption) (by assumption) (by assumption), FunD.bindsN F20 fun _ _ _ _ _ _ us hl => match us, hl with | [_, _], _ => rfl⟩, T.glo 16, F20.kp⟩
  obtain ⟨d21, F21⟩ := T.d.def_ 21 (d := dG "kept_ways" 35) rfl
  have G21 : Gn P w K mg base CX0 2 "kept_ways" ["ways"] spKept := ⟨⟨d21, ok_kept F21 T (by assumption), FunD.bindsN F21 fun _ _ _ _ _ _ us hl => match us, hl with | [_], _ => rfl⟩, T.glo 17, F21.kp⟩
  obtain ⟨d22, F22⟩ := T.d.def_ 22 (d := dM "Goods" "__init__" "Goods.__init__" 36 0) rfl
  have G22 : Mn P w K mg base CX0 6 "Goods" "__init__" ["self", "web", "pieces"] (spGoods K) := ⟨⟨d22, ok_goods F22 T (by assumption) (by assumption), FunD.bindsN F22 fun _ _ _ _ _ _ us hl => match us, hl with | [_, _, _], _ => rfl⟩⟩
  obtain ⟨d23, F23⟩ := T.d.def_ 23 (d := dM "Goods" "check_piece" "Goods.check_piece" 36 1) rfl
  have G23 : Mn P w K mg base CX0 1 "Goods" "check_piece" ["self", "piece"] (spCheck K) := ⟨⟨d23, ok_check F23 T , FunD.bindsN F23 fun _ _ _ _ _ _ us hl => match us, hl with | [_, _], _ => rfl⟩⟩
  obtain ⟨d24, F24⟩ := T.d.def_ 24 (d := dM "Goods" "names" "Goods.names" 36 2) rfl
  have G24 : Mn P w K mg base CX0 1 "Goods" "names" ["self"] (spNames K) := ⟨⟨d24, ok_names F24 T , FunD.bindsN F24 fun _ _ _ _ _ _ us hl => match us, hl with | [_], _ => rfl⟩⟩
  obtain ⟨d25, F25⟩ := T.d.def_ 25 (d := dM "Goods" "may_go" "Goods.may_go" 36 5) rfl
  have G25 : Mn P w K mg base CX0 4 "Goods" "may_go" ["self", "piece", "one", "other"] (spMayGo K) := ⟨⟨d25, ok_may F25 T (by assumption) (by assumption) (by assumption), FunD.bindsN F25 fun _ _ _ _ _ _ us hl => match us, hl with | [_, _, _, _], _ => rfl⟩⟩
  obtain ⟨d4, F4⟩ := T.d.def_ 4 (d := dG "is_stand" 15) rfl
  have G4 : Gn P w K mg base CX0 2 "is_stand" ["goods", "thing"] (spIsStand K) := ⟨⟨d4, ok_isStand F4 T (by assumption) (by assumption), FunD.bindsN F4 fun _ _ _ _ _ _ us hl => match us, hl with | [_, _], _ => rfl⟩, T.glo 3, F4.kp⟩
  obtain ⟨d5, F5⟩ := T.d.def_ 5 (d := dG "sure_stand" 16) rfl
  have G5 : Gn P w K mg base CX0 3 "sure_stand" ["goods", "stand"] (spSureStand K) := ⟨⟨d5, ok_sureStand F5 (by assumption), FunD.bindsN F5 fun _ _ _ _ _ _ us hl => match us, hl with | [_, _], _ => rfl⟩, T.glo 4, F5.kp⟩
  obtain ⟨d7, F7⟩ := T.d.def_ 7 (d := dG "reason_against" 19) rfl
  have G7 : Gn P w K mg base CX0 5 "reason_against" ["goods", "stand", "move"] (spReason K) := ⟨⟨d7, ok_reason F7 T (by assumption) (by assumption) (by assumption) (by assumption), FunD.bindsN F7 fun _ _ _ _ _ _ us hl => match us, hl with | [_, _, _], _ => rfl⟩, T.glo 6, F7.kp⟩
  obtain ⟨d8, F8⟩ := T.d.def_ 8 (d := dG "judged" 20) rfl
  have G8 : Gn P w K mg base CX0 6 "judged" ["goods", "stand", "moves"] (spJudged K) := ⟨⟨d8, ok_judged F8 T (by assumption) (by assumption), FunD.bindsN F8 fun _ _ _ _ _ _ us hl => match us, hl with | [_, _, _], _ => rfl⟩, T.glo 7, F8.kp⟩
  obtain ⟨d0, F0⟩ := T.d.def_ 0 (d := dM "NoMove" "__init__" "NoMove.__init__" 7 0) rfl
  have G0 : Mn P w K mg base CX0 1 "NoMove" "__init__" ["self", "k", "reason"] (spNm K) := ⟨⟨d0, ok_nm F0 T , FunD.bindsN F0 fun _ _ _ _ _ _ us hl => match us, hl with | [_, _, _], _ => rfl⟩⟩
  obtain ⟨d9, F9⟩ := T.d.def_ 9 (d := dG "moved" 21) rfl
  have G9 : Gn P w K mg base (L2.CX P w) 7 "moved" ["goods", "stand", "moves"] (spMoved K) := ⟨⟨d9, ok_moved F9 T (by assumption) (by assumption), FunD.bindsN F9 fun _ _ _ _ _ _ us hl => match us, hl with | [_, _, _], _ => rfl⟩, T.glo 8, F9.kp⟩
  obtain ⟨d37, F37⟩ := T.d.def_ 37 (d := dG "_law_moved" 49) rfl
  have G37 : Gn P w K mg base CX0 8 "_law_moved" ["_law_goods", "_law_stand_here", "_law_row"] (spLMoved K) := ⟨⟨d37, ok_lmoved F37 T (by assumption), FunD.bindsN F37 fun _ _ _ _ _ _ us hl => match us, hl with | [_, _, _], _ => rfl⟩, T.glo 29, F37.kp⟩
  obtain ⟨d26, F26⟩ := T.d.def_ 26 (d := dG "_law_cell_at" 38) rfl
  have G26 : Gn P w K mg base CX0 1 "_law_cell_at" ["_law_script", "_law_k"] (spCellAt K) := ⟨⟨d26, ok_cellAt F26 T , FunD.bindsN F26 fun _ _ _ _ _ _ us hl => match us, hl with | [_, _], _ => rfl⟩, T.glo 18, F26.kp⟩
  obtain ⟨d27, F27⟩ := T.d.def_ 27 (d := dG "_law_digit" 39) rfl
  have G27 : Gn P w K mg base CX0 1 "_law_digit" ["_law_state", "_law_base"] spDigit := ⟨⟨d27, ok_digit F27 T , FunD.bindsN F27 fun _ _ _ _ _ _ us hl => match us, hl with | [_, _], _ => rfl⟩, T.glo 19, F27.kp⟩
  obtain ⟨d28, F28⟩ := T.d.def_ 28 (d := dG "_law_names" 40) rfl
  have G28 : Gn P w K mg base CX0 2 "_law_names" ["_law_state", "_law_many"] spDrawn := ⟨⟨d28, ok_drawn F28 T (by assumption), FunD.bindsN F28 fun _ _ _ _ _ _ us hl => match us, hl with | [_, _], _ => rfl⟩, T.glo 20, F28.kp⟩
  obtain ⟨d29, F29⟩ := T.d.def_ 29 (d := dG "_law_web" 41) rfl
  have G29 : Gn P w K mg base CX0 3 "_law_web" ["_law_state", "_law_most"] spWebD := ⟨⟨d29, ok_webD F29 T (by assumption) (by assumption), FunD.bindsN F29 fun _ _ _ _ _ _ us hl => match us, hl with | [_, _], _ => rfl⟩, T.glo 21, F29.kp⟩
  obtain ⟨d30, F30⟩ := T.d.def_ 30 (d := dG "_law_ways" 42) rfl
  have G30 : Gn P w K mg base CX0 2 "_law_ways" ["_law_state", "_law_ties"] spWaysD := ⟨⟨d30, ok_waysD F30 T (by assumption), FunD.bindsN F30 fun _ _ _ _ _ _ us hl => match us, hl with | [_, _], _ => rfl⟩, T.glo 22, F30.kp⟩
  obtain ⟨d31, F31⟩ := T.d.def_ 31 (d := dG "_law_pieces" 43) rfl
  have G31 : Gn P w K mg base CX0 3 "_law_pieces" ["_law_state", "_law_ties", "_law_most"] spPiecesD := ⟨⟨d31, ok_piecesD F31 T (by assumption) (by assumption) (by assumption), FunD.bindsN F31 fun _ _ _ _ _ _ us hl => match us, hl with | [_, _, _], _ => rfl⟩, T.glo 23, F31.kp⟩
  obtain ⟨d32, F32⟩ := T.d.def_ 32 (d := dG "_law_stand" 44) rfl
  have G32 : Gn P w K mg base CX0 2 "_law_stand" ["_law_state", "_law_pieces_here", "_law_hands"] spStandD := ⟨⟨d32, ok_standD F32 T (by assumption), FunD.bindsN F32 fun _ _ _ _ _ _ us hl => match us, hl with | [_, _, _], _ => rfl⟩, T.glo 24, F32.kp⟩
  obtain ⟨d33, F33⟩ := T.d.def_ 33 (d := dG "_law_made" 45) rfl
  have G33 : Gn P w K mg base CX0 8 "_law_made" ["_law_script"] (spMade K) := ⟨⟨d33, ok_made F33 T (by assumption) (by assumption) (by assumption) (by assumption) (by assumption), FunD.bindsN F33 fun _ _ _ _ _ _ us hl => match us, hl with | [_], _ => rfl⟩, T.glo 25, F33.kp⟩
  obtain ⟨d34, F34⟩ := T.d.def_ 34 (d := dG "_law_reason" 46) rfl
  have G34 : Gn P w K mg base CX0 1 "_law_reason" ["_law_ties", "_law_ways_here", "_law_later", "_law_move_here"] spLReason := ⟨⟨d34, ok_lreason F34 T , FunD.bindsN F34 fun _ _ _ _ _ _ us hl => match us, hl with | [_, _, _, _], _ => rfl⟩, T.glo 26, F34.kp⟩
  obtain ⟨d35, F35⟩ := T.d.def_ 35 (d := dG "_law_walked" 47) rfl
  have G35 : Gn P w K mg base CX0 2 "_law_walked" ["_law_ties", "_law_pieces_here", "_law_stand_here", "_law_row"] spWalked := ⟨⟨d35, ok_walked F35 T (by assumption), FunD.bindsN F35 fun _ _ _ _ _ _ us hl => match us, hl with | [_, _, _, _], _ => rfl⟩, T.glo 27, F35.kp⟩
  obtain ⟨d36, F36⟩ := T.d.def_ 36 (d := dG "_law_move" 48) rfl
  have G36 : Gn P w K mg base CX0 2 "_law_move" ["_law_state", "_law_hands", "_law_ties", "_law_pieces_here", "_law_later", "_law_rare"] spMove := ⟨⟨d36, ok_move F36 T (by assumption), FunD.bindsN F36 fun _ _ _ _ _ _ us hl => match us, hl with | [_, _, _, _, _, _], _ => rfl⟩, T.glo 28, F36.kp⟩
  exact ok_law F T (by assumption) (by assumption) (by assumption) (by assumption) (by assumption) (by assumption) (by assumption) (by assumption)
end Kp
open PySem PySem.W PySem.Calls PyProof.Rows
theorem PySem.Challenge.cw_evenpieces_k98_whole_rows_of_moves_walke_holds : PySem.Challenge.rw_evenpieces_k98_whole_rows_of_moves_walke.Holds := by
  w_on; o_law
  refine HandSHeadRun.head_any (r := OpenLaw.row PySem.Challenge.rw_evenpieces_k98_whole_rows_of_moves_walke) (q := view (OpenLaw.row PySem.Challenge.rw_evenpieces_k98_whole_rows_of_moves_walke).prog [50]) (H := Kp.hk) (ob := Kp.ob) (M := 3600) (loose := Kp.lo1 ++ Kp.lo2) (d := HandSHeadRun.topDef (OpenLaw.row PySem.Challenge.rw_evenpieces_k98_whole_rows_of_moves_walke).prog 50) (kwd := []) Kp.ob_eq
    (by kernel_rfl) (fun s => by kernel_rfl) Kp.run (by kernel_rfl) (by kernel_rfl) (by kernel_rfl) (by rfl) (by first | assumption | decide +kernel) (by decide +kernel) ⟨rfl, rfl, rfl, rfl, rfl, by decide +kernel⟩ ?hw ?hc
  case hw => w_witness2
  case hc =>
    refine L2.walk_ofE (l := PySem.Challenge.rw_evenpieces_k98_whole_rows_of_moves_walke) (n := 63) (k := 9) (x := "_law_script") (CX := L2.CX0) rfl (by decide) (by kernel_rfl) ⟨rfl, by decide, by decide⟩ ?F (fun _ _ _ _ z => z)
    intro w mg fa h Y G hmg0
    obtain ⟨K, KX, c⟩ := Y
    have hmg : mg ("law" : PySem.Str) = some (.ref fa) := by
      have e : (HandSHeadRun.topDef (OpenLaw.row PySem.Challenge.rw_evenpieces_k98_whole_rows_of_moves_walke).prog 50).name = ("law" : PySem.Str) := by kernel_rfl
      rw [← e]
      exact hmg0
    obtain ⟨fd, hb, hF⟩ := Kp.facts (P := (PySem.Challenge.rw_evenpieces_k98_whole_rows_of_moves_walke).prog) (w := w) KX G hmg c
    exact ⟨K, fd, Kp.spLaw K, KX, hb, fun H a ns hl _ hS => ⟨a, ns, rfl, hS, hl, fun _ => rfl⟩, hF⟩
