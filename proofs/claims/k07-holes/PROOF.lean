import PyProof.Rows.All
import Wide.All
import OpenK.AllK
import Wide.FinOn
import HandS.ForMost
import HandS.Wide
import HandS.IsInst
import HandS.Zip
import HandS.Deep
import HandS.TupAny
import HandS.Codes
import HandS.Walk
import HandS.Defaults
import HandS.More
import HandS.SetKeys
import PySem.Challenge.RW_addedgrounds_k07_whole_holes_filled
set_option Elab.async false
set_option linter.all false
set_option maxRecDepth 100000
set_option maxHeartbeats 4000000
namespace Ag
open PySem L2
open C8 (pss_cut tCut)
section
variable {P : Program} {w : World} {K : PySem.W.Frag} {mg : Str → Option Value} {base : Heap}
/-! heaps: all but the bag at b stays -/
def Ext (b : Addr) (H H' : Hp) : Prop := ∀ a o, a ≠ b → H a = some o → H' a = some o
theorem Ext.refl (b : Addr) (H : Hp) : Ext b H H := fun _ _ _ h => h
theorem Ext.trans {b : Addr} {H H1 H2 : Hp} (x : Ext b H H1) (y : Ext b H1 H2) : Ext b H H2 := fun a o n h => y a o n (x a o n h)
theorem Ext.upd (b : Addr) (H : Hp) (o : HO) : Ext b H (L2.upd H b o) := fun a u n h => by rw [upd_ne n]; exact h
theorem Ext.laid {b p : Addr} {H : Hp} (o : HO) (hp : H p = none) : Ext b H (L2.upd H p o) := fun a u n h => by
  rw [upd_ne (ne_of_none h hp)]; exact h
theorem Ext.same {b : Addr} {H H' : Hp} (s : Same H H') : Ext b H H' := fun a o _ h => s a o h
theorem Ext.free {b p : Addr} {H H' : Hp} (x : Ext b H H') (n : p ≠ b) (h : H' p = none) : H p = none := by
  cases q : H p with
  | none => rfl
  | some o => rw [x p o n q] at h; cases h
theorem Same.laid {p : Addr} {H : Hp} (o : HO) (hp : H p = none) : Same H (L2.upd H p o) := fun a u h => by
  rw [upd_ne (ne_of_none h hp)]; exact h
/-- a store at what is new -/
theorem Same.fresh {p : Addr} {H H' : Hp} (o : HO) (s : Same H H') (hp : H p = none) : Same H (L2.upd H' p o) := fun a u h => by
  rw [upd_ne (ne_of_none h hp)]; exact s a u h
theorem Ext.fresh {b p : Addr} {H H' : Hp} (o : HO) (s : Ext b H H') (hp : H p = none) : Ext b H (L2.upd H' p o) := fun a u n h => by
  rw [upd_ne (ne_of_none h hp)]; exact s a u n h

/-! the bag of drawn numbers: its list at b, its cells at c -/
def BagAt (b c : Addr) (H : Hp) : Prop := ∃ (ns : List Int) (i : Nat) (big seed cnt : Int),
  H b = some (.lst [.ref c, .int i, .int big, .int seed, .int cnt]) ∧ H c = some (.lst (ns.map V.int)) ∧ i ≤ ns.length ∧ ns.length ≤ 63 ∧ 0 ≤ big ∧ 0 ≤ seed ∧ seed < 2147483629
theorem BagAt.lst {b c : Addr} {H : Hp} (h : BagAt b c H) : ∃ xs, H b = some (.lst xs) := by
  obtain ⟨ns, i, big, seed, cnt, h, _⟩ := h
  exact ⟨_, h⟩
theorem bag_ne {b c : Addr} {H : Hp} {xs : List V} {ns : List Int} (h : H b = some (.lst (.ref c :: xs))) (h' : H c = some (.lst (ns.map V.int))) : c ≠ b := fun e => by
  rw [e, h] at h'
  cases ns with
  | nil => injection h' with q; injection q with q; cases q
  | cons n ns => injection h' with q; injection q with q; injection q with q; cases q
theorem BagAt.ext {b c : Addr} {H H' : Hp} (h : BagAt b c H) (e : Same H H') : BagAt b c H' := by
  obtain ⟨ns, i, big, seed, cnt, h1, h2, r⟩ := h
  exact ⟨ns, i, big, seed, cnt, e _ _ h1, e _ _ h2, r⟩
/-- a new address is neither -/
theorem BagAt.apart {b c p : Addr} {H : Hp} (h : BagAt b c H) (hp : H p = none) : p ≠ b ∧ p ≠ c := by
  obtain ⟨ns, i, big, seed, cnt, h1, h2, r⟩ := h
  exact ⟨fun e => (by rw [e, h1] at hp; cases hp), fun e => (by rw [e, h2] at hp; cases hp)⟩
theorem BagAt.store {b c p : Addr} {H : Hp} (o : HO) (h : BagAt b c H) (n : p ≠ b ∧ p ≠ c) : BagAt b c (L2.upd H p o) := by
  obtain ⟨ns, i, big, seed, cnt, h1, h2, r⟩ := h
  exact ⟨ns, i, big, seed, cnt, by rw [upd_ne n.1.symm]; exact h1, by rw [upd_ne n.2.symm]; exact h2, r⟩
/-! data -/
def tyN : PyData → String
  | .none => "NoneType" | .bool _ => "bool" | .int _ => "int" | .str _ => "str" | .list _ => "list" | .tuple _ => "tuple" | .dict _ => "dict"
theorem SqL.tyx {K : PySem.W.Frag} {H : Hp} {a : Addr} {xs : List V} (h : SqL K H a xs) : TyX K H (.ref a) (.type "list") := by
  rcases h with (h | ⟨o, h⟩) | h
  · exact .base (.lst h)
  · exact .base (.frz h)
  · obtain ⟨o, its, n, h1, h2, _⟩ := h
    exact .kList h1 h2
theorem SqT.tyx {K : PySem.W.Frag} {H : Hp} {a : Addr} {xs : List V} (h : SqT K H a xs) : TyX K H (.ref a) (.type "tuple") := by
  rcases h with (h | ⟨o, h⟩) | h
  · exact .base (.tup h)
  · exact .fTuple h
  · obtain ⟨o, its, n, h1, h2, _⟩ := h
    exact .kTuple h1 h2
theorem Dp.tyx {K : PySem.W.Frag} {H : Hp} {v : V} {d : PyData} (h : Dp K H v d) : TyX K H v (.type (tyN d)) := by
  cases h with
  | non => exact .base .non
  | bl b => exact .base (.bl b)
  | int i => exact .base (.int i)
  | str x => exact .base (.str x)
  | lst h _ => exact SqL.tyx h
  | tup h _ => exact SqT.tyx h
theorem Same.sqT {K : PySem.W.Frag} {H H' : Hp} {a : Addr} {xs : List V} (s : Same H H') (h : SqT K H a xs) : SqT K H' a xs := by
  rcases h with (h | ⟨o, h⟩) | h
  · exact .inl (.inl (s _ _ h))
  · exact .inl (.inr ⟨o, s _ _ h⟩)
  · exact .inr h
mutual
theorem Dp.same {K : PySem.W.Frag} {H H' : Hp} (s : Same H H') : ∀ (d : PyData) (v : V), Dp K H v d → Dp K H' v d
  | .none, _, h => by cases h; exact .non
  | .bool b, _, h => by cases h; exact .bl b
  | .int i, _, h => by cases h; exact .int i
  | .str x, _, h => by cases h; exact .str x
  | .list ds, _, h => by
    cases h with
    | lst h1 h2 => exact .lst (s.seq h1) (DpAll.same s ds _ h2)
  | .tuple ds, _, h => by
    cases h with
    | tup h1 h2 => exact .tup (Same.sqT s h1) (DpAll.same s ds _ h2)
  | .dict _, _, h => by cases h
theorem DpAll.same {K : PySem.W.Frag} {H H' : Hp} (s : Same H H') : ∀ (ds : List PyData) (vs : List V), DpAll K H vs ds → DpAll K H' vs ds
  | [], _, h => by cases h; exact .nil
  | d :: ds, _, h => by
    cases h with
    | cons h1 h2 => exact .cons (Dp.same s d _ h1) (DpAll.same s ds _ h2)
end
mutual
/-- no list stands in it -/
def tupOnly : PyData → Bool
  | .list _ => false | .dict _ => false | .tuple ds => tupAll ds | _ => true
def tupAll : List PyData → Bool
  | [] => true | d :: ds => tupOnly d && tupAll ds
end
theorem Ext.sqT {K : PySem.W.Frag} {b : Addr} {H H' : Hp} {a : Addr} {xs ys : List V} (e : Ext b H H') (hb : H b = some (.lst ys)) (h : SqT K H a xs) : SqT K H' a xs := by
  rcases h with (h | ⟨o, h⟩) | h
  · exact .inl (.inl (e _ _ (ne_of h hb (by intro q; cases q)) h))
  · exact .inl (.inr ⟨o, e _ _ (ne_of h hb (by intro q; cases q)) h⟩)
  · exact .inr h
mutual
theorem Dp.ext {K : PySem.W.Frag} {b : Addr} {H H' : Hp} {ys : List V} (e : Ext b H H') (hb : H b = some (.lst ys)) : ∀ (d : PyData) (v : V), tupOnly d = true → Dp K H v d → Dp K H' v d
  | .none, _, _, h => by cases h; exact .non
  | .bool b, _, _, h => by cases h; exact .bl b
  | .int i, _, _, h => by cases h; exact .int i
  | .str x, _, _, h => by cases h; exact .str x
  | .list ds, _, t, h => by cases t
  | .tuple ds, _, t, h => by
    cases h with
    | tup h1 h2 => exact .tup (Ext.sqT e hb h1) (DpAll.ext e hb ds _ t h2)
  | .dict _, _, _, h => by cases h
theorem DpAll.ext {K : PySem.W.Frag} {b : Addr} {H H' : Hp} {ys : List V} (e : Ext b H H') (hb : H b = some (.lst ys)) : ∀ (ds : List PyData) (vs : List V), tupAll ds = true → DpAll K H vs ds → DpAll K H' vs ds
  | [], _, _, h => by cases h; exact .nil
  | d :: ds, _, t, h => by
    have t' : tupOnly d = true ∧ tupAll ds = true := by
      unfold tupAll at t
      exact Bool.and_eq_true_iff.mp t
    cases h with
    | cons h1 h2 => exact .cons (Dp.ext e hb d _ t'.1 h1) (DpAll.ext e hb ds _ t'.2 h2)
end
theorem DpAll.length {K : PySem.W.Frag} {H : Hp} : ∀ {vs : List V} {ds : List PyData}, DpAll K H vs ds → vs.length = ds.length
  | _, _, .nil => rfl
  | _, _, .cons _ h => by rw [List.length_cons, List.length_cons, DpAll.length h]
theorem DpAll.get {K : PySem.W.Frag} {H : Hp} : ∀ {vs : List V} {ds : List PyData} {i : Nat} {v : V}, DpAll K H vs ds → vs[i]? = some v → ∃ d, ds[i]? = some d ∧ Dp K H v d
  | _, _, _, _, .nil, e => by simp at e
  | _, _, 0, _, .cons (d := d) h1 _, e => by simp at e; subst e; exact ⟨d, rfl, h1⟩
  | _, _, i + 1, v, .cons _ h2, e => by
    obtain ⟨d, e1, e2⟩ := DpAll.get (i := i) (v := v) h2 (by simpa using e)
    exact ⟨d, by simpa using e1, e2⟩
theorem walk_zipT {K : PySem.W.Frag} {a b : Addr} {xs ys : List V} {n : Nat} (hn : n = min xs.length ys.length) : Walk (RZ.ItzT K a b) n (fun H => SqT K H a xs ∧ SqT K H b ys) (YPair (fun i => xs[i]?) (fun i => ys[i]?)) := by
  subst hn
  constructor
  · intro i H hi q
    exact ⟨xs, ys, xs[i]'(by omega), ys[i]'(by omega), q.1, q.2, by simp, by simp⟩
  · intro H q
    exact ⟨xs, ys, q.1, q.2, by omega⟩
  · rintro i H v H' _ q ⟨T, x, z, h1, h2, h3, h4, h5⟩
    exact ⟨T, x, z, h1, h2, h3, h4 xs q.1, h5 ys q.2⟩
theorem upd_self {H : Hp} {a : Addr} {o : HO} (h : H a = some o) : upd H a o = H := by
  funext x
  unfold upd
  split
  · rename_i e; rw [e, h]
  · rfl

def spPull : Sp := fun vs H Q _ => ∃ (b c : Addr) (m : Int), vs = [.ref b, .int m] ∧ BagAt b c H ∧ 0 < m ∧ m < 1099511627776 ∧
  ∀ (d : Int) (H' : Hp), 0 ≤ d → d < m → Ext b H H' → BagAt b c H' → Q (.int d) H'
def spBag (K : PySem.W.Frag) : Sp := fun vs H Q _ => ∃ (a : Addr) (ns : List Int), vs = [.ref a] ∧ SqL K H a (ns.map V.int) ∧ ns.length ≤ 63 ∧
  ∀ H' b c, Same H H' → H b = none → BagAt b c H' → Q (.ref b) H'
theorem atI_int {α : Type} {xs : List α} {d : Int} {v : α} (h0 : 0 ≤ d) (h : xs[d.toNat]? = some v) : atI xs d = some v := by
  obtain ⟨n, rfl⟩ := Int.eq_ofNat_of_zero_le h0
  exact atI_nat h

/-- f(k = v, ..), no positional value -/
theorem pe_callN0 {X : Cx} {CX : CXT} {k : Nat} {f : Addr} {fd : FuncData} {ps ks : List Str} {sp : Sp} {E : XK} {x : Str} {p pos : Pos} {kws : List Keyword} {tk : TA}
    {g : List Value → List Value → List Value} {gV : List V → List V → List V} (F : FnOk X.prog X.w X.K X.mg X.base CX k f fd ps sp) (hr : Room k X.A) (hg : Gl X x)
    (hm : X.mg x = some (.ref f)) (hk : PySem.W.keepIn X.K (.ref f) = true) (hb : KBn X.K fd ps 0 ks g gV) (hx : Passes CX X E) (hkw : PK X kws tk)
    (hall : (backToKw pos (keywordEach kws X.env)).all (·.1.isSome) = true := by rfl)
    (hks : (backToKw pos (keywordEach kws X.env)).filterMap (·.1) = ks := by rfl)
    (hdb : (x == ("__debug__" : Str)) = false := by decide)
    (hpl : ((backTo pos (starEach [] X.env)).any (·.1) || (backToKw pos (keywordEach kws X.env)).any (·.1.isNone)) = false := by rfl) :
    PE X (.Call (.Name x p) [] kws pos) (tCallN 0 ks.length sp gV E tNil tk) := by
  constructor
  intro pins s σ H Q I h
  refine PySem.wpAny_Call_Name_kw (ld_glob I hg hm ?_ hdb)
  refine PySem.W.callWith_KW0 (h₀ := X.base) I.ok.mod.kin hk hall ?_ hpl
  refine thn (hkw.run pos pins s σ H _ I h) ?_
  rintro ws s2 ⟨zs, H2, I2, rz, l1, l2, q2⟩
  refine ⟨I2.kIn, ?_⟩
  rw [hks]
  exact run_fnN (us := []) (vs := []) F hr hb hx I2 .nil rz rfl l2 q2
theorem hu64 {A : Around} {k : Nat} (hr : Room k A) : A.units + 64 < cLine := by
  have := hr.un
  omega
/-! what was a tuple is that tuple -/
def TS (K : PySem.W.Frag) (H H' : Hp) : Prop := ∀ a xs, SqT K H a xs → SqT K H' a xs
theorem TS.refl {K : PySem.W.Frag} (H : Hp) : TS K H H := fun _ _ h => h
theorem TS.trans {K : PySem.W.Frag} {H H1 H2 : Hp} (a : TS K H H1) (b : TS K H1 H2) : TS K H H2 := fun x xs h => b x xs (a x xs h)
theorem TS.same {K : PySem.W.Frag} {H H' : Hp} (s : Same H H') : TS K H H' := fun _ _ h => Same.sqT s h
theorem TS.at_ {K : PySem.W.Frag} {H : Hp} {a : Addr} {u : HO} (o : HO) (h : H a = some u) (n1 : ∀ xs, u ≠ .tup xs) (n2 : ∀ ob xs, u ≠ .frz ob (.tup xs)) : TS K H (L2.upd H a o) := fun b xs q => by
  rcases q with (q | ⟨ob, q⟩) | q
  · exact .inl (.inl (by rw [upd_ne (ne_of q h (Ne.symm (n1 _)))]; exact q))
  · exact .inl (.inr ⟨ob, by rw [upd_ne (ne_of q h (Ne.symm (n2 _ _)))]; exact q⟩)
  · exact .inr q
theorem TS.lst {K : PySem.W.Frag} {H : Hp} {a : Addr} {xs : List V} (o : HO) (h : H a = some (.lst xs)) : TS K H (L2.upd H a o) := TS.at_ o h (fun _ q => nomatch q) (fun _ _ q => nomatch q)
theorem TS.dct {K : PySem.W.Frag} {H : Hp} {a : Addr} {kvs : List (Key × V)} (o : HO) (h : H a = some (.dK kvs)) : TS K H (L2.upd H a o) := TS.at_ o h (fun _ q => nomatch q) (fun _ _ q => nomatch q)
theorem TS.laid {K : PySem.W.Frag} {H : Hp} {p : Addr} (o : HO) (hp : H p = none) : TS K H (L2.upd H p o) := TS.same (Same.laid o hp)
theorem TS.ext {K : PySem.W.Frag} {b : Addr} {H H' : Hp} {ys : List V} (e : Ext b H H') (hb : H b = some (.lst ys)) : TS K H H' := fun _ _ h => Ext.sqT e hb h
mutual
theorem Dp.ts {K : PySem.W.Frag} {H H' : Hp} (e : TS K H H') : ∀ (d : PyData) (v : V), tupOnly d = true → Dp K H v d → Dp K H' v d
  | .none, _, _, h => by cases h; exact .non
  | .bool b, _, _, h => by cases h; exact .bl b
  | .int i, _, _, h => by cases h; exact .int i
  | .str x, _, _, h => by cases h; exact .str x
  | .list ds, _, t, h => by cases t
  | .tuple ds, _, t, h => by
    cases h with
    | tup h1 h2 => exact .tup (e _ _ h1) (DpAll.ts e ds _ t h2)
  | .dict _, _, _, h => by cases h
theorem DpAll.ts {K : PySem.W.Frag} {H H' : Hp} (e : TS K H H') : ∀ (ds : List PyData) (vs : List V), tupAll ds = true → DpAll K H vs ds → DpAll K H' vs ds
  | [], _, _, h => by cases h; exact .nil
  | d :: ds, _, t, h => by
    have t' : tupOnly d = true ∧ tupAll ds = true := by
      unfold tupAll at t
      exact Bool.and_eq_true_iff.mp t
    cases h with
    | cons h1 h2 => exact .cons (Dp.ts e d _ t'.1 h1) (DpAll.ts e ds _ t'.2 h2)
end

end
end Ag
namespace Ag
open PySem L2
open C8 (pss_cut tCut)
section
variable {P : Program} {w : World} {K : PySem.W.Frag} {mg : Str → Option Value} {base : Heap}
def top (i : Nat) : Stmt := PySem.Challenge.pw_addedgrounds_k07_whole_holes_filled.main.body.getD i (.Pass ⟨0, 0, 0, 0⟩)
abbrev s_holes_of : Stmt := top 2
theorem sc_holes_of : FnScope ["shape", "formula", "table", "waiting", "one", "other"] ["shape", "formula"] (defScope s_holes_of) :=
  ⟨rfl, rfl, rfl, by decide +kernel, rfl, by decide +kernel, by decide +kernel⟩
abbrev s__law_bag : Stmt := top 4
theorem sc__law_bag : FnScope ["_law_script"] ["_law_script"] (defScope s__law_bag) :=
  ⟨rfl, rfl, rfl, by decide +kernel, rfl, by decide +kernel, by decide +kernel⟩
abbrev s__law_pull : Stmt := top 5
theorem sc__law_pull : FnScope ["_law_bag_here", "_law_many", "_law_cell", "_law_digit", "_law_seed"] ["_law_bag_here", "_law_many"] (defScope s__law_pull) :=
  ⟨rfl, rfl, rfl, by decide +kernel, rfl, by decide +kernel, by decide +kernel⟩
abbrev s__law_any : Stmt := top 6
theorem sc__law_any : FnScope ["_law_bag_here", "_law_things"] ["_law_bag_here", "_law_things"] (defScope s__law_any) :=
  ⟨rfl, rfl, rfl, by decide +kernel, rfl, by decide +kernel, by decide +kernel⟩
abbrev s__law_like : Stmt := top 7
theorem sc__law_like : FnScope ["_law_found", "_law_due", "_law_key", "_law_one", "_law_other"] ["_law_found", "_law_due"] (defScope s__law_like) :=
  ⟨rfl, rfl, rfl, by decide +kernel, rfl, by decide +kernel, by decide +kernel⟩
abbrev s__law_names : Stmt := top 8
theorem sc__law_names : FnScope ["_law_bag_here", "_law_many", "_law_letters", "_law_stem", "_law_at", "_law_first", "_law_k"] ["_law_bag_here", "_law_many"] (defScope s__law_names) :=
  ⟨rfl, rfl, rfl, by decide +kernel, rfl, by decide +kernel, by decide +kernel⟩
abbrev s__law_form : Stmt := top 9
theorem sc__law_form : FnScope ["_law_bag_here", "_law_words", "_law_deep", "_law_way", "_law_one"] ["_law_bag_here", "_law_words", "_law_deep"] (defScope s__law_form) :=
  ⟨rfl, rfl, rfl, by decide +kernel, rfl, by decide +kernel, by decide +kernel⟩
abbrev s__law_shape : Stmt := top 10
theorem sc__law_shape : FnScope ["_law_bag_here", "_law_words", "_law_deep", "_law_way", "_law_one"] ["_law_bag_here", "_law_words", "_law_deep"] (defScope s__law_shape) :=
  ⟨rfl, rfl, rfl, by decide +kernel, rfl, by decide +kernel, by decide +kernel⟩
abbrev s__law_match : Stmt := top 11
theorem sc__law_match : FnScope ["_law_shape_z", "_law_formula_z", "_law_table", "_law_late", "_law_one"] ["_law_shape_z", "_law_formula_z", "_law_table"] (defScope s__law_match) :=
  ⟨rfl, rfl, rfl, by decide +kernel, rfl, by decide +kernel, by decide +kernel⟩
abbrev s__law_put : Stmt := top 12
theorem sc__law_put : FnScope ["_law_term", "_law_table", "_law_word"] ["_law_term", "_law_table", "_law_word"] (defScope s__law_put) :=
  ⟨rfl, rfl, rfl, by decide +kernel, rfl, by decide +kernel, by decide +kernel⟩
abbrev s_law : Stmt := top 13
theorem sc_law : FnScope ["_law_script", "_law_bag_here", "_law_words", "_law_turn", "_law_shape_z", "_law_table", "_law_letter", "_law_form_here", "_law_due"] ["_law_script"] (defScope s_law) :=
  ⟨rfl, rfl, rfl, by decide +kernel, rfl, by decide +kernel, by decide +kernel⟩
structure Txt (K : PySem.W.Frag) (mg : Str → Option Value) where
  n_all : mg "all" = none
  n_bool : mg "bool" = none
  n_dict : mg "dict" = none
  n_int : mg "int" = none
  n_isinstance : mg "isinstance" = none
  n_len : mg "len" = none
  n_list : mg "list" = none
  n_range : mg "range" = none
  n_sorted : mg "sorted" = none
  n_str : mg "str" = none
  n_tuple : mg "tuple" = none
  n_zip : mg "zip" = none
  a_PAIRS : Addr
  g_PAIRS : mg "PAIRS" = some (.ref a_PAIRS)
  q_PAIRS : ∀ H : Hp, SqT K H a_PAIRS [.str (Str.ofString "then"), .str (Str.ofString "and"), .str (Str.ofString "or")]
  f_holes_of : Addr
  fd_holes_of : FuncData
  F_holes_of : Fun K "holes_of" "holes_of" s_holes_of f_holes_of fd_holes_of
  g_holes_of : mg "holes_of" = some (.ref f_holes_of)
  b_holes_of : Binds K fd_holes_of ["shape", "formula"] []
  f__law_bag : Addr
  fd__law_bag : FuncData
  F__law_bag : Fun K "_law_bag" "_law_bag" s__law_bag f__law_bag fd__law_bag
  g__law_bag : mg "_law_bag" = some (.ref f__law_bag)
  b__law_bag : Binds K fd__law_bag ["_law_script"] []
  f__law_pull : Addr
  fd__law_pull : FuncData
  F__law_pull : Fun K "_law_pull" "_law_pull" s__law_pull f__law_pull fd__law_pull
  g__law_pull : mg "_law_pull" = some (.ref f__law_pull)
  b__law_pull : Binds K fd__law_pull ["_law_bag_here", "_law_many"] []
  f__law_any : Addr
  fd__law_any : FuncData
  F__law_any : Fun K "_law_any" "_law_any" s__law_any f__law_any fd__law_any
  g__law_any : mg "_law_any" = some (.ref f__law_any)
  b__law_any : Binds K fd__law_any ["_law_bag_here", "_law_things"] []
  f__law_like : Addr
  fd__law_like : FuncData
  F__law_like : Fun K "_law_like" "_law_like" s__law_like f__law_like fd__law_like
  g__law_like : mg "_law_like" = some (.ref f__law_like)
  b__law_like : Binds K fd__law_like ["_law_found", "_law_due"] []
  f__law_names : Addr
  fd__law_names : FuncData
  F__law_names : Fun K "_law_names" "_law_names" s__law_names f__law_names fd__law_names
  g__law_names : mg "_law_names" = some (.ref f__law_names)
  b__law_names : Binds K fd__law_names ["_law_bag_here", "_law_many"] []
  f__law_form : Addr
  fd__law_form : FuncData
  F__law_form : Fun K "_law_form" "_law_form" s__law_form f__law_form fd__law_form
  g__law_form : mg "_law_form" = some (.ref f__law_form)
  b__law_form : Binds K fd__law_form ["_law_bag_here", "_law_words", "_law_deep"] []
  f__law_shape : Addr
  fd__law_shape : FuncData
  F__law_shape : Fun K "_law_shape" "_law_shape" s__law_shape f__law_shape fd__law_shape
  g__law_shape : mg "_law_shape" = some (.ref f__law_shape)
  b__law_shape : Binds K fd__law_shape ["_law_bag_here", "_law_words", "_law_deep"] []
  f__law_match : Addr
  fd__law_match : FuncData
  F__law_match : Fun K "_law_match" "_law_match" s__law_match f__law_match fd__law_match
  g__law_match : mg "_law_match" = some (.ref f__law_match)
  b__law_match : Binds K fd__law_match ["_law_shape_z", "_law_formula_z", "_law_table"] []
  f__law_put : Addr
  fd__law_put : FuncData
  F__law_put : Fun K "_law_put" "_law_put" s__law_put f__law_put fd__law_put
  g__law_put : mg "_law_put" = some (.ref f__law_put)
  b__law_put : Binds K fd__law_put ["_law_term", "_law_table", "_law_word"] []
  f_law : Addr
  fd_law : FuncData
  F_law : Fun K "law" "law" s_law f_law fd_law
  g_law : mg "law" = some (.ref f_law)
  b_law : Binds K fd_law ["_law_script"] []
  b_law_all : ∀ (s : Shared) (v : Value), BindsTo s fd_law ⟨[v], []⟩ [("_law_script", v)]
def kb_holes_of_0_formula_shape_pm {α : Type} : List α → List α
  | [a0, a1] => [a1, a0]
  | l => l
theorem kb_holes_of_0_formula_shape_rel {vs : List V} {us : List Value} (r : Vals vs us) : Vals (kb_holes_of_0_formula_shape_pm vs) (kb_holes_of_0_formula_shape_pm us) := by
  cases r with
  | nil => exact .nil
  | cons h1 r =>
  cases r with
  | nil => exact .cons h1 (.nil)
  | cons h2 r =>
  cases r with
  | nil => exact .cons h2 (.cons h1 (.nil))
  | cons h3 r => exact .cons h1 (.cons h2 (.cons h3 (r)))
theorem kb_holes_of_0_formula_shape (T : Txt K mg) : KBn K T.fd_holes_of ["shape", "formula"] 0 ["formula", "shape"] (fun us ws => kb_holes_of_0_formula_shape_pm (us ++ ws)) (fun vs zs => kb_holes_of_0_formula_shape_pm (vs ++ zs)) := by
  obtain ⟨_, _, _, _, _, _, _, _, _, e, _, _⟩ := T.F_holes_of.ex
  rw [e]
  exact ⟨fun s us ws _ h1 h2 => match us, ws, h1, h2 with | [], [_, _], _, _ => .of_eq rfl, fun r1 r2 => kb_holes_of_0_formula_shape_rel (Vals.append r1 r2)⟩


end
end Ag
namespace Ag
open PySem L2
open C8 (pss_cut tCut)
section
variable {P : Program} {w : World} {K : PySem.W.Frag} {mg : Str → Option Value} {base : Heap}
theorem cut63 (ns : List Int) (h : ns.length ≤ 63) : cutV (ns.map V.int) none (some 63) = ns.map V.int := by
  unfold cutV
  have e : HT.sIx (ns.map V.int).length (ns.map V.int).length (some 63) = (ns.map V.int).length := by
    unfold HT.sIx; simp; omega
  rw [e]
  have e0 : HT.sIx (ns.map V.int).length 0 none = 0 := rfl
  rw [e0]
  simp [List.take_of_length_le]
theorem ok_bag (T : Txt K mg) : FnOk P w K mg base CX0 1 T.f__law_bag T.fd__law_bag ["_law_script"] (spBag K) := by
  refine T.F__law_bag.ok sc__law_bag (fun vs H Q E h => ?_) (fun cdv A outer s H vs Q E hr h => ?_)
  · obtain ⟨a, ns, rfl, _⟩ := h
    rfl
  · obtain ⟨a, ns, rfl, hS, hl, k⟩ := h
    refine ⟨_, (pss_one (ps_ret (pe_lst (pa_cons (pe_callTy call_list_of (by rfl) T.n_list (by decide +kernel) (pa_cons (pe_slice sl_list (pv 0) po_none (po_some pe_int)) pa_nil)) (pa_cons pe_int (pa_cons pe_int (pa_cons pe_int (pa_cons pe_int pa_nil)))))))), ?_⟩
    refine ⟨_, rfl, _, rfl, a, _, rfl, hS, fun p hp => ?_⟩
    refine ⟨p, _, rfl, .inl (SqL.of upd_same), fun c hc => ⟨by show 5 ≤ sizeLine; decide, fun b hb => ?_⟩⟩
    rw [cut63 ns hl] at *
    have s1 : Same H (upd H p (.lst (ns.map V.int))) := Same.laid _ hp
    have s2 := s1.trans (Same.laid (.lst (ns.map V.int)) hc)
    have s3 := s2.trans (Same.laid (.lst [.ref c, .int 0, .int 0, .int 4932, .int 0]) hb)
    refine k _ b c s3 (s2.free hb) ⟨ns, 0, 0, 4932, 0, upd_same, ?_, Nat.zero_le _, hl, by decide, by decide, by decide⟩
    have ncb : c ≠ b := fun e => by rw [e, upd_same] at hb; cases hb
    rw [upd_ne ncb, upd_same]

end
end Ag
namespace Ag
open PySem L2
open C8 (pss_cut tCut)
section
variable {P : Program} {w : World} {K : PySem.W.Frag} {mg : Str → Option Value} {base : Heap}
theorem ok_pull (T : Txt K mg) : FnOk P w K mg base CX0 1 T.f__law_pull T.fd__law_pull ["_law_bag_here", "_law_many"] spPull := by
  refine T.F__law_pull.ok sc__law_pull (fun vs H Q E h => ?_) (fun cdv A outer s H vs Q E hr h => ?_)
  · obtain ⟨b, c, m, rfl, _⟩ := h
    rfl
  · obtain ⟨b, c, m, rfl, hB, m0, m1, k⟩ := h
    refine ⟨_, (pss_cut (ps_if (PW.pt (pw_and (pt_cmpR op_eq (pe_ix ix_list (pv 0) pe_int (fun _ _ => rfl)) pe_int (nomark _)) (pw_and1 (pt_cmpR op_lt (pe_ix ix_list (pv 0) pe_int (fun _ _ => rfl)) (pe_callB call_len_seq (by rfl) T.n_len (by decide +kernel) (pa_cons (pe_ix ix_list (pv 0) pe_int (fun _ _ => rfl)) pa_nil)) (nomark _))))) (pss_cons (ps_set (i := 2) sc__law_pull.nd rfl (Or.inl rfl) (pe_ix ix_list (pe_ix ix_list (pv 0) pe_int (fun _ _ => rfl)) (pe_ix ix_list (pv 0) pe_int (fun _ _ => rfl)) (fun _ _ => rfl)))
      (pss_cons (ps_asg (pe_op op_add (pe_ix ix_list (pv 0) pe_int (fun _ _ => rfl)) pe_int) (pg_sub (pv 0) pe_int set_list))
      (pss_one (ps_if (pt_cmpR op_ge (pv 2) (pe_op op_pow pe_int pe_int) (nomark _)) (pss_one (ps_asg (pv 2) (pg_sub (pv 0) pe_int set_list))) (pss_one (ps_asg (pe_op op_mod (pe_callTy call_int1 (by rfl) T.n_int (by decide +kernel) (pa_cons (pe_op op_add (pe_op op_add (pe_op op_mul (pe_ix ix_list (pv 0) pe_int (fun _ _ => rfl)) pe_int) (pe_op op_mul (pe_op op_mod (pe_callTy call_int1 (by rfl) T.n_int (by decide +kernel) (pa_cons (pv 2) pa_nil)) pe_int) pe_int)) pe_int) pa_nil)) pe_int) (pg_sub (pv 0) pe_int set_list))))))) pss_nil)
      (pss_cons (ps_if (pt_cmpR op_gt (pe_ix ix_list (pv 0) pe_int (fun _ _ => rfl)) pe_int (nomark _)) (pss_cons (ps_set (i := 3) sc__law_pull.nd rfl (Or.inl rfl) (pe_op op_mod (pe_callTy call_int1 (by rfl) T.n_int (by decide +kernel) (pa_cons (pe_ix ix_list (pv 0) pe_int (fun _ _ => rfl)) pa_nil)) (pv 1)))
      (pss_cons (ps_asg (pe_op op_fdivW (pe_ix ix_list (pv 0) pe_int (fun _ _ => rfl)) (pv 1)) (pg_sub (pv 0) pe_int set_list))
      (pss_one (ps_ret (pv 3))))) pss_nil)
      (pss_cons (ps_asg (pe_op op_add (pe_ix ix_list (pv 0) pe_int (fun _ _ => rfl)) pe_int) (pg_sub (pv 0) pe_int set_list))
      (pss_cons (ps_set (i := 4) sc__law_pull.nd rfl (Or.inl rfl) (pe_ix ix_list (pv 0) pe_int (fun _ _ => rfl)))
      (pss_cons (ps_asg (pe_op op_mod (pe_callTy call_int1 (by rfl) T.n_int (by decide +kernel) (pa_cons (pe_op op_add (pe_op op_add (pe_op op_add (pe_op op_mul (pe_op op_mul (pv 4) (pv 4)) pe_int) (pe_op op_mul (pv 4) pe_int)) (pe_op op_mul (pe_ix ix_list (pv 0) pe_int (fun _ _ => rfl)) pe_int)) pe_int) pa_nil)) pe_int) (pg_sub (pv 0) pe_int set_list))
      (pss_one (ps_ret (pe_op op_mod (pe_callTy call_int1 (by rfl) T.n_int (by decide +kernel) (pa_cons (pe_op op_add (pe_op op_fdivW (pe_ix ix_list (pv 0) pe_int (fun _ _ => rfl)) pe_int) (pe_op op_mul (pe_op op_mod (pe_callTy call_int1 (by rfl) T.n_int (by decide +kernel) (pa_cons (pe_ix ix_list (pv 0) pe_int (fun _ _ => rfl)) pa_nil)) pe_int) pe_int)) pa_nil)) (pv 1))))))))), ?_⟩
    obtain ⟨ns, i, big, seed, cnt, hb, hc, hi, hl, b0, s0, s1⟩ := hB
    have ncb := bag_ne hb hc
    refine ⟨fun σ' H' => ∃ (cell : Option V) (i big seed : Int) (i' : Nat), i = i' ∧ i' ≤ ns.length ∧ 0 ≤ big ∧ 0 ≤ seed ∧ seed < 2147483629 ∧ σ' = [some (.ref b), some (.int m), cell, none, none] ∧ H' = upd H b (.lst [.ref c, .int i, .int big, .int seed, .int cnt]), ?_, ?_⟩
    · refine ⟨_, rfl, b, _, 2, _, rfl, rfl, SqL.of hb, rfl, rfl, _, rfl, ?_⟩
      refine ite2 (fun hbig => ?_) (fun _ => ?_)
      · refine ⟨_, rfl, b, _, 1, _, rfl, rfl, SqL.of hb, rfl, _, rfl, b, _, 0, _, rfl, rfl, SqL.of hb, rfl, c, _, rfl, .inl (SqL.of hc), _, _, rfl, rfl, _, rfl, ?_⟩
        refine ite2 (fun hlt => ?_) (fun _ => ?_)
        · have hlt' : i < ns.length := by
            have q := of_decide_eq_true hlt
            rw [List.length_map] at q
            omega
          refine ⟨_, rfl, b, _, 0, _, rfl, rfl, SqL.of hb, rfl, _, rfl, b, _, 1, _, rfl, rfl, SqL.of hb, rfl, c, _, _, .int ns[i], rfl, rfl, SqL.of hc, atI_nat (by rw [List.getElem?_map, List.getElem?_eq_getElem hlt']; rfl), ?_⟩
          refine ⟨_, rfl, b, _, 1, _, rfl, rfl, SqL.of hb, rfl, _, _, rfl, rfl, _, rfl, b, _, 1, 1, rfl, rfl, hb, rfl, ?_⟩
          refine ⟨_, rfl, 10, 18, rfl, rfl, ⟨by decide, by decide, by decide⟩, _, _, rfl, rfl, _, rfl, ?_⟩
          refine ite2 (fun hge => ?_) (fun _ => ?_)
          · refine ⟨_, rfl, _, rfl, b, _, 2, 2, rfl, rfl, upd_same, rfl, ?_⟩
            have hge' := of_decide_eq_true hge
            refine ⟨_, (i : Int) + 1, ns[i], seed, i + 1, by omega, hlt', ?_, s0, s1, rfl, ?_⟩
            · have : (0 : Int) ≤ 10 ^ 18 := by decide
              exact Int.le_trans this hge'
            · rw [upd_upd]; rfl
          · refine ⟨_, rfl, b, _, 3, _, rfl, rfl, SqL.of upd_same, rfl, _, _, rfl, rfl, .inr ⟨by decide, by decide⟩, ?_⟩
            refine ⟨_, rfl, .inl ⟨_, rfl, _, _, rfl, rfl, by show (0:Int) < 2147483489; decide, _, _, rfl, rfl, .inr ⟨by decide, by decide⟩, _, _, rfl, rfl, _, _, rfl, rfl, .inl ⟨_, rfl, _, _, rfl, rfl, by show (0:Int) < 2147483629; decide, _, rfl, b, _, 3, 3, rfl, rfl, upd_same, rfl, ?_⟩⟩⟩
            refine ⟨_, (i : Int) + 1, big, (seed * 40009 + ns[i] % 2147483489 * 30011 + 17) % 2147483629, i + 1, by omega, hlt', b0, Int.emod_nonneg _ (by decide), Int.emod_lt_of_pos _ (by decide), rfl, ?_⟩
            rw [upd_upd]; rfl
        · exact ⟨_, i, big, seed, i, rfl, hi, b0, s0, s1, rfl, (upd_self hb).symm⟩
      · exact ⟨_, i, big, seed, i, rfl, hi, b0, s0, s1, rfl, (upd_self hb).symm⟩
    · rintro σ' H' ⟨cell, i, big, seed, i', rfl, hi, b0, s0, s1, rfl, rfl⟩
      have hc' : ∀ o, upd H b o c = some (.lst (ns.map V.int)) := fun o => by rw [upd_ne ncb]; exact hc
      refine ⟨_, rfl, b, _, 2, _, rfl, rfl, SqL.of upd_same, rfl, _, _, rfl, rfl, _, rfl, ?_⟩
      refine ite2 (fun _ => ?_) (fun _ => ?_)
      · refine ⟨_, rfl, b, _, 2, _, rfl, rfl, SqL.of upd_same, rfl, .inl ⟨_, rfl, _, rfl, _, _, rfl, rfl, m0, ?_⟩⟩
        refine ⟨_, rfl, b, _, 2, _, rfl, rfl, SqL.of upd_same, rfl, _, rfl, _, _, rfl, rfl, wide_div m0 (b := 40) (by omega) (by decide) (by decide), _, rfl, b, _, 2, 2, rfl, rfl, upd_same, rfl, _, rfl, ?_⟩
        rw [upd_upd]
        refine k _ _ (Int.emod_nonneg _ (by omega)) (Int.emod_lt_of_pos _ m0) (Ext.upd b H _) ⟨ns, i', _, seed, cnt, upd_same, hc' _, hi, hl, Int.ediv_nonneg b0 (by omega), s0, s1⟩
      · refine ⟨_, rfl, b, _, 4, _, rfl, rfl, SqL.of upd_same, rfl, _, _, rfl, rfl, _, rfl, b, _, 4, 4, rfl, rfl, upd_same, rfl, ?_⟩
        refine ⟨_, rfl, b, _, 3, _, rfl, rfl, SqL.of upd_same, rfl, ?_⟩
        refine ⟨_, rfl, _, rfl, _, _, rfl, rfl, .inl ⟨by omega, by omega⟩, _, _, rfl, rfl, .inr ⟨by decide, by decide⟩, ?_⟩
        refine ⟨_, rfl, _, _, rfl, rfl, .inr ⟨by decide, by decide⟩, _, _, rfl, rfl, ?_⟩
        refine ⟨_, rfl, b, _, 4, _, rfl, rfl, SqL.of upd_same, rfl, _, _, rfl, rfl, .inr ⟨by decide, by decide⟩, _, _, rfl, rfl, _, _, rfl, rfl, ?_⟩
        refine .inl ⟨_, rfl, _, _, rfl, rfl, by show (0:Int) < 2147483629; decide, _, rfl, b, _, 3, 3, rfl, rfl, upd_same, rfl, ?_⟩
        refine ⟨_, rfl, b, _, 3, _, rfl, rfl, SqL.of upd_same, rfl, _, _, rfl, rfl, ⟨by decide, by decide⟩, ?_⟩
        refine ⟨_, rfl, b, _, 3, _, rfl, rfl, SqL.of upd_same, rfl, .inl ⟨_, rfl, _, _, rfl, rfl, by show (0:Int) < 7901; decide, _, _, rfl, rfl, .inr ⟨by decide, by decide⟩, _, _, rfl, rfl, ?_⟩⟩
        refine .inl ⟨_, rfl, _, rfl, _, _, rfl, rfl, m0, ?_⟩
        rw [upd_upd, upd_upd]
        exact k _ _ (Int.emod_nonneg _ (by omega)) (Int.emod_lt_of_pos _ m0) (Ext.upd b H _) ⟨ns, i', big, _, _, upd_same, hc' _, hi, hl, b0, Int.emod_nonneg _ (by decide), Int.emod_lt_of_pos _ (by decide)⟩

end
end Ag
namespace Ag
open PySem L2
open C8 (pss_cut tCut)
section
variable {P : Program} {w : World} {K : PySem.W.Frag} {mg : Str → Option Value} {base : Heap}
/-- an item of a list, of a tuple, or a sign of a text is drawn -/
def spAny (K : PySem.W.Frag) : Sp := fun vs H Q _ => ∃ (b c : Addr) (t : V), vs = [.ref b, t] ∧ BagAt b c H ∧
  ((∃ (l : Addr) (xs : List V), t = .ref l ∧ ((l ≠ b ∧ H l = some (.lst xs)) ∨ SqT K H l xs) ∧ 0 < xs.length ∧ xs.length < 1000000 ∧
      ∀ (i : Nat) (x : V) (H' : Hp), xs[i]? = some x → Ext b H H' → BagAt b c H' → Q x H') ∨
   (∃ z : Str, t = .str z ∧ 0 < z.length ∧ z.length < 1000000 ∧ ∀ (i cp : Nat) (H' : Hp), z.cps.toList[i]? = some cp → Ext b H H' → BagAt b c H' → Q (.str ⟨#[cp]⟩) H'))
theorem ok_any (T : Txt K mg) : FnOk P w K mg base CX0 2 T.f__law_any T.fd__law_any ["_law_bag_here", "_law_things"] (spAny K) := by
  have G__law_pull : FnOk P w K mg base CX0 1 T.f__law_pull T.fd__law_pull _ spPull := ok_pull T
  refine T.F__law_any.ok sc__law_any (fun vs H Q E h => ?_) (fun cdv A outer s H vs Q E hr h => ?_)
  · obtain ⟨b, c, t, rfl, _⟩ := h
    rfl
  · obtain ⟨b, c, t, rfl, hB, h⟩ := h
    refine ⟨_, (pss_one (ps_ret (pe_ix ix_seq (pv 1) (pe_call G__law_pull (hr.mono (by omega)) rfl T.g__law_pull T.F__law_pull.kp T.b__law_pull .nil pass0 (pa_cons (pv 0) (pa_cons (pe_callB call_len (by rfl) T.n_len (by decide +kernel) (pa_cons (pv 1) pa_nil)) pa_nil))) (fun _ _ => rfl)))), ?_⟩
    obtain ⟨ys, hb⟩ := hB.lst
    rcases h with ⟨l, xs, rfl, hl, h0, h1, k⟩ | ⟨z, rfl, h0, h1, k⟩
    · have hn : LenV K (.ref l) H xs.length := by
        rcases hl with ⟨_, hl⟩ | hl
        · exact .inl ⟨xs, SqL.of hl, rfl⟩
        · exact .inr ⟨xs, hl, rfl⟩
      refine ⟨_, rfl, _, rfl, _, rfl, _, xs.length, rfl, hn, b, c, _, rfl, hB, by omega, by omega, fun d H1 d0 d1 x1 hB' => ?_⟩
      have hd : d.toNat < xs.length := by omega
      have e : atI xs d = some xs[d.toNat] := atI_int d0 (by simp [hd])
      rcases hl with ⟨nb, hl⟩ | hl
      · exact .inl ⟨l, xs, d, _, rfl, rfl, SqL.of (x1 _ _ nb hl), e, k d.toNat _ H1 (by simp [hd]) x1 hB'⟩
      · exact .inr (.inl ⟨l, xs, d, _, rfl, rfl, Ext.sqT x1 hb hl, e, k d.toNat _ H1 (by simp [hd]) x1 hB'⟩)
    · have hz : z.length ≤ sizeLine := Nat.le_of_lt (Nat.lt_of_lt_of_le h1 (by decide))
      refine ⟨_, rfl, _, rfl, _, rfl, _, z.length, rfl, ⟨hz, rfl⟩, b, c, _, rfl, hB, by omega, by omega, fun d H1 d0 d1 x1 hB' => ?_⟩
      have hlen : z.cps.toList.length = z.length := by simp [Str.length]
      have hd : d.toNat < z.cps.toList.length := by omega
      have e : atI z.cps.toList d = some (z.cps.toList[d.toNat]'hd) := atI_int d0 (List.getElem?_eq_getElem hd)
      exact .inr (.inr ⟨z, d, _, rfl, rfl, hz, e, k d.toNat _ H1 (List.getElem?_eq_getElem hd) x1 hB'⟩)

end
end Ag
namespace Ag
open PySem L2
open C8 (pss_cut tCut)
section
variable {P : Program} {w : World} {K : PySem.W.Frag} {mg : Str → Option Value} {base : Heap}
/-- data nested less than n deep, its lists of bounded length -/
def fitD : Nat → PyData → Bool
  | 0, _ => false
  | n + 1, .list ds => decide (ds.length ≤ 100000) && ds.all (fitD n)
  | n + 1, .tuple ds => decide (ds.length ≤ 100000) && ds.all (fitD n)
  | _ + 1, .dict _ => false
  | _ + 1, _ => true
/-- texts in order: there is one arrangement -/
theorem risingS_pw : ∀ (p : Str) (l : List Str), PyProof.Rows.risingS p l = true → (p :: l).Pairwise (fun a b => ¬ b.cps.toList < a.cps.toList)
  | p, [], _ => by simp
  | p, x :: r, h => by
    unfold PyProof.Rows.risingS at h
    rw [Bool.and_eq_true_iff, PyProof.Rows.ltCps_eq] at h
    have h1 : ¬ x.cps.toList < p.cps.toList := by simpa using h.1
    have ih := risingS_pw x r h.2
    refine List.Pairwise.cons (fun y hy => ?_) ih
    rcases List.mem_cons.mp hy with rfl | hy
    · exact h1
    · have h2 := List.rel_of_pairwise_cons ih hy
      exact List.not_lt.mpr (List.le_trans (List.not_lt.mp h1) (List.not_lt.mp h2))
theorem sortedS_one {xs ys zs : List Str} (p1 : ys.Perm xs) (s1 : PyProof.Rows.sortedS ys = true) (p2 : zs.Perm xs) (s2 : PyProof.Rows.sortedS zs = true) : ys = zs := by
  have pw : ∀ l : List Str, PyProof.Rows.sortedS l = true → l.Pairwise (fun a b => ¬ b.cps.toList < a.cps.toList) := fun l h => by
    cases l with
    | nil => simp
    | cons x r => exact risingS_pw x r h
  refine List.Perm.eq_of_pairwise ?_ (pw _ s1) (pw _ s2) (p1.trans p2.symm)
  intro a b _ _ h1 h2
  have e := List.le_antisymm (List.not_lt.mp h1) (List.not_lt.mp h2)
  have e' := congrArg List.toArray e
  simp only [Array.toArray_toList] at e'
  cases a
  cases b
  exact congrArg Str.mk e'
def ScalV : V → Prop
  | .non => True
  | .bl _ => True
  | .int _ => True
  | .str _ => True
  | _ => False
/-- both stand for one thing, as the law's own comparing sees it -/
def LikeR (K : PySem.W.Frag) (H : Hp) : Nat → V → V → Prop
  | 0, _, _ => False
  | n + 1, v, u => (ScalV v ∧ u = v)
    ∨ (∃ (a a' : Addr) (xs ys : List V), v = .ref a ∧ u = .ref a' ∧ SqL K H a xs ∧ SqL K H a' ys ∧ xs.length = ys.length ∧ ys.length ≤ 100000 ∧ ∀ (i : Nat) (x y : V), xs[i]? = some x → ys[i]? = some y → LikeR K H n x y)
    ∨ (∃ (a a' : Addr) (xs ys : List V), v = .ref a ∧ u = .ref a' ∧ SqT K H a xs ∧ SqT K H a' ys ∧ xs.length = ys.length ∧ ys.length ≤ 100000 ∧ ∀ (i : Nat) (x y : V), xs[i]? = some x → ys[i]? = some y → LikeR K H n x y)
    ∨ (∃ (a a' : Addr) (kvs kus : List (Key × V)) (ks : List Str), v = .ref a ∧ u = .ref a' ∧ H a = some (.dK kvs) ∧ H a' = some (.dK kus) ∧ kvs.map (·.1) = ks.map Sum.inr ∧ kus.map (·.1) = ks.map Sum.inr ∧ ks.length < 64 ∧ (∀ k ∈ ks, PyData.strOk k = true) ∧
        ∀ k ∈ ks, ∃ (x y : V) (e : PyData), valV kvs (.inr k) = some x ∧ valV kus (.inr k) = some y ∧ Dp K H x e ∧ Dp K H y e ∧ tupOnly e = true ∧ fitD n e = true)
theorem LikeR.of_dp {K : PySem.W.Frag} {H : Hp} : ∀ {n : Nat} {v u : V} {d : PyData}, Dp K H v d → Dp K H u d → fitD n d = true → LikeR K H n v u
  | 0, _, _, _, _, _, h => by cases h
  | n + 1, v, u, d, hv, hu, hf => by
    cases hv with
    | non => cases hu; exact .inl ⟨trivial, rfl⟩
    | bl b => cases hu; exact .inl ⟨trivial, rfl⟩
    | int i => cases hu; exact .inl ⟨trivial, rfl⟩
    | str x => cases hu; exact .inl ⟨trivial, rfl⟩
    | @lst a xs ds sv av =>
      cases hu with
      | @lst a' ys _ su au =>
      unfold fitD at hf
      obtain ⟨h1, h2⟩ := Bool.and_eq_true_iff.mp hf
      refine .inr (.inl ⟨a, a', xs, ys, rfl, rfl, sv, su, by rw [DpAll.length av, DpAll.length au], by rw [DpAll.length au]; exact of_decide_eq_true h1, fun i x y ex ey => ?_⟩)
      obtain ⟨d1, e1, q1⟩ := DpAll.get av ex
      obtain ⟨d2, e2, q2⟩ := DpAll.get au ey
      obtain rfl : d1 = d2 := Option.some.inj (e1.symm.trans e2)
      exact LikeR.of_dp q1 q2 (List.all_eq_true.mp h2 d1 (List.mem_of_getElem? e1))
    | @tup a xs ds sv av =>
      cases hu with
      | @tup a' ys _ su au =>
      unfold fitD at hf
      obtain ⟨h1, h2⟩ := Bool.and_eq_true_iff.mp hf
      refine .inr (.inr (.inl ⟨a, a', xs, ys, rfl, rfl, sv, su, by rw [DpAll.length av, DpAll.length au], by rw [DpAll.length au]; exact of_decide_eq_true h1, fun i x y ex ey => ?_⟩))
      obtain ⟨d1, e1, q1⟩ := DpAll.get av ex
      obtain ⟨d2, e2, q2⟩ := DpAll.get au ey
      obtain rfl : d1 = d2 := Option.some.inj (e1.symm.trans e2)
      exact LikeR.of_dp q1 q2 (List.all_eq_true.mp h2 d1 (List.mem_of_getElem? e1))
theorem LikeR.same {K : PySem.W.Frag} {H H' : Hp} (s : Same H H') : ∀ {n : Nat} {v u : V}, LikeR K H n v u → LikeR K H' n v u
  | 0, _, _, h => h
  | n + 1, v, u, h => by
    rcases h with h | ⟨a, a', xs, ys, e1, e2, h1, h2, h3, h4, h5⟩ | ⟨a, a', xs, ys, e1, e2, h1, h2, h3, h4, h5⟩ | ⟨a, a', kvs, kus, ks, e1, e2, h1, h2, h3, h4, h5, h6, h7⟩
    · exact .inl h
    · exact .inr (.inl ⟨a, a', xs, ys, e1, e2, s.seq h1, s.seq h2, h3, h4, fun i x y ex ey => LikeR.same s (h5 i x y ex ey)⟩)
    · exact .inr (.inr (.inl ⟨a, a', xs, ys, e1, e2, Same.sqT s h1, Same.sqT s h2, h3, h4, fun i x y ex ey => LikeR.same s (h5 i x y ex ey)⟩))
    · refine .inr (.inr (.inr ⟨a, a', kvs, kus, ks, e1, e2, s _ _ h1, s _ _ h2, h3, h4, h5, h6, fun k hk => ?_⟩))
      obtain ⟨x, y, e, q1, q2, q3, q4, q5, q6⟩ := h7 k hk
      exact ⟨x, y, e, q1, q2, Dp.same s _ _ q3, Dp.same s _ _ q4, q5, q6⟩
def spLikeR (K : PySem.W.Frag) (n : Nat) : Sp := fun vs H Q _ => ∃ (v u : V), vs = [v, u] ∧ LikeR K H n v u ∧ ∀ H', Same H H' → Q (.bl true) H'
def spLike (K : PySem.W.Frag) (n : Nat) : Sp := fun vs H Q _ => ∃ (v u : V) (d : PyData), vs = [v, u] ∧ Dp K H v d ∧ Dp K H u d ∧ fitD n d = true ∧ ∀ H', Same H H' → Q (.bl true) H'
theorem kitAny2 {t a b : String} {x y : Bool} (h1 : kitB t a = some x) (h2 : kitB t b = some y) : PySem.W.kitAny K (.type t) [.type a, .type b] = some (x || y) := by
  refine kitAny_cons (kit_ty h1) (fun e => ?_) (fun e => by rw [e]; rfl)
  subst e
  refine kitAny_cons (kit_ty h2) (fun e => ?_) (fun e => by rw [e]; rfl)
  rw [e]
  exact kitAny_nil
theorem dp_strs {H : Hp} : ∀ l : List Str, DpAll K H (l.map V.str) (l.map .str)
  | [] => .nil
  | x :: l => .cons (.str x) (dp_strs l)
theorem canLay_alls : ∀ {ds : List PyData}, (∀ d ∈ ds, PyData.canLay0 d = true) → PyData.canLayAll0 ds = true
  | [], _ => by rw [PyData.canLayAll0]
  | d :: ds, h => by rw [PyData.canLayAll0, h d List.mem_cons_self, canLay_alls fun x hx => h x (List.mem_cons_of_mem _ hx)]; rfl
theorem depth_strs : ∀ l : List Str, PyData.depthAll (l.map .str) = 0
  | [] => by rw [List.map_nil, PyData.depthAll]
  | x :: l => by rw [List.map_cons, PyData.depthAll, PyData.depth, depth_strs l]; rfl
theorem strs_shaped {l : List Str} (h : ∀ k ∈ l, PyData.strOk k = true) : SeqAt.shaped (.list (l.map .str)) = true := by
  unfold SeqAt.shaped
  rw [PyData.canLay0, canLay_alls, PyData.depth, depth_strs]
  · rfl
  · intro d hd
    obtain ⟨k, hk, rfl⟩ := List.mem_map.mp hd
    rw [PyData.canLay0]
    exact h k hk
theorem strs_eqvAll : ∀ l : List Str, PyData.eqvAll (l.map .str) (l.map .str) = true
  | [] => by rw [List.map_nil, PyData.eqvAll]
  | x :: l => by rw [List.map_cons, PyData.eqvAll, PyData.eqv, strs_eqvAll l]; simp
theorem strs_eqv (l : List Str) : PyData.eqv (.list (l.map .str)) (.list (l.map .str)) = true := by rw [PyData.eqv, strs_eqvAll]
theorem ok_likeR (T : Txt K mg) : ∀ n : Nat, FnOk P w K mg base CX0 n T.f__law_like T.fd__law_like ["_law_found", "_law_due"] (spLikeR K n)
  | 0 => ⟨fun vs H Q E h => (by obtain ⟨v, u, rfl, _⟩ := h; rfl), fun A outer s H args us vs Q E _ _ _ _ h => (by obtain ⟨v, u, _, h, _⟩ := h; exact h.elim)⟩
  | n + 1 => by
    have G__law_like : FnOk P w K mg base CX0 n T.f__law_like T.fd__law_like _ (spLikeR K n) := ok_likeR T n
    refine T.F__law_like.ok sc__law_like (fun vs H Q E h => ?_) (fun cdv A outer s H vs Q E hr h => ?_)
    · obtain ⟨v, u, rfl, _⟩ := h
      rfl
    · obtain ⟨v, u, rfl, hL, k⟩ := h
      refine ⟨_, (pss_cons (ps_if (pt_val (pe_callB call_isi (by rfl) T.n_isinstance (by decide +kernel) (pa_cons (pv 1) (pa_cons (pe_bltn (v := .ty "dict") (u := .type "dict") (by rfl) T.n_dict (by decide +kernel) rfl) pa_nil)))) (pss_one (ps_ret (pe_and (pe_callB call_isi (by rfl) T.n_isinstance (by decide +kernel) (pa_cons (pv 0) (pa_cons (pe_bltn (v := .ty "dict") (u := .type "dict") (by rfl) T.n_dict (by decide +kernel) rfl) pa_nil))) (pe_and (pe_cmpR (op_eqD (hu64 hr)) (pe_callB cr_sortedS (by rfl) T.n_sorted (by decide +kernel) (pa_cons (pe_callTy (call_listD rfl) (by rfl) T.n_list (by decide +kernel) (pa_cons (pv 0) pa_nil)) pa_nil)) (pe_callB cr_sortedS (by rfl) T.n_sorted (by decide +kernel) (pa_cons (pe_callTy (call_listD rfl) (by rfl) T.n_list (by decide +kernel) (pa_cons (pv 1) pa_nil)) pa_nil)) (nomark _)) (pe_one (pe_callB (cr_all rfl) (by rfl) T.n_all (by decide +kernel) (pa_cons (pe_lock (pe_lc (own := [("_law_key", 2)]) (g := gName 2) (tt := tYes) rfl sc__law_like.nd (pi_keys (pv 1)) (blkOk_by (N := ["_law_found", "_law_due", "_law_key", "_law_one", "_law_other"]) (sc := defScope s__law_like) (by decide +kernel)) (fun _ _ _ _ _ => (pg_name (i := 2) sc__law_like.nd rfl (Or.inl rfl))) (fun _ _ _ _ _ => pts_nil) (fun _ _ _ _ _ => (pe_call G__law_like (hr.mono (by omega)) rfl T.g__law_like T.F__law_like.kp T.b__law_like .nil pass0 (pa_cons (pe_dget (hu_of hr) (pv 0) (pv 2) (fun _ _ => rfl)) (pa_cons (pe_dget (hu_of hr) (pv 1) (pv 2) (fun _ _ => rfl)) pa_nil)))))) pa_nil))))))) pss_nil)
      (pss_cons (ps_if (pt_val (pe_callB call_isiT (by rfl) T.n_isinstance (by decide +kernel) (pa_cons (pv 1) (pa_cons (pe_tup (pa_cons (pe_bltn (v := .ty "list") (u := .type "list") (by rfl) T.n_list (by decide +kernel) rfl) (pa_cons (pe_bltn (v := .ty "tuple") (u := .type "tuple") (by rfl) T.n_tuple (by decide +kernel) rfl) pa_nil))) pa_nil)))) (pss_cons (ps_if (PW.pt (pw_or (pt_cmpR op_ne (pe_callB call_isi (by rfl) T.n_isinstance (by decide +kernel) (pa_cons (pv 0) (pa_cons (pe_bltn (v := .ty "list") (u := .type "list") (by rfl) T.n_list (by decide +kernel) rfl) pa_nil))) (pe_callB call_isi (by rfl) T.n_isinstance (by decide +kernel) (pa_cons (pv 1) (pa_cons (pe_bltn (v := .ty "list") (u := .type "list") (by rfl) T.n_list (by decide +kernel) rfl) pa_nil))) (nomark _)) (pw_or1 (pt_cmpR op_ne (pe_callB call_isi (by rfl) T.n_isinstance (by decide +kernel) (pa_cons (pv 0) (pa_cons (pe_bltn (v := .ty "tuple") (u := .type "tuple") (by rfl) T.n_tuple (by decide +kernel) rfl) pa_nil))) (pe_callB call_isi (by rfl) T.n_isinstance (by decide +kernel) (pa_cons (pv 1) (pa_cons (pe_bltn (v := .ty "tuple") (u := .type "tuple") (by rfl) T.n_tuple (by decide +kernel) rfl) pa_nil))) (nomark _))))) (pss_one (ps_ret pe_bl)) pss_nil)
      (pss_one (ps_ret (pe_and (pe_cmpR op_eq (pe_callB call_len_seq (by rfl) T.n_len (by decide +kernel) (pa_cons (pv 0) pa_nil)) (pe_callB call_len_seq (by rfl) T.n_len (by decide +kernel) (pa_cons (pv 1) pa_nil)) (nomark _)) (pe_one (pe_callB (cr_all rfl) (by rfl) T.n_all (by decide +kernel) (pa_cons (pe_lc (own := [("_law_one", 3), ("_law_other", 4)]) (g := gTup _ 2 (gCons (gName 3) (gCons (gName 4) (gNil)))) (tt := tYes) rfl sc__law_like.nd (RZ.pi_zipA (by rfl) T.n_zip (pa_cons (pv 0) (pa_cons (pv 1) pa_nil))) (blkOk_by (N := ["_law_found", "_law_due", "_law_key", "_law_one", "_law_other"]) (sc := defScope s__law_like) (by decide +kernel)) (fun _ _ _ _ _ => (pg_tup rfl (pgs_cons (pg_name (i := 3) sc__law_like.nd rfl (Or.inl rfl)) (pgs_cons (pg_name (i := 4) sc__law_like.nd rfl (Or.inl rfl)) pgs_nil)))) (fun _ _ _ _ _ => pts_nil) (fun _ _ _ _ _ => (pe_call G__law_like (hr.mono (by omega)) rfl T.g__law_like T.F__law_like.kp T.b__law_like .nil pass0 (pa_cons (pv 3) (pa_cons (pv 4) pa_nil))))) pa_nil))))))) pss_nil)
      (pss_cons (ps_if (PW.pt (pw_or (pt_cmp (pc_isN (pv 1))) (pw_or1 (pt_cmp (pc_isN (pv 0)))))) (pss_one (ps_ret (pe_and (pe_cmp (pc_isN (pv 1)) rfl) (pe_one (pe_cmp (pc_isN (pv 0)) rfl))))) pss_nil)
      (pss_cons (ps_if (PW.pt (pw_or (pt_cmpR op_ne (pe_callB call_isi (by rfl) T.n_isinstance (by decide +kernel) (pa_cons (pv 0) (pa_cons (pe_bltn (v := .ty "bool") (u := .type "bool") (by rfl) T.n_bool (by decide +kernel) rfl) pa_nil))) (pe_callB call_isi (by rfl) T.n_isinstance (by decide +kernel) (pa_cons (pv 1) (pa_cons (pe_bltn (v := .ty "bool") (u := .type "bool") (by rfl) T.n_bool (by decide +kernel) rfl) pa_nil))) (nomark _)) (pw_or1 (pt_cmpR op_ne (pe_callB call_isi (by rfl) T.n_isinstance (by decide +kernel) (pa_cons (pv 0) (pa_cons (pe_bltn (v := .ty "int") (u := .type "int") (by rfl) T.n_int (by decide +kernel) rfl) pa_nil))) (pe_callB call_isi (by rfl) T.n_isinstance (by decide +kernel) (pa_cons (pv 1) (pa_cons (pe_bltn (v := .ty "int") (u := .type "int") (by rfl) T.n_int (by decide +kernel) rfl) pa_nil))) (nomark _))))) (pss_one (ps_ret pe_bl)) pss_nil)
      (pss_one (ps_ret (pe_and (pe_cmpR op_eq (pe_callB call_isi (by rfl) T.n_isinstance (by decide +kernel) (pa_cons (pv 0) (pa_cons (pe_bltn (v := .ty "str") (u := .type "str") (by rfl) T.n_str (by decide +kernel) rfl) pa_nil))) (pe_callB call_isi (by rfl) T.n_isinstance (by decide +kernel) (pa_cons (pv 1) (pa_cons (pe_bltn (v := .ty "str") (u := .type "str") (by rfl) T.n_str (by decide +kernel) rfl) pa_nil))) (nomark _)) (pe_one (pe_cmpR op_eq (pv 0) (pv 1) (nomark _)))))))))), ?_⟩
      rcases hL with ⟨sc, rfl⟩ | ⟨a, a', xs, ys, rfl, rfl, sv, su, el, hy, hel⟩ | ⟨a, a', xs, ys, rfl, rfl, sv, su, el, hy, hel⟩ | ⟨a, a', kvs, kus, ks, rfl, rfl, hv, hu, ev, eu, hks, hsk, hvals⟩
      · cases u with
        | non =>
          have hu : Dp K H .non .none := .non
          refine ⟨_, rfl, ⟨_, _, _, _, false, rfl, .ty _, Dp.tyx (d := .none) hu, kit_ty (by decide +kernel), _, rfl, iteF ?_⟩⟩
          refine ⟨_, rfl, (by decide), fun tp htp => ⟨_, tp, _, _, _, _, rfl, upd_same, .cons (.ty _) (.cons (.ty _) .nil), Dp.tyx (Dp.same (Same.laid _ htp) _ _ hu), kitAny2 (x := false) (y := false) (by decide +kernel) (by decide +kernel), _, rfl, iteF ?_⟩⟩
          refine ⟨_, rfl, _, rfl, iteT ?_⟩
          refine ⟨_, rfl, _, rfl, iteT ⟨_, rfl, ?_⟩⟩
          exact k _ (Same.laid _ htp)
        | bl x =>
          refine ⟨_, rfl, ⟨_, _, _, _, false, rfl, .ty _, Dp.tyx (d := .bool x) (.bl x), kit_ty (a := "bool") (by decide +kernel), _, rfl, iteF ?_⟩⟩
          refine ⟨_, rfl, (by decide), fun tp htp => ⟨_, tp, _, _, _, _, rfl, upd_same, .cons (.ty _) (.cons (.ty _) .nil), Dp.tyx (d := .bool x) (.bl x), kitAny2 (t := "bool") (x := false) (y := false) (by decide +kernel) (by decide +kernel), _, rfl, iteF ?_⟩⟩
          refine ⟨_, rfl, _, rfl, iteF ⟨_, rfl, _, rfl, iteF ?_⟩⟩
          refine ⟨_, rfl, ⟨_, _, _, _, true, rfl, .ty _, Dp.tyx (d := .bool x) (.bl x), kit_ty (a := "bool") (by decide +kernel), _, rfl, ⟨_, _, _, _, true, rfl, .ty _, Dp.tyx (d := .bool x) (.bl x), kit_ty (a := "bool") (by decide +kernel), rfl, _, rfl, iteF ?_⟩⟩⟩
          refine ⟨_, rfl, ⟨_, _, _, _, true, rfl, .ty _, Dp.tyx (d := .bool x) (.bl x), kit_ty (a := "bool") (by decide +kernel), _, rfl, ⟨_, _, _, _, true, rfl, .ty _, Dp.tyx (d := .bool x) (.bl x), kit_ty (a := "bool") (by decide +kernel), rfl, _, rfl, iteF ?_⟩⟩⟩
          refine ⟨_, rfl, ⟨_, _, _, _, false, rfl, .ty _, Dp.tyx (d := .bool x) (.bl x), kit_ty (a := "bool") (by decide +kernel), _, rfl, ⟨_, _, _, _, false, rfl, .ty _, Dp.tyx (d := .bool x) (.bl x), kit_ty (a := "bool") (by decide +kernel), rfl, _, rfl, iteT ⟨_, rfl, _, rfl, rfl, ?_⟩⟩⟩⟩
          rw [decide_eq_true rfl]
          exact k _ (Same.laid _ htp)
        | int x =>
          refine ⟨_, rfl, ⟨_, _, _, _, false, rfl, .ty _, Dp.tyx (d := .int x) (.int x), kit_ty (a := "int") (by decide +kernel), _, rfl, iteF ?_⟩⟩
          refine ⟨_, rfl, (by decide), fun tp htp => ⟨_, tp, _, _, _, _, rfl, upd_same, .cons (.ty _) (.cons (.ty _) .nil), Dp.tyx (d := .int x) (.int x), kitAny2 (t := "int") (x := false) (y := false) (by decide +kernel) (by decide +kernel), _, rfl, iteF ?_⟩⟩
          refine ⟨_, rfl, _, rfl, iteF ⟨_, rfl, _, rfl, iteF ?_⟩⟩
          refine ⟨_, rfl, ⟨_, _, _, _, false, rfl, .ty _, Dp.tyx (d := .int x) (.int x), kit_ty (a := "int") (by decide +kernel), _, rfl, ⟨_, _, _, _, false, rfl, .ty _, Dp.tyx (d := .int x) (.int x), kit_ty (a := "int") (by decide +kernel), rfl, _, rfl, iteF ?_⟩⟩⟩
          refine ⟨_, rfl, ⟨_, _, _, _, true, rfl, .ty _, Dp.tyx (d := .int x) (.int x), kit_ty (a := "int") (by decide +kernel), _, rfl, ⟨_, _, _, _, true, rfl, .ty _, Dp.tyx (d := .int x) (.int x), kit_ty (a := "int") (by decide +kernel), rfl, _, rfl, iteF ?_⟩⟩⟩
          refine ⟨_, rfl, ⟨_, _, _, _, false, rfl, .ty _, Dp.tyx (d := .int x) (.int x), kit_ty (a := "int") (by decide +kernel), _, rfl, ⟨_, _, _, _, false, rfl, .ty _, Dp.tyx (d := .int x) (.int x), kit_ty (a := "int") (by decide +kernel), rfl, _, rfl, iteT ⟨_, rfl, _, rfl, rfl, ?_⟩⟩⟩⟩
          rw [decide_eq_true rfl]
          exact k _ (Same.laid _ htp)
        | str x =>
          refine ⟨_, rfl, ⟨_, _, _, _, false, rfl, .ty _, Dp.tyx (d := .str x) (.str x), kit_ty (a := "str") (by decide +kernel), _, rfl, iteF ?_⟩⟩
          refine ⟨_, rfl, (by decide), fun tp htp => ⟨_, tp, _, _, _, _, rfl, upd_same, .cons (.ty _) (.cons (.ty _) .nil), Dp.tyx (d := .str x) (.str x), kitAny2 (t := "str") (x := false) (y := false) (by decide +kernel) (by decide +kernel), _, rfl, iteF ?_⟩⟩
          refine ⟨_, rfl, _, rfl, iteF ⟨_, rfl, _, rfl, iteF ?_⟩⟩
          refine ⟨_, rfl, ⟨_, _, _, _, false, rfl, .ty _, Dp.tyx (d := .str x) (.str x), kit_ty (a := "str") (by decide +kernel), _, rfl, ⟨_, _, _, _, false, rfl, .ty _, Dp.tyx (d := .str x) (.str x), kit_ty (a := "str") (by decide +kernel), rfl, _, rfl, iteF ?_⟩⟩⟩
          refine ⟨_, rfl, ⟨_, _, _, _, false, rfl, .ty _, Dp.tyx (d := .str x) (.str x), kit_ty (a := "str") (by decide +kernel), _, rfl, ⟨_, _, _, _, false, rfl, .ty _, Dp.tyx (d := .str x) (.str x), kit_ty (a := "str") (by decide +kernel), rfl, _, rfl, iteF ?_⟩⟩⟩
          refine ⟨_, rfl, ⟨_, _, _, _, true, rfl, .ty _, Dp.tyx (d := .str x) (.str x), kit_ty (a := "str") (by decide +kernel), _, rfl, ⟨_, _, _, _, true, rfl, .ty _, Dp.tyx (d := .str x) (.str x), kit_ty (a := "str") (by decide +kernel), rfl, _, rfl, iteT ⟨_, rfl, _, rfl, rfl, ?_⟩⟩⟩⟩
          rw [decide_eq_true rfl]
          exact k _ (Same.laid _ htp)
        | _ => exact sc.elim
      · refine ⟨_, rfl, _, _, _, _, false, rfl, .ty _, SqL.tyx su, kit_ty (a := "list") (by decide +kernel), _, rfl, iteF ?_⟩
        refine ⟨_, rfl, (by decide), fun tp htp => ?_⟩
        have s1 : Same H (upd H tp (.tup [.ty "list", .ty "tuple"])) := Same.laid _ htp
        have tu := SqL.tyx (s1.seq su)
        have tv := SqL.tyx (s1.seq sv)
        refine ⟨_, tp, _, _, _, _, rfl, upd_same, .cons (.ty _) (.cons (.ty _) .nil), tu, kitAny2 (t := "list") (x := true) (y := false) (by decide +kernel) (by decide +kernel), _, rfl, iteT ?_⟩
        refine ⟨_, rfl, _, _, _, _, true, rfl, .ty _, tv, kit_ty (a := "list") (by decide +kernel), _, rfl, _, _, _, _, true, rfl, .ty _, tu, kit_ty (a := "list") (by decide +kernel), rfl, _, rfl, iteF ?_⟩
        refine ⟨_, rfl, _, _, _, _, false, rfl, .ty _, tv, kit_ty (a := "list") (by decide +kernel), _, rfl, _, _, _, _, false, rfl, .ty _, tu, kit_ty (a := "list") (by decide +kernel), rfl, _, rfl, iteF ?_⟩
        refine ⟨_, rfl, a, xs, rfl, .inl (s1.seq sv), _, rfl, a', ys, rfl, .inl (s1.seq su), rfl, _, rfl, ?_⟩
        rw [el, decide_eq_true rfl]
        refine iteT ⟨_, rfl, _, rfl, a, a', xs, ys, rfl, .inl ⟨s1.seq sv, s1.seq su, fun D hD => ?_⟩⟩
        have nDH : H D = none := s1.free hD
        refine lc_it (walk_zip (xs := xs) (ys := ys) (n := ys.length) (by rw [el, Nat.min_self])) (fun i H' => Same H H' ∧ H' D = some (.lst (List.replicate i (.bl true)))) ⟨Same.fresh _ s1 nDH, upd_same⟩ (fun i H' _ q => ⟨q.1.seq sv, q.1.seq su⟩) ?_ ?_
        · rintro i x H1 H2 hi ⟨s2, hacc⟩ ⟨T2, x1, y1, rfl, hT2, rfl, ex, ey⟩
          have s3 : Same H1 (upd H1 T2 (.tup [x1, y1])) := Same.laid _ hT2
          refine ⟨T2, [x1, y1], rfl, SqT.of upd_same, rfl, x1, [y1], rfl, y1, [], rfl, rfl, rfl, ?_⟩
          refine ⟨_, rfl, _, rfl, x1, y1, rfl, (hel i x1 y1 ex ey).same (s2.trans s3), fun H3 s4 => ?_⟩
          refine ⟨List.replicate i (.bl true), s4 _ _ (s3 _ _ hacc), ?_, ?_, ?_⟩
          · rw [List.length_replicate]
            exact Nat.lt_of_lt_of_le (Nat.lt_of_lt_of_le hi hy) (by decide)
          · exact Same.fresh _ ((s2.trans s3).trans s4) nDH
          · rw [upd_same, List.replicate_succ']
        · rintro H3 ⟨s2, hacc⟩
          refine ⟨D, List.replicate ys.length true, rfl, .inl (.inl (by rw [List.map_replicate]; exact hacc)), ?_⟩
          rw [show (List.replicate ys.length true).all id = true by simp]
          exact k _ s2
      · refine ⟨_, rfl, _, _, _, _, false, rfl, .ty _, SqT.tyx su, kit_ty (a := "tuple") (by decide +kernel), _, rfl, iteF ?_⟩
        refine ⟨_, rfl, (by decide), fun tp htp => ?_⟩
        have s1 : Same H (upd H tp (.tup [.ty "list", .ty "tuple"])) := Same.laid _ htp
        have tu := SqT.tyx (Same.sqT s1 su)
        have tv := SqT.tyx (Same.sqT s1 sv)
        refine ⟨_, tp, _, _, _, _, rfl, upd_same, .cons (.ty _) (.cons (.ty _) .nil), tu, kitAny2 (t := "tuple") (x := false) (y := true) (by decide +kernel) (by decide +kernel), _, rfl, iteT ?_⟩
        refine ⟨_, rfl, _, _, _, _, false, rfl, .ty _, tv, kit_ty (a := "tuple") (by decide +kernel), _, rfl, _, _, _, _, false, rfl, .ty _, tu, kit_ty (a := "tuple") (by decide +kernel), rfl, _, rfl, iteF ?_⟩
        refine ⟨_, rfl, _, _, _, _, true, rfl, .ty _, tv, kit_ty (a := "tuple") (by decide +kernel), _, rfl, _, _, _, _, true, rfl, .ty _, tu, kit_ty (a := "tuple") (by decide +kernel), rfl, _, rfl, iteF ?_⟩
        refine ⟨_, rfl, a, xs, rfl, .inr (Same.sqT s1 sv), _, rfl, a', ys, rfl, .inr (Same.sqT s1 su), rfl, _, rfl, ?_⟩
        rw [el, decide_eq_true rfl]
        refine iteT ⟨_, rfl, _, rfl, a, a', xs, ys, rfl, .inr ⟨Same.sqT s1 sv, Same.sqT s1 su, fun D hD => ?_⟩⟩
        have nDH : H D = none := s1.free hD
        refine lc_it (walk_zipT (xs := xs) (ys := ys) (n := ys.length) (by rw [el, Nat.min_self])) (fun i H' => Same H H' ∧ H' D = some (.lst (List.replicate i (.bl true)))) ⟨Same.fresh _ s1 nDH, upd_same⟩ (fun i H' _ q => ⟨Same.sqT q.1 sv, Same.sqT q.1 su⟩) ?_ ?_
        · rintro i x H1 H2 hi ⟨s2, hacc⟩ ⟨T2, x1, y1, rfl, hT2, rfl, ex, ey⟩
          have s3 : Same H1 (upd H1 T2 (.tup [x1, y1])) := Same.laid _ hT2
          refine ⟨T2, [x1, y1], rfl, SqT.of upd_same, rfl, x1, [y1], rfl, y1, [], rfl, rfl, rfl, ?_⟩
          refine ⟨_, rfl, _, rfl, x1, y1, rfl, (hel i x1 y1 ex ey).same (s2.trans s3), fun H3 s4 => ?_⟩
          refine ⟨List.replicate i (.bl true), s4 _ _ (s3 _ _ hacc), ?_, ?_, ?_⟩
          · rw [List.length_replicate]
            exact Nat.lt_of_lt_of_le (Nat.lt_of_lt_of_le hi hy) (by decide)
          · exact Same.fresh _ ((s2.trans s3).trans s4) nDH
          · rw [upd_same, List.replicate_succ']
        · rintro H3 ⟨s2, hacc⟩
          refine ⟨D, List.replicate ys.length true, rfl, .inl (.inl (by rw [List.map_replicate]; exact hacc)), ?_⟩
          rw [show (List.replicate ys.length true).all id = true by simp]
          exact k _ s2
      · refine ⟨_, rfl, _, _, _, _, true, rfl, .ty _, .base (.dK hu), kit_ty (a := "dict") (by decide +kernel), _, rfl, iteT ?_⟩
        refine ⟨_, rfl, _, _, _, _, true, rfl, .ty _, .base (.dK hv), kit_ty (a := "dict") (by decide +kernel), _, rfl, iteT ?_⟩
        have kk : ∀ (l : List (Key × V)), l.map (·.1) = ks.map Sum.inr → (l.map fun kv => kV kv.1) = ks.map V.str := fun l e => by
          have e2 := congrArg (List.map kV) e
          rw [List.map_map, List.map_map] at e2
          exact e2
        refine ⟨_, rfl, a, kvs, rfl, .inl hv, fun p1 hp1 => ?_⟩
        rw [kk kvs ev]
        have y1 := Same.laid (.lst (ks.map V.str)) hp1
        refine ⟨p1, ks, rfl, SqL.of upd_same, hks, fun ys1 q1 pm1 so1 hq1 => ?_⟩
        have y2 := Same.laid (.lst (ys1.map V.str)) hq1
        refine ⟨_, rfl, a', kus, rfl, .inl (y2 _ _ (y1 _ _ hu)), fun p2 hp2 => ?_⟩
        rw [kk kus eu]
        have y3 := Same.laid (.lst (ks.map V.str)) hp2
        refine ⟨p2, ks, rfl, SqL.of upd_same, hks, fun ys2 q2 pm2 so2 hq2 => ?_⟩
        have y4 := Same.laid (.lst (ys2.map V.str)) hq2
        have e12 : ys1 = ys2 := sortedS_one pm1 so1 pm2 so2
        subst e12
        have hsy : ∀ k ∈ ys1, PyData.strOk k = true := fun k hk => hsk k (pm1.mem_iff.mp hk)
        have s4 := ((y1.trans y2).trans y3).trans y4
        refine ⟨.list (ys1.map .str), .list (ys1.map .str), .lst (SqL.of (y4 _ _ (y3 _ _ upd_same))) (dp_strs ys1), .lst (SqL.of upd_same) (dp_strs ys1), strs_shaped hsy, strs_shaped hsy, _, rfl, ?_⟩
        rw [strs_eqv]
        have hv4 := s4 _ _ hv
        have hu4 := s4 _ _ hu
        have hvals4 : ∀ k ∈ ks, ∃ (x y : V) (e : PyData), valV kvs (.inr k) = some x ∧ valV kus (.inr k) = some y ∧ Dp K _ x e ∧ Dp K _ y e ∧ tupOnly e = true ∧ fitD n e = true := fun k hk => by
          obtain ⟨x, y, e, q1, q2, q3, q4, q5, q6⟩ := hvals k hk
          exact ⟨x, y, e, q1, q2, Dp.same s4 _ _ q3, Dp.same s4 _ _ q4, q5, q6⟩
        generalize upd (upd (upd (upd H p1 _) q1 _) p2 _) q2 _ = H4 at s4 hv4 hu4 hvals4 ⊢
        refine iteT ⟨a', .dK kus, hu4, trivial, fun od => ⟨_, rfl, a', od, rfl, .inl ⟨kus, upd_same, fun D hD => ?_⟩⟩⟩
        have nDa : D ≠ a' := fun e => by rw [e, upd_same] at hD; cases hD
        have hD4 : H4 D = none := by rw [upd_ne nDa] at hD; exact hD
        have x0 : Ext a' H4 (upd H4 a' (.frz od (.dK kus))) := Ext.upd _ _ _
        refine lc_it (walk_keys (kvs := kus)) (fun i H' => H' a' = some (.frz od (.dK kus)) ∧ Ext a' H4 H' ∧ H' D = some (.lst (List.replicate i (.bl true)))) ⟨by rw [upd_ne nDa.symm, upd_same], Ext.fresh _ x0 hD4, upd_same⟩ (fun i H' _ q => q.1) ?_ ?_
        · rintro i x H1 H2 hi ⟨hf, x1, hacc⟩ ⟨rfl, kk1, vv, hk1, rfl⟩
          have hki : ∃ k, ks[i]? = some k ∧ kk1 = .inr k := by
            have q : (kus.map (·.1))[i]? = some kk1 := by rw [List.getElem?_map, hk1]; rfl
            rw [eu, List.getElem?_map] at q
            cases q3 : ks[i]? with
            | none => rw [q3] at q; cases q
            | some k => rw [q3] at q; injection q with q; exact ⟨k, rfl, q.symm⟩
          obtain ⟨k1, hk2, rfl⟩ := hki
          have hmem : k1 ∈ ks := List.mem_of_getElem? hk2
          obtain ⟨x', y', e', g1, g2, g3, g4, g5, g6⟩ := hvals4 k1 hmem
          have ts1 : TS K H4 H2 := fun c zs q => by
            rcases q with (q | ⟨ob, q⟩) | q
            · exact .inl (.inl (x1 _ _ (ne_of q hu4 (by intro z; cases z)) q))
            · exact .inl (.inr ⟨ob, x1 _ _ (ne_of q hu4 (by intro z; cases z)) q⟩)
            · exact .inr q
          have ra : Rd H2 a (.dK kvs) := by
            by_cases e : a = a'
            · subst e
              rw [hv4] at hu4
              injection hu4 with hu4
              injection hu4 with hu4
              subst hu4
              exact .inr ⟨od, hf⟩
            · exact .inl (x1 _ _ e hv4)
          have hil : i < 64 := by
            have := (List.getElem?_eq_some_iff.mp hk2).1
            omega
          refine ⟨rfl, _, rfl, _, rfl, a, x', rfl, .inl ⟨kvs, .inr k1, ra, rfl, g1.symm⟩, _, rfl, _, rfl, a', y', rfl, .inl ⟨kus, .inr k1, .inr ⟨od, hf⟩, rfl, g2.symm⟩, x', y', rfl, LikeR.of_dp (Dp.ts ts1 _ _ g5 g3) (Dp.ts ts1 _ _ g5 g4) g6, fun H3 s5 => ?_⟩
          refine ⟨List.replicate i (.bl true), s5 _ _ hacc, ?_, ?_, ?_, ?_⟩
          · rw [List.length_replicate]; exact Nat.lt_of_lt_of_le hil (by decide)
          · rw [upd_ne nDa.symm]; exact s5 _ _ hf
          · exact Ext.fresh _ (x1.trans (Ext.same s5)) hD4
          · rw [upd_same, List.replicate_succ']
        · rintro H3 ⟨hf, x1, hacc⟩
          refine ⟨hf, D, List.replicate kus.length true, rfl, .inl (.inl (by rw [List.map_replicate, upd_ne nDa]; exact hacc)), ?_⟩
          rw [show (List.replicate kus.length true).all id = true by simp]
          refine k _ (s4.trans fun c o q => ?_)
          by_cases e : c = a'
          · rw [e, upd_same]
            rw [e, hu4] at q
            exact q
          · rw [upd_ne e]; exact x1 _ _ e q
theorem ok_like (T : Txt K mg) (n : Nat) : FnOk P w K mg base CX0 n T.f__law_like T.fd__law_like ["_law_found", "_law_due"] (spLike K n) :=
  (ok_likeR T n).imp fun vs H Q E h => by
    obtain ⟨v, u, d, e, hv, hu, hf, k⟩ := h
    exact ⟨v, u, e, LikeR.of_dp hv hu hf, k⟩

end
end Ag
namespace Ag
open PySem L2
open C8 (pss_cut tCut)
section
variable {P : Program} {w : World} {K : PySem.W.Frag} {mg : Str → Option Value} {base : Heap}
abbrev vS (l : List Nat) : V := .str (SX.S l)
def isLow (l : List Nat) : Bool := l.all fun c => decide (97 ≤ c) && decide (c ≤ 122)
theorem isLow_app (a b : List Nat) : isLow (a ++ b) = (isLow a && isLow b) := by unfold isLow; rw [List.all_append]
theorem isLow_of {l : List Nat} (h : ∀ c ∈ l, 97 ≤ c ∧ c ≤ 122) : isLow l = true := by
  unfold isLow
  rw [List.all_eq_true]
  intro c hc
  rw [decide_eq_true (h c hc).1, decide_eq_true (h c hc).2]; rfl
theorem isLow_mem {l : List Nat} (h : isLow l = true) {c : Nat} (hc : c ∈ l) : 97 ≤ c ∧ c ≤ 122 := by
  unfold isLow at h
  rw [List.all_eq_true] at h
  have q := Bool.and_eq_true_iff.mp (h c hc)
  exact ⟨of_decide_eq_true q.1, of_decide_eq_true q.2⟩
def abc : List Nat := List.range' 97 26
theorem abc_eq : Str.ofString "abcdefghijklmnopqrstuvwxyz" = SX.S abc := by decide +kernel
theorem abc_at (i : Nat) (h : i < 26) : abc[i]? = some (97 + i) := by
  unfold abc
  rw [List.getElem?_range' h]
  congr 1
  omega
theorem abc_mem {i c : Nat} (h : abc[i]? = some c) : 97 ≤ c ∧ c ≤ 122 := by
  have hi : i < 26 := by
    have := (List.getElem?_eq_some_iff.mp h).1
    simpa [abc] using this
  rw [abc_at i hi] at h
  injection h with h
  omega
theorem join_one : ∀ cs : List Nat, TL.joinL [] (cs.map fun c => [c]) = cs
  | [] => rfl
  | [c] => rfl
  | c :: d :: cs => by
    have ih := join_one (d :: cs)
    show [c] ++ [] ++ TL.joinL [] (([d] : List Nat) :: cs.map fun c => [c]) = _
    rw [show ([d] : List Nat) :: cs.map (fun c => [c]) = (d :: cs).map fun c => [c] from rfl, ih]
    rfl
/-- a name: 1 to 5 small letters -/
def nm5 (z : List Nat) : Prop := 1 ≤ z.length ∧ z.length ≤ 5 ∧ isLow z = true
/-- the j-th of the names that are drawn at once -/
def nameAt (cs : List Nat) (at_ fi j : Nat) : List Nat := cs.take at_ ++ (97 + (fi + 5 * j) % 26) :: cs.drop at_
theorem nameAt_nm5 {cs : List Nat} {at_ fi : Nat} (h : isLow cs = true) (hl : cs.length ≤ 4) (j : Nat) : nm5 (nameAt cs at_ fi j) := by
  unfold nameAt nm5
  refine ⟨by simp; omega, by simp; omega, isLow_of fun c hc => ?_⟩
  rcases List.mem_append.mp hc with hc | hc
  · exact isLow_mem h (List.mem_of_mem_take hc)
  · rcases List.mem_cons.mp hc with rfl | hc
    · omega
    · exact isLow_mem h (List.mem_of_mem_drop hc)
theorem nameAt_inj {cs : List Nat} {at_ fi i j : Nat} (hi : i < 26) (hj : j < 26) (h : nameAt cs at_ fi i = nameAt cs at_ fi j) : i = j := by
  unfold nameAt at h
  have q := List.append_cancel_left h
  injection q with q _
  omega
theorem nameAt_nodup {cs : List Nat} {at_ fi m : Nat} (h : m ≤ 26) : ((List.range m).map fun j => nameAt cs at_ fi j).Nodup := by
  rw [List.nodup_iff_pairwise_ne, List.pairwise_map]
  refine List.Pairwise.imp_of_mem ?_ (List.nodup_iff_pairwise_ne.mp List.nodup_range)
  intro a b ha hb hne e
  exact hne (nameAt_inj (Nat.lt_of_lt_of_le (List.mem_range.mp ha) h) (Nat.lt_of_lt_of_le (List.mem_range.mp hb) h) e)
def spNames : Sp := fun vs H Q _ => ∃ (b c : Addr) (m : Nat), vs = [.ref b, .int m] ∧ BagAt b c H ∧ m ≤ 26 ∧
  ∀ (H' : Hp) (p : Addr) (zs : List (List Nat)), Ext b H H' → BagAt b c H' → H p = none → H' p = some (.lst (zs.map vS)) → zs.length = m → (∀ z ∈ zs, nm5 z) → zs.Nodup → Q (.ref p) H'
theorem ok_names (T : Txt K mg) : FnOk P w K mg base CX0 3 T.f__law_names T.fd__law_names ["_law_bag_here", "_law_many"] spNames := by
  have G__law_pull : FnOk P w K mg base CX0 1 T.f__law_pull T.fd__law_pull _ spPull := ok_pull T
  have G__law_any : FnOk P w K mg base CX0 2 T.f__law_any T.fd__law_any _ (spAny K) := ok_any T
  refine T.F__law_names.ok sc__law_names (fun vs H Q E h => ?_) (fun cdv A outer s H vs Q E hr h => ?_)
  · obtain ⟨b, c, m, rfl, _⟩ := h
    rfl
  · obtain ⟨b, c, m, rfl, hB, hm, k⟩ := h
    refine ⟨_, (pss_cons (ps_set (i := 2) sc__law_names.nd rfl (Or.inr rfl) pe_str)
      (pss_cons (ps_set (i := 3) sc__law_names.nd rfl (Or.inr rfl) (pe_join pe_str (pe_lc (own := [("_law_k", 6)]) (g := gName 6) (tt := tYes) rfl sc__law_names.nd (pi_range1 (by rfl) T.n_range (pa_cons (pe_call G__law_pull (hr.mono (by omega)) rfl T.g__law_pull T.F__law_pull.kp T.b__law_pull .nil pass0 (pa_cons (pv 0) (pa_cons pe_int pa_nil))) pa_nil)) (blkOk_by (N := ["_law_bag_here", "_law_many", "_law_letters", "_law_stem", "_law_at", "_law_first", "_law_k"]) (sc := defScope s__law_names) (by decide +kernel)) (fun _ _ _ _ _ => (pg_name (i := 6) sc__law_names.nd rfl (Or.inl rfl))) (fun _ _ _ _ _ => pts_nil) (fun _ _ _ _ _ => (pe_call G__law_any (hr.mono (by omega)) rfl T.g__law_any T.F__law_any.kp T.b__law_any .nil pass0 (pa_cons (pv 0) (pa_cons (pv 2) pa_nil)))))))
      (pss_cons (ps_asg (pe_tup (pa_cons (pe_call G__law_pull (hr.mono (by omega)) rfl T.g__law_pull T.F__law_pull.kp T.b__law_pull .nil pass0 (pa_cons (pv 0) (pa_cons (pe_op op_add (pe_callB call_len_str (by rfl) T.n_len (by decide +kernel) (pa_cons (pv 3) pa_nil)) pe_int) pa_nil))) (pa_cons (pe_call G__law_pull (hr.mono (by omega)) rfl T.g__law_pull T.F__law_pull.kp T.b__law_pull .nil pass0 (pa_cons (pv 0) (pa_cons pe_int pa_nil))) pa_nil))) (pg_tup rfl (pgs_cons (pg_name (i := 4) sc__law_names.nd rfl (Or.inr rfl)) (pgs_cons (pg_name (i := 5) sc__law_names.nd rfl (Or.inr rfl)) pgs_nil))))
      (pss_one (ps_ret (pe_lc (own := [("_law_k", 6)]) (g := gName 6) (tt := tYes) rfl sc__law_names.nd (pi_range1 (by rfl) T.n_range (pa_cons (pv 1) pa_nil)) (blkOk_by (N := ["_law_bag_here", "_law_many", "_law_letters", "_law_stem", "_law_at", "_law_first", "_law_k"]) (sc := defScope s__law_names) (by decide +kernel)) (fun _ _ _ _ _ => (pg_name (i := 6) sc__law_names.nd rfl (Or.inl rfl))) (fun _ _ _ _ _ => pts_nil) (fun _ _ _ _ _ => (pe_op op_add_str (pe_op op_add_str (pe_slice C8.sl_txt (pv 3) po_none (po_some (pv 4))) (pe_ix ix_str (pv 2) (pe_op op_mod (pe_callTy call_int1 (by rfl) T.n_int (by decide +kernel) (pa_cons (pe_op op_add (pv 5) (pe_op op_mul pe_int (pv 6))) pa_nil)) pe_int) (fun _ _ => rfl))) (pe_slice C8.sl_txt (pv 3) (po_some (pv 4)) po_none))))))))), ?_⟩
    refine ⟨⟨_, rfl⟩, _, rfl, b, c, 5, rfl, hB, by decide, by decide, fun d Ha d0 d1 x1 hB1 => ⟨d, rfl, by omega, by omega, fun D hD => ?_⟩⟩
    obtain ⟨yb, hb⟩ := hB.lst
    have nD := hB1.apart hD
    have nDb : D ≠ b := nD.1
    have hDH : H D = none := x1.free nDb hD
    refine lc_range (fun i H' => ∃ cs : List Nat, cs.length = i ∧ isLow cs = true ∧ Ext b H H' ∧ BagAt b c H' ∧ H' D = some (.lst (cs.map fun c => vS [c]))) ⟨[], rfl, rfl, Ext.fresh _ x1 hDH, hB1.ext (Same.laid _ hD), upd_same⟩ ?_ ?_
    · rintro i H1 hi ⟨cs, hl, hlow, x2, hB2, hacc⟩
      refine ⟨rfl, _, rfl, _, rfl, b, c, _, rfl, hB2, .inr ⟨_, rfl, ?_, ?_, fun j cp H2 hc x3 hB3 => ⟨cs.map (fun c => vS [c]), ?_, ?_, cs ++ [cp], ?_, ?_, ?_, ?_, ?_⟩⟩⟩
      · rw [abc_eq]; decide
      · rw [abc_eq]; decide
      · exact x3 _ _ nDb hacc
      · rw [List.length_map, hl]
        exact Nat.lt_of_lt_of_le hi (Nat.le_trans (show d.toNat ≤ 5 by omega) (by decide))
      · rw [List.length_append, hl]; rfl
      · rw [abc_eq] at hc
        rw [isLow_app, hlow]
        exact isLow_of fun c' h' => by rw [List.mem_singleton.mp h']; exact abc_mem hc
      · exact Ext.fresh _ (x2.trans x3) hDH
      · exact hB3.store _ nD
      · rw [upd_same]; simp
    · rintro H1 ⟨cs, hl, hlow, x2, hB2, hacc⟩
      have e1 : cs.map (fun c => vS [c]) = (cs.map fun c => SX.S [c]).map V.str := by rw [List.map_map]; rfl
      have hcs : cs.length ≤ 4 := by omega
      refine ⟨_, D, cs.map (fun c => SX.S [c]), rfl, rfl, .inl (.inl (.inl (by rw [← e1]; exact hacc))), ?_, ?_⟩
      · have q : ∀ l : List Nat, ((l.map fun c => SX.S [c]).map (·.length)).sum = l.length := fun l => by
          induction l with
          | nil => rfl
          | cons x l ih => rw [List.map_cons, List.map_cons, List.sum_cons, ih, List.length_cons, SX.S_len]; simp; omega
        rw [q, List.length_map, show (Str.ofString "").length = 0 from by decide +kernel]
        omega
      have ej : Txt.join (Str.ofString "") (cs.map fun c => SX.S [c]) = SX.S cs := by
        rw [show Str.ofString "" = SX.S [] from by decide +kernel, show (cs.map fun c => SX.S [c]) = (cs.map fun c => [c]).map SX.S by rw [List.map_map]; rfl, SX.join_S, join_one]
      rw [ej]
      refine ⟨_, rfl, _, rfl, _, rfl, ?_, _, _, rfl, rfl, b, c, _, rfl, hB2, ?_, ?_, fun at_ Hb a0 a1 xb hB3 => ?_⟩
      · rw [SX.S_len]; exact Nat.le_trans hcs (by decide)
      · rw [SX.S_len]; omega
      · rw [SX.S_len]; omega
      rw [SX.S_len] at a1
      refine ⟨_, rfl, b, c, _, rfl, hB3, by decide, by decide, fun fi Hc f0 f1 xc hB4 => ⟨(show 2 ≤ sizeLine by decide), fun tp htp => ?_⟩⟩
      refine ⟨tp, _, rfl, SqT.of upd_same, rfl, _, _, rfl, _, _, rfl, rfl, ?_⟩
      have x3 : Ext b H (upd Hc tp (.tup [.int at_, .int fi])) := ((x2.trans xb).trans xc).trans (Ext.laid _ htp)
      have hB5 := hB4.ext (Same.laid (.tup [.int at_, .int fi]) htp)
      refine ⟨_, rfl, m, rfl, by omega, by omega, fun D2 hD2 => ?_⟩
      have nD2 := hB5.apart hD2
      have hD2H : H D2 = none := x3.free nD2.1 hD2
      refine lc_range (fun i H' => Ext b H H' ∧ BagAt b c H' ∧ H' D2 = some (.lst ((List.range i).map fun j => vS (nameAt cs at_.toNat fi.toNat j)))) ⟨Ext.fresh _ x3 hD2H, hB5.store _ nD2, upd_same⟩ ?_ ?_
      · rintro i H2 hi ⟨x4, hB6, hacc2⟩
        refine ⟨rfl, _, rfl, _, rfl, _, rfl, _, rfl, ?_, _, rfl, _, rfl, _, rfl, _, _, rfl, rfl, .inl ⟨by decide, by decide⟩, _, _, rfl, rfl, .inl ⟨_, rfl, _, _, rfl, rfl, by show (0 : Int) < 26; decide, ?_⟩⟩
        · rw [SX.S_len]; exact Nat.le_trans hcs (by decide)
        have f26 : ((fi + 5 * (0 + (i : Int))) % 26).toNat < 26 := by
          have h1 := Int.emod_nonneg (fi + 5 * (0 + (i : Int))) (show (26 : Int) ≠ 0 by decide)
          have h2 := Int.emod_lt_of_pos (fi + 5 * (0 + (i : Int))) (show (0 : Int) < 26 by decide)
          omega
        have et : ((fi + 5 * (0 + (i : Int))) % 26).toNat = (fi.toNat + 5 * i) % 26 := by omega
        refine ⟨_, _, 97 + (fi.toNat + 5 * i) % 26, rfl, rfl, ?_, ?_, ?_⟩
        · rw [abc_eq]; decide
        · rw [abc_eq]
          refine atI_int (Int.emod_nonneg _ (by decide)) ?_
          show abc[((fi + 5 * (0 + (i : Int))) % 26).toNat]? = _
          rw [abc_at _ f26, et]
        rw [SX.slice_to a0]
        refine ⟨_, _, rfl, rfl, ?_, _, rfl, _, rfl, _, rfl, _, rfl, ?_, _, _, rfl, rfl, ?_, (List.range i).map fun j => vS (nameAt cs at_.toNat fi.toNat j), hacc2, ?_, ?_⟩
        · rw [SX.S_len, List.length_take]
          show _ + 1 ≤ _
          exact Nat.le_trans (show min at_.toNat cs.length + 1 ≤ 5 by omega) (by decide)
        · rw [SX.S_len]; exact Nat.le_trans hcs (by decide)
        · rw [SX.slice_from a0, SX.S_cat, SX.S_len, SX.S_len]
          refine Nat.le_trans (show _ ≤ 9 from ?_) (by decide)
          simp only [List.length_append, List.length_take, List.length_drop, List.length_cons, List.length_nil]
          omega
        · rw [List.length_map, List.length_range]; exact Nat.lt_of_lt_of_le hi (Nat.le_trans (show (m : Int).toNat ≤ 26 by omega) (by decide))
        · refine ⟨Ext.fresh _ x4 hD2H, hB6.store _ nD2, ?_⟩
          rw [upd_same, List.range_succ, List.map_append, SX.slice_from a0, SX.S_cat, SX.S_cat]
          simp [nameAt, vS]
      · rintro H2 ⟨x4, hB6, hacc2⟩
        refine k _ D2 ((List.range m).map fun j => nameAt cs at_.toNat fi.toNat j) x4 hB6 hD2H ?_ (by simp) ?_ ?_
        · rw [List.map_map]; exact hacc2
        · intro z hz
          obtain ⟨j, _, rfl⟩ := List.mem_map.mp hz
          exact nameAt_nm5 hlow hcs j
        · exact nameAt_nodup hm

end
end Ag
namespace Ag
open PySem L2
open C8 (pss_cut tCut)
section
variable {P : Program} {w : World} {K : PySem.W.Frag} {mg : Str → Option Value} {base : Heap}
/-! formulas, shapes, formulas with unknown parts -/
inductive Op where
  | th | an | or
  deriving DecidableEq
def opS : Op → Str
  | .th => Str.ofString "then"
  | .an => Str.ofString "and"
  | .or => Str.ofString "or"
inductive Tm where
  | atom (s : List Nat)
  | fls
  | hole (s : List Nat)
  | part (n : Int)
  | bin (o : Op) (a b : Tm)
  deriving DecidableEq
def enc : Tm → PyData
  | .atom s => .tuple [.str (Str.ofString "atom"), .str (SX.S s)]
  | .fls => .tuple [.str (Str.ofString "false")]
  | .hole s => .tuple [.str (Str.ofString "hole"), .str (SX.S s)]
  | .part n => .tuple [.str (Str.ofString "part"), .int n]
  | .bin o a b => .tuple [.str (opS o), enc a, enc b]
def Tm.deep : Tm → Nat
  | .bin _ a b => max a.deep b.deep + 1
  | _ => 1
theorem Tm.deep_pos : ∀ t : Tm, 1 ≤ t.deep
  | .bin _ a b => by unfold Tm.deep; omega
  | .atom _ => Nat.le_refl _
  | .fls => Nat.le_refl _
  | .hole _ => Nat.le_refl _
  | .part _ => Nat.le_refl _
/-- no holes, no unknown parts -/
def Tm.isF : Tm → Bool
  | .atom _ => true
  | .fls => true
  | .hole _ => false
  | .part _ => false
  | .bin _ a b => a.isF && b.isF
/-- all its atoms are of this kind -/
def Tm.ats (A : List Nat → Prop) : Tm → Prop
  | .atom s => A s
  | .bin _ a b => a.ats A ∧ b.ats A
  | _ => True
theorem enc_tup : ∀ t : Tm, tupOnly (enc t) = true
  | .atom s => by simp [enc, tupOnly, tupAll]
  | .fls => by simp [enc, tupOnly, tupAll]
  | .hole s => by simp [enc, tupOnly, tupAll]
  | .part n => by simp [enc, tupOnly, tupAll]
  | .bin o a b => by simp [enc, tupOnly, tupAll, enc_tup a, enc_tup b]
theorem fitD_mono : ∀ {n m : Nat} {d : PyData}, fitD n d = true → n ≤ m → fitD m d = true
  | 0, _, _, h, _ => by cases h
  | n + 1, 0, _, _, h => by omega
  | n + 1, m + 1, d, h, hm => by
    cases d with
    | list ds =>
      unfold fitD at h ⊢
      rw [Bool.and_eq_true_iff] at h ⊢
      refine ⟨h.1, List.all_eq_true.mpr fun x hx => fitD_mono (List.all_eq_true.mp h.2 x hx) (by omega)⟩
    | tuple ds =>
      unfold fitD at h ⊢
      rw [Bool.and_eq_true_iff] at h ⊢
      refine ⟨h.1, List.all_eq_true.mpr fun x hx => fitD_mono (List.all_eq_true.mp h.2 x hx) (by omega)⟩
    | dict ds => cases h
    | _ => rfl
theorem enc_fit : ∀ t : Tm, fitD (t.deep + 1) (enc t) = true
  | .atom s => rfl
  | .fls => rfl
  | .hole s => rfl
  | .part n => rfl
  | .bin o a b => by
    show (decide (3 ≤ 100000) && (fitD (max a.deep b.deep + 1) _ && (fitD (max a.deep b.deep + 1) (enc a) && (fitD (max a.deep b.deep + 1) (enc b) && true)))) = true
    rw [fitD_mono (enc_fit a) (by omega), fitD_mono (enc_fit b) (by omega)]; rfl
section
variable {K : PySem.W.Frag} {H : Hp} {v : V}
theorem enc_atom {s : List Nat} (h : Dp K H v (enc (.atom s))) : ∃ p, v = .ref p ∧ SqT K H p [.str (Str.ofString "atom"), vS s] := by
  cases h with
  | tup h1 h2 =>
    cases h2 with
    | cons a h2 =>
    cases h2 with
    | cons b h2 =>
    cases h2
    cases a
    cases b
    exact ⟨_, rfl, h1⟩
theorem enc_fls (h : Dp K H v (enc .fls)) : ∃ p, v = .ref p ∧ SqT K H p [.str (Str.ofString "false")] := by
  cases h with
  | tup h1 h2 =>
    cases h2 with
    | cons a h2 =>
    cases h2
    cases a
    exact ⟨_, rfl, h1⟩
theorem enc_hole {s : List Nat} (h : Dp K H v (enc (.hole s))) : ∃ p, v = .ref p ∧ SqT K H p [.str (Str.ofString "hole"), vS s] := by
  cases h with
  | tup h1 h2 =>
    cases h2 with
    | cons a h2 =>
    cases h2 with
    | cons b h2 =>
    cases h2
    cases a
    cases b
    exact ⟨_, rfl, h1⟩
theorem enc_part {n : Int} (h : Dp K H v (enc (.part n))) : ∃ p, v = .ref p ∧ SqT K H p [.str (Str.ofString "part"), .int n] := by
  cases h with
  | tup h1 h2 =>
    cases h2 with
    | cons a h2 =>
    cases h2 with
    | cons b h2 =>
    cases h2
    cases a
    cases b
    exact ⟨_, rfl, h1⟩
theorem enc_bin {o : Op} {a b : Tm} (h : Dp K H v (enc (.bin o a b))) : ∃ p x y, v = .ref p ∧ SqT K H p [.str (opS o), x, y] ∧ Dp K H x (enc a) ∧ Dp K H y (enc b) := by
  cases h with
  | tup h1 h2 =>
    cases h2 with
    | cons a h2 =>
    cases h2 with
    | cons b h2 =>
    cases h2 with
    | cons c h2 =>
    cases h2
    cases a
    exact ⟨_, _, _, rfl, h1, b, c⟩
theorem dp_bin {o : Op} {a b : Tm} {p : Addr} {x y : V} (h : SqT K H p [.str (opS o), x, y]) (ha : Dp K H x (enc a)) (hb : Dp K H y (enc b)) : Dp K H (.ref p) (enc (.bin o a b)) :=
  .tup h (.cons (.str _) (.cons ha (.cons hb .nil)))
theorem dp_atom {s : List Nat} {p : Addr} (h : SqT K H p [.str (Str.ofString "atom"), vS s]) : Dp K H (.ref p) (enc (.atom s)) := .tup h (.cons (.str _) (.cons (.str _) .nil))
theorem dp_hole {s : List Nat} {p : Addr} (h : SqT K H p [.str (Str.ofString "hole"), vS s]) : Dp K H (.ref p) (enc (.hole s)) := .tup h (.cons (.str _) (.cons (.str _) .nil))
theorem dp_part {n : Int} {p : Addr} (h : SqT K H p [.str (Str.ofString "part"), .int n]) : Dp K H (.ref p) (enc (.part n)) := .tup h (.cons (.str _) (.cons (.int _) .nil))
theorem dp_fls {p : Addr} (h : SqT K H p [.str (Str.ofString "false")]) : Dp K H (.ref p) (enc .fls) := .tup h (.cons (.str _) .nil)
end
def opOf : Nat → Op
  | 0 => .th
  | 1 => .an
  | _ => .or
theorem opOf_at {i : Nat} (h : i < 3) : ([.str (Str.ofString "then"), .str (Str.ofString "and"), .str (Str.ofString "or")] : List V)[i]? = some (.str (opS (opOf i))) := by
  match i, h with
  | 0, _ => rfl
  | 1, _ => rfl
  | 2, _ => rfl

end
end Ag
namespace Ag
open PySem L2
open C8 (pss_cut tCut)
section
variable {P : Program} {w : World} {K : PySem.W.Frag} {mg : Str → Option Value} {base : Heap}
/-- a formula is drawn: nested at most m deep, its atoms out of the words -/
def spForm (K : PySem.W.Frag) (n : Nat) : Sp := fun vs H Q _ => ∃ (b c l : Addr) (zs : List (List Nat)) (m : Nat), vs = [.ref b, .ref l, .int m] ∧ BagAt b c H ∧ l ≠ b ∧ H l = some (.lst (zs.map vS)) ∧ 0 < zs.length ∧ zs.length ≤ 1000 ∧ m < n ∧
  ∀ (H' : Hp) (v : V) (t : Tm), Ext b H H' → BagAt b c H' → Dp K H' v (enc t) → t.isF = true → t.ats (· ∈ zs) → t.deep ≤ max m 1 → Q v H'
theorem names_get {zs : List (List Nat)} {i : Nat} {x : V} (h : (zs.map vS)[i]? = some x) : ∃ z, zs[i]? = some z ∧ x = vS z := by
  rw [List.getElem?_map] at h
  cases q : zs[i]? with
  | none => rw [q] at h; cases h
  | some z => rw [q] at h; injection h with h; exact ⟨z, rfl, h.symm⟩
theorem ok_form (T : Txt K mg) : ∀ n : Nat, FnOk P w K mg base CX0 (n + 2) T.f__law_form T.fd__law_form ["_law_bag_here", "_law_words", "_law_deep"] (spForm K n)
  | 0 => ⟨fun vs H Q E h => (by obtain ⟨b, c, l, zs, m, rfl, _⟩ := h; rfl), fun A outer s H args us vs Q E _ _ _ _ h => (by obtain ⟨b, c, l, zs, m, _, _, _, _, _, _, h, _⟩ := h; omega)⟩
  | n + 1 => by
    have G__law_form : FnOk P w K mg base CX0 (n + 2) T.f__law_form T.fd__law_form _ (spForm K n) := ok_form T n
    have G__law_pull : FnOk P w K mg base CX0 1 T.f__law_pull T.fd__law_pull _ spPull := ok_pull T
    have G__law_any : FnOk P w K mg base CX0 2 T.f__law_any T.fd__law_any _ (spAny K) := ok_any T
    refine T.F__law_form.ok sc__law_form (fun vs H Q E h => ?_) (fun cdv A outer s H vs Q E hr h => ?_)
    · obtain ⟨b, c, l, zs, m, rfl, _⟩ := h
      rfl
    · obtain ⟨b, c, l, zs, m, rfl, hB, nlb, hl, z0, z1, hm, k⟩ := h
      refine ⟨_, (pss_cons (ps_set (i := 3) sc__law_form.nd rfl (Or.inl rfl) (pe_call G__law_pull (hr.mono (by omega)) rfl T.g__law_pull T.F__law_pull.kp T.b__law_pull .nil pass0 (pa_cons (pv 0) (pa_cons pe_int pa_nil))))
      (pss_cut (ps_if (PW.pt (pw_or (pt_cmpR op_lt (pv 2) pe_int (nomark _)) (pw_or1 (pt_cmpR op_lt (pv 3) pe_int (nomark _))))) (pss_one (ps_ret (pe_ifExp (pt_cmpR op_eq (pe_call G__law_pull (hr.mono (by omega)) rfl T.g__law_pull T.F__law_pull.kp T.b__law_pull .nil pass0 (pa_cons (pv 0) (pa_cons pe_int pa_nil))) pe_int (nomark _)) (pe_tup (pa_cons pe_str pa_nil)) (pe_tup (pa_cons pe_str (pa_cons (pe_call G__law_any (hr.mono (by omega)) rfl T.g__law_any T.F__law_any.kp T.b__law_any .nil pass0 (pa_cons (pv 0) (pa_cons (pv 1) pa_nil))) pa_nil)))))) pss_nil)
      (pss_cons (ps_set (i := 4) sc__law_form.nd rfl (Or.inl rfl) (pe_call G__law_form (hr.mono (by omega)) rfl T.g__law_form T.F__law_form.kp T.b__law_form .nil pass0 (pa_cons (pv 0) (pa_cons (pv 1) (pa_cons (pe_op op_sub (pv 2) pe_int) pa_nil)))))
      (pss_one (ps_ret (pe_tup (pa_cons (pe_ix ix_tup (pe_tup (pa_cons pe_str (pa_cons pe_str (pa_cons pe_str pa_nil)))) (pe_op op_sub (pv 3) pe_int) (fun _ _ => rfl)) (pa_cons (pv 4) (pa_cons (pe_call G__law_form (hr.mono (by omega)) rfl T.g__law_form T.F__law_form.kp T.b__law_form .nil pass0 (pa_cons (pv 0) (pa_cons (pv 1) (pa_cons (pe_op op_sub (pv 2) pe_int) pa_nil)))) pa_nil))))))))), ?_⟩
      refine ⟨_, rfl, b, c, 5, rfl, hB, by decide, by decide, fun d H1 d0 d1 x1 hB1 => ?_⟩
      have hl1 := x1 _ _ nlb hl
      refine ⟨fun σ' H' => 2 ≤ m ∧ 2 ≤ d ∧ H' = H1 ∧ σ' = [some (.ref b), some (.ref l), some (.int m), some (.int d), none], ?_, ?_⟩
      · refine ⟨_, rfl, _, _, rfl, rfl, _, rfl, ?_⟩
        rcases (show (m : Int) < 2 ∨ (¬ (m : Int) < 2 ∧ d < 2) ∨ (¬ (m : Int) < 2 ∧ ¬ d < 2) by omega) with h | ⟨h, h'⟩ | ⟨h, h'⟩
        rotate_left 2
        · rw [decide_eq_false h]
          refine iteF ⟨_, rfl, _, _, rfl, rfl, _, rfl, ?_⟩
          rw [decide_eq_false h']
          exact iteF ⟨by omega, by omega, rfl, rfl⟩
        all_goals first
          | (rw [decide_eq_true h]; refine iteT (iteT ?_))
          | (rw [decide_eq_false h]; refine iteF ⟨_, rfl, _, _, rfl, rfl, _, rfl, ?_⟩; rw [decide_eq_true h']; refine iteT ?_)
        all_goals
          refine ⟨_, rfl, b, c, 7, rfl, hB1, by decide, by decide, fun e H2 e0 e1 x2 hB2 => ⟨rfl, _, rfl, ite2 (fun _ => ?_) (fun _ => ?_)⟩⟩
          · refine ⟨(show 1 ≤ sizeLine by decide), fun p hp => ?_⟩
            exact k _ _ .fls ((x1.trans x2).trans (Ext.laid _ hp)) (hB2.ext (Same.laid _ hp)) (dp_fls (SqT.of upd_same)) rfl trivial (Nat.le_max_right _ _)
          · refine ⟨_, rfl, _, rfl, b, c, _, rfl, hB2, .inl ⟨l, _, rfl, .inl ⟨nlb, x2 _ _ nlb hl1⟩, ?_, ?_, fun i x H3 hx x3 hB3 => ⟨(show 2 ≤ sizeLine by decide), fun p hp => ?_⟩⟩⟩
            · rw [List.length_map]; exact z0
            · rw [List.length_map]; omega
            · obtain ⟨z, hz, rfl⟩ := names_get hx
              exact k _ _ (.atom z) (((x1.trans x2).trans x3).trans (Ext.laid _ hp)) (hB3.ext (Same.laid _ hp)) (dp_atom (SqT.of upd_same)) rfl (List.mem_of_getElem? hz) (Nat.le_max_right _ _)
      · rintro σ' H' ⟨hm2, hd2, rfl, rfl⟩
        obtain ⟨yb, hb1⟩ := hB1.lst
        refine ⟨_, rfl, _, rfl, _, rfl, _, _, rfl, rfl, b, c, l, zs, m - 1, ?_, hB1, nlb, hl1, z0, z1, by omega, fun H2 v1 t1 x2 hB2 D1 f1 a1 q1 => ?_⟩
        · show [V.ref b, V.ref l, V.int ((m : Int) - 1)] = _
          rw [show ((m : Int) - 1) = ((m - 1 : Nat) : Int) by omega]
        refine ⟨(show 3 ≤ sizeLine by decide), fun tp htp => ?_⟩
        refine ⟨_, rfl, _, _, rfl, rfl, tp, _, d - 2, _, rfl, rfl, SqT.of upd_same, atI_int (by omega) (opOf_at (by omega)), ?_⟩
        have y1 := Same.laid (.tup [.str (Str.ofString "then"), .str (Str.ofString "and"), .str (Str.ofString "or")]) htp
        refine ⟨_, rfl, _, rfl, _, rfl, _, rfl, _, _, rfl, rfl, b, c, l, zs, m - 1, ?_, hB2.ext y1, nlb, y1 _ _ (x2 _ _ nlb hl1), z0, z1, by omega, fun H3 v2 t2 x3 hB3 D2 f2 a2 q2 => ⟨(show 3 ≤ sizeLine by decide), fun p hp => ?_⟩⟩
        · show [V.ref b, V.ref l, V.int ((m : Int) - 1)] = _
          rw [show ((m : Int) - 1) = ((m - 1 : Nat) : Int) by omega]
        obtain ⟨yb2, hb2⟩ := (hB2.ext y1).lst
        have y2 := Same.laid (.tup [.str (opS (opOf (d - 2).toNat)), v1, v2]) hp
        refine k _ _ (.bin (opOf (d - 2).toNat) t1 t2) (((x1.trans x2).trans (Ext.same y1)).trans (x3.trans (Ext.same y2))) (hB3.ext y2) (dp_bin (SqT.of upd_same) ?_ (Dp.same y2 _ _ D2)) ?_ ⟨a1, a2⟩ ?_
        · exact Dp.same y2 _ _ (Dp.ext x3 hb2 _ _ (enc_tup t1) (Dp.same y1 _ _ D1))
        · unfold Tm.isF; rw [f1, f2]; rfl
        · unfold Tm.deep; omega

end
end Ag
namespace Ag
open PySem L2
open C8 (pss_cut tCut)
section
variable {P : Program} {w : World} {K : PySem.W.Frag} {mg : Str → Option Value} {base : Heap}
/-- its atoms and holes are of these kinds; no unknown parts -/
def Tm.sh (A L : List Nat → Prop) : Tm → Prop
  | .atom s => A s
  | .hole s => L s
  | .part _ => False
  | .fls => True
  | .bin _ a b => a.sh A L ∧ b.sh A L
theorem Tm.sh_of {A L : List Nat → Prop} : ∀ {t : Tm}, t.isF = true → t.ats A → t.sh A L
  | .atom _, _, h => h
  | .fls, _, _ => trivial
  | .hole _, h, _ => by cases h
  | .part _, h, _ => by cases h
  | .bin _ a b, h, g => by
    unfold Tm.isF at h
    rw [Bool.and_eq_true_iff] at h
    exact ⟨Tm.sh_of h.1 g.1, Tm.sh_of h.2 g.2⟩
def abc3 (s : List Nat) : Prop := s = [97] ∨ s = [98] ∨ s = [99]
theorem abc3_at {i : Nat} {x : V} (h : ([.str (Str.ofString "a"), .str (Str.ofString "b"), .str (Str.ofString "c")] : List V)[i]? = some x) : ∃ s, x = vS s ∧ abc3 s := by
  have ea : Str.ofString "a" = SX.S [97] := by decide +kernel
  have eb : Str.ofString "b" = SX.S [98] := by decide +kernel
  have ec : Str.ofString "c" = SX.S [99] := by decide +kernel
  match i, h with
  | 0, h => cases h; exact ⟨[97], by rw [ea], .inl rfl⟩
  | 1, h => cases h; exact ⟨[98], by rw [eb], .inr (.inl rfl)⟩
  | 2, h => cases h; exact ⟨[99], by rw [ec], .inr (.inr rfl)⟩
theorem abc2_at {i : Nat} {x : V} (h : ([.str (Str.ofString "a"), .str (Str.ofString "b")] : List V)[i]? = some x) : ∃ s, x = vS s ∧ abc3 s := by
  match i, h with
  | 0, h => exact abc3_at (i := 0) h
  | 1, h => exact abc3_at (i := 1) h
/-- a shape is drawn -/
def spShape (K : PySem.W.Frag) (n : Nat) : Sp := fun vs H Q _ => ∃ (b c l : Addr) (zs : List (List Nat)) (m : Nat), vs = [.ref b, .ref l, .int m] ∧ BagAt b c H ∧ l ≠ b ∧ H l = some (.lst (zs.map vS)) ∧ 0 < zs.length ∧ zs.length ≤ 1000 ∧ m < n ∧
  ∀ (H' : Hp) (v : V) (t : Tm), Ext b H H' → BagAt b c H' → Dp K H' v (enc t) → t.sh (· ∈ zs) abc3 → t.deep ≤ max m 1 → Q v H'
theorem ok_shape (T : Txt K mg) : ∀ n : Nat, FnOk P w K mg base CX0 (n + 4) T.f__law_shape T.fd__law_shape ["_law_bag_here", "_law_words", "_law_deep"] (spShape K n)
  | 0 => ⟨fun vs H Q E h => (by obtain ⟨b, c, l, zs, m, rfl, _⟩ := h; rfl), fun A outer s H args us vs Q E _ _ _ _ h => (by obtain ⟨b, c, l, zs, m, _, _, _, _, _, _, h, _⟩ := h; omega)⟩
  | n + 1 => by
    have G__law_shape : FnOk P w K mg base CX0 (n + 4) T.f__law_shape T.fd__law_shape _ (spShape K n) := ok_shape T n
    have G__law_pull : FnOk P w K mg base CX0 1 T.f__law_pull T.fd__law_pull _ spPull := ok_pull T
    have G__law_any : FnOk P w K mg base CX0 2 T.f__law_any T.fd__law_any _ (spAny K) := ok_any T
    have G__law_form : FnOk P w K mg base CX0 4 T.f__law_form T.fd__law_form _ (spForm K 2) := ok_form T 2
    refine T.F__law_shape.ok sc__law_shape (fun vs H Q E h => ?_) (fun cdv A outer s H vs Q E hr h => ?_)
    · obtain ⟨b, c, l, zs, m, rfl, _⟩ := h
      rfl
    · obtain ⟨b, c, l, zs, m, rfl, hB, nlb, hl, z0, z1, hm, k⟩ := h
      refine ⟨_, (pss_cons (ps_set (i := 3) sc__law_shape.nd rfl (Or.inl rfl) (pe_call G__law_pull (hr.mono (by omega)) rfl T.g__law_pull T.F__law_pull.kp T.b__law_pull .nil pass0 (pa_cons (pv 0) (pa_cons pe_int pa_nil))))
      (pss_cons (ps_if (pt_cmpR op_eq (pv 3) pe_int (nomark _)) (pss_one (ps_ret (pe_tup (pa_cons pe_str (pa_cons (pe_call G__law_any (hr.mono (by omega)) rfl T.g__law_any T.F__law_any.kp T.b__law_any .nil pass0 (pa_cons (pv 0) (pa_cons (pe_lst (pa_cons pe_str (pa_cons pe_str (pa_cons pe_str pa_nil)))) pa_nil))) pa_nil))))) pss_nil)
      (pss_cut (ps_if (PW.pt (pw_or (pt_cmpR op_lt (pv 2) pe_int (nomark _)) (pw_or1 (pt_cmpR op_lt (pv 3) pe_int (nomark _))))) (pss_one (ps_ret (pe_ifExp (pt_cmpR op_eq (pe_call G__law_pull (hr.mono (by omega)) rfl T.g__law_pull T.F__law_pull.kp T.b__law_pull .nil pass0 (pa_cons (pv 0) (pa_cons pe_int pa_nil))) pe_int (nomark _)) (pe_tup (pa_cons pe_str (pa_cons (pe_call G__law_any (hr.mono (by omega)) rfl T.g__law_any T.F__law_any.kp T.b__law_any .nil pass0 (pa_cons (pv 0) (pa_cons (pe_lst (pa_cons pe_str (pa_cons pe_str pa_nil))) pa_nil))) pa_nil))) (pe_call G__law_form (hr.mono (by omega)) rfl T.g__law_form T.F__law_form.kp T.b__law_form .nil pass0 (pa_cons (pv 0) (pa_cons (pv 1) (pa_cons pe_int pa_nil))))))) pss_nil)
      (pss_cons (ps_set (i := 4) sc__law_shape.nd rfl (Or.inl rfl) (pe_call G__law_shape (hr.mono (by omega)) rfl T.g__law_shape T.F__law_shape.kp T.b__law_shape .nil pass0 (pa_cons (pv 0) (pa_cons (pv 1) (pa_cons (pe_op op_sub (pv 2) pe_int) pa_nil)))))
      (pss_one (ps_ret (pe_tup (pa_cons (pe_ix ix_tup (pe_tup (pa_cons pe_str (pa_cons pe_str (pa_cons pe_str pa_nil)))) (pe_op op_sub (pv 3) pe_int) (fun _ _ => rfl)) (pa_cons (pv 4) (pa_cons (pe_call G__law_shape (hr.mono (by omega)) rfl T.g__law_shape T.F__law_shape.kp T.b__law_shape .nil pass0 (pa_cons (pv 0) (pa_cons (pv 1) (pa_cons (pe_op op_sub (pv 2) pe_int) pa_nil)))) pa_nil)))))))))), ?_⟩
      refine ⟨_, rfl, b, c, 6, rfl, hB, by decide, by decide, fun d H1 d0 d1 x1 hB1 => ?_⟩
      have hl1 := x1 _ _ nlb hl
      refine ⟨_, rfl, rfl, _, rfl, ite2 (fun _ => ?_) (fun _ => ?_)⟩
      · refine ⟨_, rfl, (show 3 ≤ sizeLine by decide), fun q hq => ?_⟩
        have yq := Same.laid (.lst [.str (Str.ofString "a"), .str (Str.ofString "b"), .str (Str.ofString "c")]) hq
        refine ⟨b, c, _, rfl, hB1.ext yq, .inl ⟨q, _, rfl, .inl ⟨(hB1.apart hq).1, upd_same⟩, by decide, by decide, fun i x H3 hx x3 hB3 => ⟨(show 2 ≤ sizeLine by decide), fun p hp => ?_⟩⟩⟩
        obtain ⟨z, rfl, hz⟩ := abc3_at hx
        exact k _ _ (.hole z) ((x1.trans (Ext.same yq)).trans (x3.trans (Ext.laid _ hp))) (hB3.ext (Same.laid _ hp)) (dp_hole (SqT.of upd_same)) hz (Nat.le_max_right _ _)
      refine ⟨fun σ' H' => 2 ≤ m ∧ 3 ≤ d ∧ H' = H1 ∧ σ' = [some (.ref b), some (.ref l), some (.int m), some (.int d), none], ?_, ?_⟩
      · refine ⟨_, rfl, _, _, rfl, rfl, _, rfl, ?_⟩
        rcases (show (m : Int) < 2 ∨ (¬ (m : Int) < 2 ∧ d < 3) ∨ (¬ (m : Int) < 2 ∧ ¬ d < 3) by omega) with h | ⟨h, h'⟩ | ⟨h, h'⟩
        rotate_left 2
        · rw [decide_eq_false h]
          refine iteF ⟨_, rfl, _, _, rfl, rfl, _, rfl, ?_⟩
          rw [decide_eq_false h']
          exact iteF ⟨by omega, by omega, rfl, rfl⟩
        all_goals first
          | (rw [decide_eq_true h]; refine iteT (iteT ?_))
          | (rw [decide_eq_false h]; refine iteF ⟨_, rfl, _, _, rfl, rfl, _, rfl, ?_⟩; rw [decide_eq_true h']; refine iteT ?_)
        all_goals
          refine ⟨_, rfl, b, c, 3, rfl, hB1, by decide, by decide, fun e H2 e0 e1 x2 hB2 => ⟨rfl, _, rfl, ite2 (fun _ => ?_) (fun _ => ?_)⟩⟩
          · refine ⟨_, rfl, (show 2 ≤ sizeLine by decide), fun q hq => ?_⟩
            have yq := Same.laid (.lst [.str (Str.ofString "a"), .str (Str.ofString "b")]) hq
            refine ⟨b, c, _, rfl, hB2.ext yq, .inl ⟨q, _, rfl, .inl ⟨(hB2.apart hq).1, upd_same⟩, by decide, by decide, fun i x H3 hx x3 hB3 => ⟨(show 2 ≤ sizeLine by decide), fun p hp => ?_⟩⟩⟩
            obtain ⟨z, rfl, hz⟩ := abc2_at hx
            exact k _ _ (.hole z) (((x1.trans x2).trans (Ext.same yq)).trans (x3.trans (Ext.laid _ hp))) (hB3.ext (Same.laid _ hp)) (dp_hole (SqT.of upd_same)) hz (Nat.le_max_right _ _)
          · refine ⟨_, rfl, _, rfl, b, c, l, zs, 1, rfl, hB2, nlb, x2 _ _ nlb hl1, z0, z1, by decide, fun H3 v t x3 hB3 D f a q => ?_⟩
            exact k _ _ t ((x1.trans x2).trans x3) hB3 D (Tm.sh_of f a) (by omega)
      · rintro σ' H' ⟨hm2, hd2, rfl, rfl⟩
        refine ⟨_, rfl, _, rfl, _, rfl, _, _, rfl, rfl, b, c, l, zs, m - 1, ?_, hB1, nlb, hl1, z0, z1, by omega, fun H2 v1 t1 x2 hB2 D1 f1 q1 => ?_⟩
        · show [V.ref b, V.ref l, V.int ((m : Int) - 1)] = _
          rw [show ((m : Int) - 1) = ((m - 1 : Nat) : Int) by omega]
        refine ⟨(show 3 ≤ sizeLine by decide), fun tp htp => ?_⟩
        refine ⟨_, rfl, _, _, rfl, rfl, tp, _, d - 3, _, rfl, rfl, SqT.of upd_same, atI_int (by omega) (opOf_at (by omega)), ?_⟩
        have y1 := Same.laid (.tup [.str (Str.ofString "then"), .str (Str.ofString "and"), .str (Str.ofString "or")]) htp
        refine ⟨_, rfl, _, rfl, _, rfl, _, rfl, _, _, rfl, rfl, b, c, l, zs, m - 1, ?_, hB2.ext y1, nlb, y1 _ _ (x2 _ _ nlb hl1), z0, z1, by omega, fun H3 v2 t2 x3 hB3 D2 f2 q2 => ⟨(show 3 ≤ sizeLine by decide), fun p hp => ?_⟩⟩
        · show [V.ref b, V.ref l, V.int ((m : Int) - 1)] = _
          rw [show ((m : Int) - 1) = ((m - 1 : Nat) : Int) by omega]
        obtain ⟨yb2, hb2⟩ := (hB2.ext y1).lst
        have y2 := Same.laid (.tup [.str (opS (opOf (d - 3).toNat)), v1, v2]) hp
        refine k _ _ (.bin (opOf (d - 3).toNat) t1 t2) (((x1.trans x2).trans (Ext.same y1)).trans (x3.trans (Ext.same y2))) (hB3.ext y2) (dp_bin (SqT.of upd_same) ?_ (Dp.same y2 _ _ D2)) ⟨f1, f2⟩ ?_
        · exact Dp.same y2 _ _ (Dp.ext x3 hb2 _ _ (enc_tup t1) (Dp.same y1 _ _ D1))
        · unfold Tm.deep; omega

end
end Ag
namespace Ag
open PySem L2
open C8 (pss_cut tCut)
section
variable {P : Program} {w : World} {K : PySem.W.Frag} {mg : Str → Option Value} {base : Heap}
/-! tables of terms -/
inductive TabR (K : PySem.W.Frag) (H : Hp) : List (Key × V) → List (Key × Tm) → Prop
  | nil : TabR K H [] []
  | cons {k : Key} {v : V} {t : Tm} {kvs : List (Key × V)} {tb : List (Key × Tm)} : Dp K H v (enc t) → TabR K H kvs tb → TabR K H ((k, v) :: kvs) ((k, t) :: tb)
def lookT (tb : List (Key × Tm)) (k : Key) : Option Tm := (tb.find? fun p => decide (p.1 = k)).map (·.2)
theorem lookT_pos {p : Key × Tm} {r : List (Key × Tm)} {k : Key} (e : p.1 = k) : lookT (p :: r) k = some p.2 := by simp [lookT, List.find?_cons, e]
theorem lookT_neg {p : Key × Tm} {r : List (Key × Tm)} {k : Key} (e : ¬ p.1 = k) : lookT (p :: r) k = lookT r k := by simp [lookT, List.find?_cons, e]
theorem TabR.val {H : Hp} : ∀ {kvs : List (Key × V)} {tb : List (Key × Tm)} (k : Key), TabR K H kvs tb → (lookT tb k = none ∧ valV kvs k = none) ∨ ∃ t v, lookT tb k = some t ∧ valV kvs k = some v ∧ Dp K H v (enc t)
  | _, _, _, .nil => .inl ⟨rfl, rfl⟩
  | _, _, k, .cons (k := k') (v := v) (t := t) h r => by
    by_cases e : k' = k
    · exact .inr ⟨t, v, lookT_pos e, valV_pos e, h⟩
    · rw [lookT_neg (p := (k', t)) e, valV_neg (p := (k', v)) e]
      exact TabR.val k r
theorem TabR.same {H H' : Hp} (s : Same H H') : ∀ {kvs : List (Key × V)} {tb : List (Key × Tm)}, TabR K H kvs tb → TabR K H' kvs tb
  | _, _, .nil => .nil
  | _, _, .cons h r => .cons (Dp.same s _ _ h) (TabR.same s r)
theorem TabR.ext {b : Addr} {H H' : Hp} {ys : List V} (e : Ext b H H') (hb : H b = some (.lst ys)) : ∀ {kvs : List (Key × V)} {tb : List (Key × Tm)}, TabR K H kvs tb → TabR K H' kvs tb
  | _, _, .nil => .nil
  | _, _, .cons h r => .cons (Dp.ext e hb _ _ (enc_tup _) h) (TabR.ext e hb r)
theorem TabR.ts {H H' : Hp} (e : TS K H H') : ∀ {kvs : List (Key × V)} {tb : List (Key × Tm)}, TabR K H kvs tb → TabR K H' kvs tb
  | _, _, .nil => .nil
  | _, _, .cons h r => .cons (Dp.ts e _ _ (enc_tup _) h) (TabR.ts e r)
theorem TabR.snoc {H : Hp} {k : Key} {v : V} {t : Tm} (h : Dp K H v (enc t)) : ∀ {kvs : List (Key × V)} {tb : List (Key × Tm)}, TabR K H kvs tb → TabR K H (kvs ++ [(k, v)]) (tb ++ [(k, t)])
  | _, _, .nil => .cons h .nil
  | _, _, .cons h' r => .cons h' (TabR.snoc h r)
theorem TabR.length {H : Hp} : ∀ {kvs : List (Key × V)} {tb : List (Key × Tm)}, TabR K H kvs tb → kvs.length = tb.length
  | _, _, .nil => rfl
  | _, _, .cons _ r => by rw [List.length_cons, List.length_cons, TabR.length r]
/-- terms in place of holes (or of unknown parts) -/
def Tm.put (tb : List (Key × Tm)) (wh : Bool) : Tm → Tm
  | .hole s => if wh = true then (lookT tb (.inr (SX.S s))).getD (.hole s) else .hole s
  | .part n => if wh = true then .part n else (lookT tb (.inl n)).getD (.part n)
  | .bin o a b => .bin o (a.put tb wh) (b.put tb wh)
  | t => t
def wordS (wh : Bool) : Str := if wh = true then Str.ofString "hole" else Str.ofString "part"
def tagS : Tm → Str
  | .atom _ => Str.ofString "atom"
  | .fls => Str.ofString "false"
  | .hole _ => Str.ofString "hole"
  | .part _ => Str.ofString "part"
  | .bin o _ _ => opS o
def isBin : Tm → Bool
  | .bin _ _ _ => true
  | _ => false
/-- a term stands at a tuple that begins with its tag -/
theorem enc_tag {H : Hp} {v : V} : ∀ {t : Tm}, Dp K H v (enc t) → ∃ p xs, v = .ref p ∧ SqT K H p (.str (tagS t) :: xs)
  | .atom s, h => let ⟨p, e, q⟩ := enc_atom h; ⟨p, _, e, q⟩
  | .fls, h => let ⟨p, e, q⟩ := enc_fls h; ⟨p, _, e, q⟩
  | .hole s, h => let ⟨p, e, q⟩ := enc_hole h; ⟨p, _, e, q⟩
  | .part n, h => let ⟨p, e, q⟩ := enc_part h; ⟨p, _, e, q⟩
  | .bin o a b, h => let ⟨p, _, _, e, q, _⟩ := enc_bin h; ⟨p, _, e, q⟩
theorem in_pairs (t : Tm) : inV (.str (tagS t)) [.str (Str.ofString "then"), .str (Str.ofString "and"), .str (Str.ofString "or")] = isBin t := by
  have q : ∀ x : Str, x ∈ ([Str.ofString "atom", Str.ofString "false", Str.ofString "hole", Str.ofString "part"] : List Str) → inV (.str x) [.str (Str.ofString "then"), .str (Str.ofString "and"), .str (Str.ofString "or")] = false := by decide +kernel
  have q2 : ∀ o : Op, inV (.str (opS o)) [.str (Str.ofString "then"), .str (Str.ofString "and"), .str (Str.ofString "or")] = true := fun o => by cases o <;> decide +kernel
  cases t with
  | bin o a b => exact q2 o
  | _ => exact q _ (by simp [tagS])
theorem atI_0 {x : V} {xs : List V} : atI (x :: xs) 0 = some x := atI_nat (j := 0) rfl
theorem atI_1 {x y : V} {xs : List V} : atI (x :: y :: xs) 1 = some y := atI_nat (j := 1) rfl
theorem atI_2 {x y z : V} {xs : List V} : atI (x :: y :: z :: xs) 2 = some z := atI_nat (j := 2) rfl
theorem isBin_of {t : Tm} (h : isBin t = true) : ∃ o a b, t = .bin o a b := by
  cases t with
  | bin o a b => exact ⟨o, a, b, rfl⟩
  | _ => cases h
theorem op_word (o : Op) (wh : Bool) : opS o ≠ wordS wh := by cases o <;> cases wh <;> decide +kernel
theorem tag_word {t : Tm} {wh : Bool} (h : tagS t = wordS wh) : (∃ s, t = .hole s ∧ wh = true) ∨ ∃ n, t = .part n ∧ wh = false := by
  cases t with
  | atom s => cases wh <;> exact absurd (show Str.ofString "atom" = wordS _ from h) (by decide +kernel)
  | fls => cases wh <;> exact absurd h (by decide +kernel)
  | hole s =>
    cases wh with
    | true => exact .inl ⟨s, rfl, rfl⟩
    | false => exact absurd (show Str.ofString "hole" = wordS false from h) (by decide +kernel)
  | part n =>
    cases wh with
    | false => exact .inr ⟨n, rfl, rfl⟩
    | true => exact absurd (show Str.ofString "part" = wordS true from h) (by decide +kernel)
  | bin o a b => exact absurd h (op_word o wh)
def spPut (K : PySem.W.Frag) (n : Nat) : Sp := fun vs H Q _ => ∃ (v : V) (d : Addr) (wh : Bool) (t : Tm) (kvs : List (Key × V)) (tb : List (Key × Tm)), vs = [v, .ref d, .str (wordS wh)] ∧ Dp K H v (enc t) ∧ H d = some (.dK kvs) ∧ TabR K H kvs tb ∧ t.deep ≤ n ∧
  ∀ (H' : Hp) (v' : V), Same H H' → Dp K H' v' (enc (t.put tb wh)) → Q v' H'
theorem ok_put (T : Txt K mg) : ∀ n : Nat, FnOk P w K mg base CX0 n T.f__law_put T.fd__law_put ["_law_term", "_law_table", "_law_word"] (spPut K n)
  | 0 => ⟨fun vs H Q E h => (by obtain ⟨v, d, wh, t, kvs, tb, rfl, _⟩ := h; rfl), fun A outer s H args us vs Q E _ _ _ _ h => (by obtain ⟨v, d, wh, t, kvs, tb, _, _, _, _, h, _⟩ := h; have := t.deep_pos; omega)⟩
  | n + 1 => by
    have G__law_put : FnOk P w K mg base CX0 n T.f__law_put T.fd__law_put _ (spPut K n) := ok_put T n
    refine T.F__law_put.ok sc__law_put (fun vs H Q E h => ?_) (fun cdv A outer s H vs Q E hr h => ?_)
    · obtain ⟨v, d, wh, t, kvs, tb, rfl, _⟩ := h
      rfl
    · obtain ⟨v, d, wh, t, kvs, tb, rfl, hv, hd, ht, hn, k⟩ := h
      refine ⟨_, (pss_cons (ps_if (pt_cmpR op_eq (pe_ix ix_tup (pv 0) pe_int (fun _ _ => rfl)) (pv 2) (nomark _)) (pss_one (ps_ret (pe_dget2 (hu_of hr) (pv 1) (pe_ix ix_tup (pv 0) pe_int (fun _ _ => rfl)) (pv 0) ⟨rfl, rfl, rfl, rfl⟩))) pss_nil)
      (pss_cons (ps_if (pt_cmpR op_in_seq (pe_ix ix_tup (pv 0) pe_int (fun _ _ => rfl)) (pe_tup (pa_cons pe_str (pa_cons pe_str (pa_cons pe_str pa_nil)))) (by rfl)) (pss_one (ps_ret (pe_tup (pa_cons (pe_ix ix_tup (pv 0) pe_int (fun _ _ => rfl)) (pa_cons (pe_call G__law_put (hr.mono (by omega)) rfl T.g__law_put T.F__law_put.kp T.b__law_put .nil pass0 (pa_cons (pe_ix ix_tup (pv 0) pe_int (fun _ _ => rfl)) (pa_cons (pv 1) (pa_cons (pv 2) pa_nil)))) (pa_cons (pe_call G__law_put (hr.mono (by omega)) rfl T.g__law_put T.F__law_put.kp T.b__law_put .nil pass0 (pa_cons (pe_ix ix_tup (pv 0) pe_int (fun _ _ => rfl)) (pa_cons (pv 1) (pa_cons (pv 2) pa_nil)))) pa_nil)))))) pss_nil)
      (pss_one (ps_ret (pv 0))))), ?_⟩
      obtain ⟨p, xs, rfl, hp⟩ := enc_tag hv
      refine ⟨_, rfl, p, _, 0, _, rfl, rfl, hp, atI_0, _, rfl, rfl, _, rfl, ?_⟩
      by_cases hw : tagS t = wordS wh
      · rw [decide_eq_true (by rw [hw])]
        refine iteT ?_
        rcases tag_word hw with ⟨s, rfl, rfl⟩ | ⟨m, rfl, rfl⟩
        · obtain ⟨p', e, hp'⟩ := enc_hole hv
          cases e
          refine ⟨_, rfl, d, rfl, .inl ⟨_, .inl hd⟩, _, rfl, p, _, 1, _, rfl, rfl, hp', atI_1, _, rfl, _, DGet.k (k := .inr (SX.S s)) hd, ?_⟩
          rcases ht.val (.inr (SX.S s)) with ⟨e1, e2⟩ | ⟨t', v', e1, e2, e3⟩
          · rw [e2]
            exact k _ _ (Same.refl _) (by unfold Tm.put; rw [if_pos rfl, e1]; exact hv)
          · rw [e2]
            exact k _ _ (Same.refl _) (by unfold Tm.put; rw [if_pos rfl, e1]; exact e3)
        · obtain ⟨p', e, hp'⟩ := enc_part hv
          cases e
          refine ⟨_, rfl, d, rfl, .inl ⟨_, .inl hd⟩, _, rfl, p, _, 1, _, rfl, rfl, hp', atI_1, _, rfl, _, DGet.k (k := .inl m) hd, ?_⟩
          rcases ht.val (.inl m) with ⟨e1, e2⟩ | ⟨t', v', e1, e2, e3⟩
          · rw [e2]
            exact k _ _ (Same.refl _) (by unfold Tm.put; rw [if_neg Bool.false_ne_true, e1]; exact hv)
          · rw [e2]
            exact k _ _ (Same.refl _) (by unfold Tm.put; rw [if_neg Bool.false_ne_true, e1]; exact e3)
      · rw [decide_eq_false (fun e => hw (by injection e))]
        refine iteF ⟨_, rfl, p, _, 0, _, rfl, rfl, hp, atI_0, (show 3 ≤ sizeLine by decide), fun q hq => ?_⟩
        have y1 := Same.laid (.tup [.str (Str.ofString "then"), .str (Str.ofString "and"), .str (Str.ofString "or")]) hq
        refine ⟨q, _, rfl, .inr (SqT.of upd_same), rfl, rfl, _, rfl, ?_⟩
        rw [if_neg Bool.false_ne_true, in_pairs]
        by_cases hb : isBin t = true
        · obtain ⟨o, a, b, rfl⟩ := isBin_of hb
          obtain ⟨p', x, y, e, hp', hx, hy⟩ := enc_bin hv
          cases e
          have hp1 := Same.sqT y1 hp'
          have hn' : max a.deep b.deep + 1 ≤ n + 1 := hn
          refine iteT ⟨_, rfl, p, _, 0, _, rfl, rfl, hp1, atI_0, _, rfl, p, _, 1, _, rfl, rfl, hp1, atI_1, _, rfl, _, rfl, x, d, wh, a, kvs, tb, rfl, Dp.same y1 _ _ hx, y1 _ _ hd, ht.same y1, by omega, fun H2 x' s2 hx' => ?_⟩
          have hp2 := Same.sqT s2 hp1
          refine ⟨_, rfl, p, _, 2, _, rfl, rfl, hp2, atI_2, _, rfl, _, rfl, y, d, wh, b, kvs, tb, rfl, Dp.same (y1.trans s2) _ _ hy, s2 _ _ (y1 _ _ hd), ht.same (y1.trans s2), by omega, fun H3 y' s3 hy' => ⟨(show 3 ≤ sizeLine by decide), fun r hr2 => ?_⟩⟩
          have y4 := Same.laid (.tup [.str (opS o), x', y']) hr2
          exact k _ _ (((y1.trans s2).trans s3).trans y4) (dp_bin (SqT.of upd_same) (Dp.same (s3.trans y4) _ _ hx') (Dp.same y4 _ _ hy'))
        · rw [show isBin t = false by simpa using hb]
          refine iteF ⟨_, rfl, k _ _ y1 ?_⟩
          have e : t.put tb wh = t := by
            cases t with
            | hole s => unfold Tm.put; rw [if_neg (fun q => hw (by subst q; rfl))]
            | part m =>
              unfold Tm.put
              cases wh with
              | true => rfl
              | false => exact absurd rfl hw
            | bin o a b => exact absurd rfl hb
            | _ => rfl
          rw [e]
          exact Dp.same y1 _ _ hv

end
end Ag
namespace Ag
open PySem L2
open C8 (pss_cut tCut)
section
variable {P : Program} {w : World} {K : PySem.W.Frag} {mg : Str → Option Value} {base : Heap}
/-! terms compared -/
def okS (s : List Nat) : Bool := s.all fun c => decide (c < 0x110000)
def Tm.ok : Tm → Bool
  | .atom s => okS s
  | .hole s => okS s
  | .bin _ a b => a.ok && b.ok
  | _ => true
theorem okS_low {s : List Nat} (h : isLow s = true) : okS s = true := by
  unfold okS
  rw [List.all_eq_true]
  intro c hc
  have := isLow_mem h hc
  exact decide_eq_true (by omega)
theorem strOk_S {s : List Nat} (h : okS s = true) : PyData.strOk (SX.S s) = true := by
  unfold PyData.strOk
  rw [← Array.all_toList]
  exact h
theorem strOk_op (o : Op) : PyData.strOk (opS o) = true := by cases o <;> decide +kernel
theorem enc_lay : ∀ {t : Tm}, t.ok = true → PyData.canLay0 (enc t) = true
  | .atom s, h => by
    simp [enc, PyData.canLay0, PyData.canLayAll0, strOk_S h]; decide +kernel
  | .fls, _ => by simp [enc, PyData.canLay0, PyData.canLayAll0]; decide +kernel
  | .hole s, h => by simp [enc, PyData.canLay0, PyData.canLayAll0, strOk_S h]; decide +kernel
  | .part n, _ => by simp [enc, PyData.canLay0, PyData.canLayAll0]; decide +kernel
  | .bin o a b, h => by
    unfold Tm.ok at h
    rw [Bool.and_eq_true_iff] at h
    simp [enc, PyData.canLay0, PyData.canLayAll0, strOk_op, enc_lay h.1, enc_lay h.2]
theorem enc_depth : ∀ t : Tm, PyData.depth (enc t) = t.deep
  | .atom s => by simp [enc, PyData.depth, PyData.depthAll, Tm.deep]
  | .fls => by simp [enc, PyData.depth, PyData.depthAll, Tm.deep]
  | .hole s => by simp [enc, PyData.depth, PyData.depthAll, Tm.deep]
  | .part n => by simp [enc, PyData.depth, PyData.depthAll, Tm.deep]
  | .bin o a b => by simp [enc, PyData.depth, PyData.depthAll, Tm.deep, enc_depth a, enc_depth b]
theorem enc_shaped {t : Tm} (h : t.ok = true) (hd : t.deep ≤ 60) : SeqAt.shaped (enc t) = true := by
  unfold SeqAt.shaped
  rw [enc_lay h, enc_depth, decide_eq_true (by omega)]; rfl
theorem str_beq (x y : Str) : (x == y) = decide (x = y) := by
  by_cases e : x = y
  · subst e; simp
  · rw [decide_eq_false e]; exact beq_eq_false_iff_ne.mpr e
theorem opS_inj {o o' : Op} (h : opS o = opS o') : o = o' := by
  cases o <;> cases o' <;> first | rfl | exact absurd h (by decide +kernel)
theorem tag_ne : ∀ o : Op, opS o ≠ Str.ofString "atom" ∧ opS o ≠ Str.ofString "false" ∧ opS o ≠ Str.ofString "hole" ∧ opS o ≠ Str.ofString "part" := fun o => by cases o <;> decide +kernel
theorem eqv_tup (xs ys : List PyData) : PyData.eqv (.tuple xs) (.tuple ys) = PyData.eqvAll xs ys := by rw [PyData.eqv]
theorem eqv_cons (x y : PyData) (xs ys : List PyData) : PyData.eqvAll (x :: xs) (y :: ys) = (PyData.eqv x y && PyData.eqvAll xs ys) := by rw [PyData.eqvAll]
theorem eqv_nil : PyData.eqvAll [] [] = true := by rw [PyData.eqvAll]
theorem eqv_cn (x : PyData) (xs : List PyData) : PyData.eqvAll (x :: xs) [] = false := by rw [PyData.eqvAll]
theorem eqv_nc (x : PyData) (xs : List PyData) : PyData.eqvAll [] (x :: xs) = false := by rw [PyData.eqvAll]
theorem eqv_str (x y : Str) : PyData.eqv (.str x) (.str y) = decide (x = y) := by rw [PyData.eqv, str_beq]
theorem eqv_int (x y : Int) : PyData.eqv (.int x) (.int y) = decide (x = y) := by
  rw [PyData.eqv]
  by_cases e : x = y
  · subst e; simp
  · rw [decide_eq_false e]; exact beq_eq_false_iff_ne.mpr e
theorem eqv_si (x : Str) (y : Int) : PyData.eqv (.str x) (.int y) = false := by rw [PyData.eqv]
theorem eqv_is (x : Int) (y : Str) : PyData.eqv (.int x) (.str y) = false := by rw [PyData.eqv]
theorem SX_inj {a b : List Nat} : (SX.S a = SX.S b) = (a = b) := propext ⟨SX.S_inj, fun h => by rw [h]⟩
theorem nAH : ¬ Str.ofString "atom" = Str.ofString "hole" := by decide +kernel
theorem nHA : ¬ Str.ofString "hole" = Str.ofString "atom" := by decide +kernel
theorem enc_eqv (a : Tm) : ∀ b : Tm, PyData.eqv (enc a) (enc b) = decide (a = b) := by
  induction a with
  | bin o a b iha ihb =>
    intro c
    cases c with
    | bin o' a' b' =>
      unfold enc
      rw [eqv_tup, eqv_cons, eqv_cons, eqv_cons, eqv_nil, iha a', ihb b', eqv_str]
      by_cases e : o = o'
      · subst e; simp
      · have q : ¬ opS o = opS o' := fun h => e (opS_inj h)
        simp [q, e]
    | _ => unfold enc; simp only [eqv_tup, eqv_cons, eqv_nil, eqv_cn, eqv_nc, Bool.and_false]; simp
  | atom s =>
    intro c
    cases c with
    | atom s' => unfold enc; simp only [eqv_tup, eqv_cons, eqv_nil, eqv_str, SX_inj]; simp
    | hole s' => unfold enc; simp only [eqv_tup, eqv_cons, eqv_nil, eqv_str, decide_eq_false nAH]; simp
    | part n => unfold enc; simp only [eqv_tup, eqv_cons, eqv_nil, eqv_str, eqv_si]; simp
    | _ => unfold enc; simp only [eqv_tup, eqv_cons, eqv_nil, eqv_cn, eqv_nc, Bool.and_false]; simp
  | hole s =>
    intro c
    cases c with
    | hole s' => unfold enc; simp only [eqv_tup, eqv_cons, eqv_nil, eqv_str, SX_inj]; simp
    | atom s' => unfold enc; simp only [eqv_tup, eqv_cons, eqv_nil, eqv_str, decide_eq_false nHA]; simp
    | part n => unfold enc; simp only [eqv_tup, eqv_cons, eqv_nil, eqv_str, eqv_si]; simp
    | _ => unfold enc; simp only [eqv_tup, eqv_cons, eqv_nil, eqv_cn, eqv_nc, Bool.and_false]; simp
  | part n =>
    intro c
    cases c with
    | part m => unfold enc; simp only [eqv_tup, eqv_cons, eqv_nil, eqv_str, eqv_int]; simp
    | atom s' => unfold enc; simp only [eqv_tup, eqv_cons, eqv_nil, eqv_str, eqv_is]; simp
    | hole s' => unfold enc; simp only [eqv_tup, eqv_cons, eqv_nil, eqv_str, eqv_is]; simp
    | _ => unfold enc; simp only [eqv_tup, eqv_cons, eqv_nil, eqv_cn, eqv_nc, Bool.and_false]; simp
  | fls =>
    intro c
    cases c with
    | fls => unfold enc; simp only [eqv_tup, eqv_cons, eqv_nil, eqv_str]; simp
    | _ => unfold enc; simp only [eqv_tup, eqv_cons, eqv_nil, eqv_cn, eqv_nc, Bool.and_false]; simp

end
end Ag
namespace Ag
open PySem L2
open C8 (pss_cut tCut)
section
variable {P : Program} {w : World} {K : PySem.W.Frag} {mg : Str → Option Value} {base : Heap}
/-- a shape, a term, a table so far -/
def matchT : Tm → Tm → List (Key × Tm) → Option (List (Key × Tm))
  | .hole x, f, tb => match lookT tb (.inr (SX.S x)) with
    | some g => if g = f then some tb else none
    | none => some (tb ++ [(.inr (SX.S x), f)])
  | .bin o a b, .bin o' a' b', tb => if o = o' then (matchT a a' tb).bind (matchT b b') else none
  | s, f, tb => if s = f then some tb else none
def Tm.lv : Tm → Nat
  | .bin _ a b => a.lv + b.lv
  | _ => 1
theorem Tm.lv_pos : ∀ t : Tm, 1 ≤ t.lv
  | .bin _ a b => by have := a.lv_pos; unfold Tm.lv; omega
  | .atom _ => Nat.le_refl _
  | .fls => Nat.le_refl _
  | .hole _ => Nat.le_refl _
  | .part _ => Nat.le_refl _
def TbOk (tb : List (Key × Tm)) : Prop := ∀ p ∈ tb, p.2.ok = true ∧ p.2.deep ≤ 60
theorem lookT_mem {tb : List (Key × Tm)} {k : Key} {t : Tm} (h : lookT tb k = some t) : (k, t) ∈ tb := by
  unfold lookT at h
  cases q : tb.find? fun p => decide (p.1 = k) with
  | none => rw [q] at h; cases h
  | some p =>
    rw [q] at h
    injection h with h
    have e : p.1 = k := of_decide_eq_true (List.find?_some (p := fun p : Key × Tm => decide (p.1 = k)) q)
    have m := List.mem_of_find?_eq_some q
    rw [← h, ← e]
    exact m
theorem TbOk.snoc {tb : List (Key × Tm)} {k : Key} {t : Tm} (h : TbOk tb) (o : t.ok = true) (d : t.deep ≤ 60) : TbOk (tb ++ [(k, t)]) := fun p hp => by
  rcases List.mem_append.mp hp with hp | hp
  · exact h p hp
  · rw [List.mem_singleton.mp hp]; exact ⟨o, d⟩
theorem match_leaf {s f : Tm} {tb : List (Key × Tm)} (h1 : ∀ x, s ≠ .hole x) (h2 : isBin s = false ∨ isBin f = false) : matchT s f tb = if s = f then some tb else none := by
  cases s with
  | hole x => exact absurd rfl (h1 x)
  | bin o a b =>
    cases f with
    | bin o' a' b' => rcases h2 with h | h <;> cases h
    | _ => rfl
  | _ => rfl
/-- what comes back is a table of as many holes more at most, all of it well made -/
theorem match_ok : ∀ {s f : Tm} {tb tb' : List (Key × Tm)}, f.ok = true → f.deep ≤ 60 → TbOk tb → matchT s f tb = some tb' → TbOk tb' ∧ tb'.length ≤ tb.length + s.lv
  | .hole x, f, tb, tb', o, d, h, e => by
    unfold matchT at e
    cases q : lookT tb (.inr (SX.S x)) with
    | some g =>
      rw [q] at e
      dsimp only at e
      split at e
      · injection e with e; subst e; exact ⟨h, Nat.le_add_right _ _⟩
      · cases e
    | none =>
      rw [q] at e
      dsimp only at e
      injection e with e
      subst e
      exact ⟨h.snoc o d, by rw [List.length_append]; exact Nat.le_refl _⟩
  | .bin o1 a b, .bin o2 a' b', tb, tb', o, d, h, e => by
    unfold matchT at e
    unfold Tm.ok at o
    rw [Bool.and_eq_true_iff] at o
    have d' : max a'.deep b'.deep + 1 ≤ 60 := d
    split at e
    · cases q : matchT a a' tb with
      | none => rw [q] at e; cases e
      | some tb1 =>
        rw [q] at e
        have r1 := match_ok o.1 (by omega) h q
        have r2 := match_ok o.2 (by omega) r1.1 e
        exact ⟨r2.1, by have := r1.2; have := r2.2; unfold Tm.lv; omega⟩
    · cases e
  | .bin o1 a b, .atom _, tb, tb', o, d, h, e => by cases e
  | .bin o1 a b, .fls, tb, tb', o, d, h, e => by cases e
  | .bin o1 a b, .hole _, tb, tb', o, d, h, e => by cases e
  | .bin o1 a b, .part _, tb, tb', o, d, h, e => by cases e
  | .atom x, f, tb, tb', o, d, h, e => by
    rw [match_leaf (by intro _ q; cases q) (.inl rfl)] at e
    split at e
    · injection e with e; subst e; exact ⟨h, Nat.le_add_right _ _⟩
    · cases e
  | .fls, f, tb, tb', o, d, h, e => by
    rw [match_leaf (by intro _ q; cases q) (.inl rfl)] at e
    split at e
    · injection e with e; subst e; exact ⟨h, Nat.le_add_right _ _⟩
    · cases e
  | .part x, f, tb, tb', o, d, h, e => by
    rw [match_leaf (by intro _ q; cases q) (.inl rfl)] at e
    split at e
    · injection e with e; subst e; exact ⟨h, Nat.le_add_right _ _⟩
    · cases e
def spMatch (K : PySem.W.Frag) (n : Nat) : Sp := fun vs H Q _ => ∃ (v u : V) (d : Addr) (s f : Tm) (kvs : List (Key × V)) (tb : List (Key × Tm)),
  vs = [v, u, .ref d] ∧ Dp K H v (enc s) ∧ Dp K H u (enc f) ∧ s.ok = true ∧ f.ok = true ∧ TbOk tb ∧ s.deep ≤ n ∧ s.deep ≤ 60 ∧ f.deep ≤ 60 ∧ H d = some (.dK kvs) ∧ TabR K H kvs tb ∧ tb.length + s.lv ≤ 1000000 ∧
  (matchT s f tb = none → ∀ H', Same H H' → Q .non H') ∧ ∀ tb', matchT s f tb = some tb' → ∀ (H' : Hp) (d' : Addr) (kvs' : List (Key × V)), Same H H' → H' d' = some (.dK kvs') → TabR K H' kvs' tb' → Q (.ref d') H'
theorem ok_match (T : Txt K mg) : ∀ n : Nat, FnOk P w K mg base CX0 n T.f__law_match T.fd__law_match ["_law_shape_z", "_law_formula_z", "_law_table"] (spMatch K n)
  | 0 => ⟨fun vs H Q E h => (by obtain ⟨v, u, d, s, f, kvs, tb, rfl, _⟩ := h; rfl), fun A outer s H args us vs Q E _ _ _ _ h => (by obtain ⟨v, u, d, s, f, kvs, tb, _, _, _, _, _, _, h, _⟩ := h; have := s.deep_pos; omega)⟩
  | n + 1 => by
    have G__law_match : FnOk P w K mg base CX0 n T.f__law_match T.fd__law_match _ (spMatch K n) := ok_match T n
    refine T.F__law_match.ok sc__law_match (fun vs H Q E h => ?_) (fun cdv A outer s0 H vs Q E hr h => ?_)
    · obtain ⟨v, u, d, s, f, kvs, tb, rfl, _⟩ := h
      rfl
    · obtain ⟨v, u, d, s, f, kvs, tb, rfl, hv, hu, so, fo, tbo, sn, s60, f60, hd, ht, hlen, k0, k1⟩ := h
      refine ⟨_, (pss_cons (ps_if (pt_cmpR op_eq (pe_ix ix_tup (pv 0) pe_int (fun _ _ => rfl)) pe_str (nomark _)) (pss_cons (ps_if (pt_cmp (pc_din (hu_of hr) (pe_ix ix_tup (pv 0) pe_int (fun _ _ => rfl)) (pv 2))) (pss_one (ps_ret (pe_ifExp (pt_cmpR (op_eqD (hu64 hr)) (pe_dget (hu_of hr) (pv 2) (pe_ix ix_tup (pv 0) pe_int (fun _ _ => rfl)) (fun _ _ => rfl)) (pv 1) (nomark _)) (pv 2) pe_non))) pss_nil)
      (pss_cons (ps_set (i := 3) sc__law_match.nd rfl (Or.inl rfl) (pe_callTy call_dictD (by rfl) T.n_dict (by decide +kernel) (pa_cons (pv 2) pa_nil)))
      (pss_cons (ps_dput (hu_of hr) (pv 3) (pe_ix ix_tup (pv 0) pe_int (fun _ _ => rfl)) (pv 1) rfl)
      (pss_one (ps_ret (pv 3)))))) pss_nil)
      (pss_cons (ps_if (pt_cmpR op_ne (pe_ix ix_tup (pv 0) pe_int (fun _ _ => rfl)) (pe_ix ix_tup (pv 1) pe_int (fun _ _ => rfl)) (nomark _)) (pss_one (ps_ret pe_non)) pss_nil)
      (pss_cons (ps_if (pt_cmpR op_notIn_seq (pe_ix ix_tup (pv 0) pe_int (fun _ _ => rfl)) (pe_tup (pa_cons pe_str (pa_cons pe_str (pa_cons pe_str pa_nil)))) (by rfl)) (pss_one (ps_ret (pe_ifExp (pt_cmpR (op_eqD (hu64 hr)) (pv 0) (pv 1) (nomark _)) (pv 2) pe_non))) pss_nil)
      (pss_cons (ps_set (i := 4) sc__law_match.nd rfl (Or.inl rfl) (pe_call G__law_match (hr.mono (by omega)) rfl T.g__law_match T.F__law_match.kp T.b__law_match .nil pass0 (pa_cons (pe_ix ix_tup (pv 0) pe_int (fun _ _ => rfl)) (pa_cons (pe_ix ix_tup (pv 1) pe_int (fun _ _ => rfl)) (pa_cons (pv 2) pa_nil)))))
      (pss_one (ps_ret (pe_ifExp (pt_cmp (pc_isN (pv 4))) pe_non (pe_call G__law_match (hr.mono (by omega)) rfl T.g__law_match T.F__law_match.kp T.b__law_match .nil pass0 (pa_cons (pe_ix ix_tup (pv 0) pe_int (fun _ _ => rfl)) (pa_cons (pe_ix ix_tup (pv 1) pe_int (fun _ _ => rfl)) (pa_cons (pv 4) pa_nil))))))))))), ?_⟩
      obtain ⟨p, xs, rfl, hp⟩ := enc_tag hv
      obtain ⟨q, ys, rfl, hq⟩ := enc_tag hu
      refine ⟨_, rfl, p, _, 0, _, rfl, rfl, hp, atI_0, rfl, _, rfl, ?_⟩
      by_cases hh : ∃ x, s = .hole x
      · obtain ⟨x, rfl⟩ := hh
        rw [show decide (V.str (tagS (Tm.hole x)) = V.str (Str.ofString "hole")) = true from decide_eq_true rfl]
        refine iteT ?_
        obtain ⟨p', e, hp'⟩ := enc_hole hv
        cases e
        refine ⟨_, rfl, p, _, 1, _, rfl, rfl, hp', atI_1, _, rfl, d, _, rfl, DGet.k (k := .inr (SX.S x)) hd, _, rfl, ?_⟩
        rcases ht.val (.inr (SX.S x)) with ⟨e1, e2⟩ | ⟨g, vg, e1, e2, e3⟩
        · rw [e2]
          refine iteF ?_
          refine ⟨_, rfl, d, kvs, rfl, .inl hd, fun r hr2 => ?_⟩
          have y1 := Same.laid (.dK kvs) hr2
          refine ⟨_, rfl, _, rfl, _, rfl, p, _, 1, _, rfl, rfl, Same.sqT y1 hp', atI_1, r, _, rfl, DPut.k (k := .inr (SX.S x)) upd_same ?_, _, rfl, ?_⟩
          · rw [ht.length]
            exact Nat.lt_of_lt_of_le (show tb.length < 1000001 by omega) (by decide)
          · rw [putK_new _ e2, upd_upd]
            have y2 := Same.laid (.dK (kvs ++ [(Sum.inr (SX.S x), V.ref q)])) hr2
            exact k1 (tb ++ [(.inr (SX.S x), f)]) (by unfold matchT; rw [e1]) _ r _ y2 upd_same (TabR.snoc (Dp.same y2 _ _ hu) (ht.same y2))
        · rw [e2]
          have go := tbo _ (lookT_mem e1)
          refine iteT ⟨_, rfl, _, rfl, p, _, 1, _, rfl, rfl, hp', atI_1, d, vg, rfl, e2 ▸ DGet.k (k := .inr (SX.S x)) hd, _, rfl, enc g, enc f, e3, hu, enc_shaped go.1 go.2, enc_shaped fo f60, _, rfl, ?_⟩
          rw [enc_eqv]
          by_cases e : g = f
          · rw [decide_eq_true e]
            exact iteT ⟨_, rfl, k1 tb (by unfold matchT; rw [e1]; exact if_pos e) _ d kvs (Same.refl _) hd ht⟩
          · rw [decide_eq_false e]
            exact iteF (k0 (by unfold matchT; rw [e1]; exact if_neg e) _ (Same.refl _))
      · have hh' : ∀ x, s ≠ .hole x := fun x e => hh ⟨x, e⟩
        have th : tagS s ≠ Str.ofString "hole" := fun e => by
          rcases tag_word (wh := true) e with ⟨x, e, _⟩ | ⟨_, _, e⟩
          · exact hh' x e
          · cases e
        rw [decide_eq_false (fun e => th (by injection e))]
        refine iteF ⟨_, rfl, p, _, 0, _, rfl, rfl, hp, atI_0, _, rfl, q, _, 0, _, rfl, rfl, hq, atI_0, rfl, _, rfl, ?_⟩
        by_cases et : tagS s = tagS f
        · rw [show (!decide (V.str (tagS s) = V.str (tagS f))) = false by rw [et]; simp]
          refine iteF ⟨_, rfl, p, _, 0, _, rfl, rfl, hp, atI_0, (show 3 ≤ sizeLine by decide), fun r hr2 => ?_⟩
          have y1 := Same.laid (.tup [.str (Str.ofString "then"), .str (Str.ofString "and"), .str (Str.ofString "or")]) hr2
          refine ⟨r, _, rfl, .inr (SqT.of upd_same), rfl, rfl, _, rfl, ?_⟩
          rw [if_pos rfl, in_pairs]
          by_cases hb : isBin s = true
          · obtain ⟨o, a, b, rfl⟩ := isBin_of hb
            have hbf : isBin f = true := by
              have e1 := in_pairs (.bin o a b)
              rw [et, in_pairs f] at e1
              exact e1
            obtain ⟨o', a', b', rfl⟩ := isBin_of hbf
            have eo : o = o' := opS_inj et
            subst eo
            obtain ⟨p', xa, xb, e, hp', hxa, hxb⟩ := enc_bin hv
            cases e
            obtain ⟨q', ya, yb, e, hq', hya, hyb⟩ := enc_bin hu
            cases e
            unfold Tm.ok at so fo
            rw [Bool.and_eq_true_iff] at so fo
            have sn' : max a.deep b.deep + 1 ≤ n + 1 := sn
            have s60' : max a.deep b.deep + 1 ≤ 60 := s60
            have f60' : max a'.deep b'.deep + 1 ≤ 60 := f60
            have hlen' : tb.length + (a.lv + b.lv) ≤ 1000000 := hlen
            have em : matchT (.bin o a b) (.bin o a' b') tb = (matchT a a' tb).bind (matchT b b') := by
              conv => lhs; unfold matchT
              exact if_pos rfl
            have hp1 := Same.sqT y1 hp'
            have hq1 := Same.sqT y1 hq'
            refine iteF ⟨_, rfl, p, _, 1, _, rfl, rfl, hp1, atI_1, _, rfl, q, _, 1, _, rfl, rfl, hq1, atI_1, _, rfl, xa, ya, d, a, a', kvs, tb, rfl, Dp.same y1 _ _ hxa, Dp.same y1 _ _ hya, so.1, fo.1, tbo, by omega, by omega, by omega, y1 _ _ hd, ht.same y1, by omega, fun e0 H2 s2 => ?_, fun tb1 e1 H2 d1 kvs1 s2 hd1 ht1 => ?_⟩
            · refine ⟨_, rfl, _, rfl, ?_⟩
              exact iteT (k0 (by rw [em, e0]; rfl) _ (y1.trans s2))
            · refine ⟨_, rfl, _, rfl, ?_⟩
              have r1 := match_ok fo.1 (by omega) tbo e1
              have hp2 := Same.sqT s2 hp1
              have hq2 := Same.sqT s2 hq1
              have y2 := y1.trans s2
              refine iteF ⟨_, rfl, p, _, 2, _, rfl, rfl, hp2, atI_2, _, rfl, q, _, 2, _, rfl, rfl, hq2, atI_2, _, rfl, xb, yb, d1, b, b', kvs1, tb1, rfl, Dp.same y2 _ _ hxb, Dp.same y2 _ _ hyb, so.2, fo.2, r1.1, by omega, by omega, by omega, hd1, ht1, by have := r1.2; omega, fun e0 H3 s3 => ?_, fun tb2 e2 H3 d2 kvs2 s3 hd2 ht2 => ?_⟩
              · exact k0 (by rw [em, e1]; exact e0) _ (y2.trans s3)
              · exact k1 tb2 (by rw [em, e1]; exact e2) _ _ _ (y2.trans s3) hd2 ht2
          · have hb' : isBin s = false := by simpa using hb
            rw [hb']
            refine iteT ⟨_, rfl, _, rfl, enc s, enc f, Dp.same y1 _ _ hv, Dp.same y1 _ _ hu, enc_shaped so s60, enc_shaped fo f60, _, rfl, ?_⟩
            rw [enc_eqv]
            by_cases e : s = f
            · rw [decide_eq_true e]
              exact iteT ⟨_, rfl, k1 tb (by rw [match_leaf hh' (.inl hb')]; exact if_pos e) _ d kvs y1 (y1 _ _ hd) (ht.same y1)⟩
            · rw [decide_eq_false e]
              exact iteF (k0 (by rw [match_leaf hh' (.inl hb')]; exact if_neg e) _ y1)
        · rw [show (!decide (V.str (tagS s) = V.str (tagS f))) = true by rw [decide_eq_false (fun e => et (by injection e))]; rfl]
          refine iteT (k0 ?_ _ (Same.refl _))
          have ne : s ≠ f := fun e => et (by rw [e])
          cases s with
          | hole x => exact absurd rfl (hh' x)
          | bin o a b =>
            cases f with
            | bin o' a' b' =>
              unfold matchT
              exact if_neg (fun e => et (by subst e; rfl))
            | _ => rfl
          | _ => rw [match_leaf hh' (.inl rfl)]; exact if_neg ne

end
end Ag
namespace Ag
open PySem L2
open C8 (pss_cut tCut)
section
variable {P : Program} {w : World} {K : PySem.W.Frag} {mg : Str → Option Value} {base : Heap}
def Tm.sz : Tm → Nat
  | .bin _ a b => a.sz + b.sz + 1
  | _ => 1
/-- a stack of pairs, the top one first -/
def goL : List (Tm × Tm) → List (Key × Tm) → Option (List (Key × Tm))
  | [], tb => some tb
  | p :: L, tb => (matchT p.1 p.2 tb).bind (goL L)
def PairR (K : PySem.W.Frag) (H : Hp) (v : V) (p : Tm × Tm) : Prop := ∃ (q : Addr) (x y : V), v = .ref q ∧ SqT K H q [x, y] ∧ Dp K H x (enc p.1) ∧ Dp K H y (enc p.2)
inductive StkR (K : PySem.W.Frag) (H : Hp) : List V → List (Tm × Tm) → Prop
  | nil : StkR K H [] []
  | cons {v : V} {p : Tm × Tm} {vs : List V} {L : List (Tm × Tm)} : PairR K H v p → StkR K H vs L → StkR K H (v :: vs) (p :: L)
theorem PairR.ts {H H' : Hp} {v : V} {p : Tm × Tm} (e : TS K H H') (h : PairR K H v p) : PairR K H' v p := by
  obtain ⟨q, x, y, e1, s, a, b⟩ := h
  exact ⟨q, x, y, e1, e _ _ s, Dp.ts e _ _ (enc_tup _) a, Dp.ts e _ _ (enc_tup _) b⟩
theorem StkR.ts {H H' : Hp} (e : TS K H H') : ∀ {vs : List V} {L : List (Tm × Tm)}, StkR K H vs L → StkR K H' vs L
  | _, _, .nil => .nil
  | _, _, .cons h r => .cons (h.ts e) (StkR.ts e r)
theorem StkR.length {H : Hp} : ∀ {vs : List V} {L : List (Tm × Tm)}, StkR K H vs L → vs.length = L.length
  | _, _, .nil => rfl
  | _, _, .cons _ r => by rw [List.length_cons, List.length_cons, StkR.length r]
def pairD (p : Tm × Tm) : PyData := .tuple [enc p.1, enc p.2]
theorem PairR.dp {H : Hp} {v : V} {p : Tm × Tm} (h : PairR K H v p) : Dp K H v (pairD p) := by
  obtain ⟨q, x, y, rfl, s, a, b⟩ := h
  exact .tup s (.cons a (.cons b .nil))
theorem DpAll.append {H : Hp} : ∀ {vs ws : List V} {ds es : List PyData}, DpAll K H vs ds → DpAll K H ws es → DpAll K H (vs ++ ws) (ds ++ es)
  | _, _, _, _, .nil, h => h
  | _, _, _, _, .cons h r, h' => .cons h (DpAll.append r h')
theorem StkR.dp {H : Hp} : ∀ {vs : List V} {L : List (Tm × Tm)}, StkR K H vs L → DpAll K H vs.reverse (L.map pairD).reverse
  | _, _, .nil => .nil
  | _, _, .cons h r => by
    rw [List.map_cons, List.reverse_cons, List.reverse_cons]
    exact DpAll.append (StkR.dp r) (.cons h.dp .nil)
def PrOk (p : Tm × Tm) : Prop := p.1.ok = true ∧ p.2.ok = true ∧ p.1.deep ≤ 58 ∧ p.2.deep ≤ 58
theorem canLay_all : ∀ {ds : List PyData}, (∀ d ∈ ds, PyData.canLay0 d = true) → PyData.canLayAll0 ds = true
  | [], _ => by rw [PyData.canLayAll0]
  | d :: ds, h => by rw [PyData.canLayAll0, h d List.mem_cons_self, canLay_all fun x hx => h x (List.mem_cons_of_mem _ hx)]; rfl
theorem depth_all : ∀ {ds : List PyData} {n : Nat}, (∀ d ∈ ds, PyData.depth d ≤ n) → PyData.depthAll ds ≤ n
  | [], _, _ => by rw [PyData.depthAll]; exact Nat.zero_le _
  | d :: ds, n, h => by rw [PyData.depthAll]; exact Nat.max_le.mpr ⟨h d List.mem_cons_self, depth_all fun x hx => h x (List.mem_cons_of_mem _ hx)⟩
theorem pair_lay {p : Tm × Tm} (h : PrOk p) : PyData.canLay0 (pairD p) = true ∧ PyData.depth (pairD p) ≤ 60 := by
  unfold pairD
  constructor
  · rw [PyData.canLay0, PyData.canLayAll0, PyData.canLayAll0, PyData.canLayAll0, enc_lay h.1, enc_lay h.2.1]; rfl
  · rw [PyData.depth, PyData.depthAll, PyData.depthAll, PyData.depthAll, enc_depth, enc_depth]
    have := h.2.2
    omega
theorem stk_shaped {L : List (Tm × Tm)} (h : ∀ p ∈ L, PrOk p) : SeqAt.shaped (.list (L.map pairD).reverse) = true := by
  have hm : ∀ d ∈ (L.map pairD).reverse, PyData.canLay0 d = true ∧ PyData.depth d ≤ 60 := fun d hd => by
    obtain ⟨p, hp, rfl⟩ := List.mem_map.mp (List.mem_reverse.mp hd)
    exact pair_lay (h p hp)
  unfold SeqAt.shaped
  rw [PyData.canLay0, canLay_all fun d hd => (hm d hd).1, PyData.depth, decide_eq_true]
  · rfl
  · have := depth_all (n := 60) fun d hd => (hm d hd).2
    omega
theorem nil_shaped : SeqAt.shaped (.list []) = true := by
  unfold SeqAt.shaped
  rw [PyData.canLay0, PyData.canLayAll0, PyData.depth, PyData.depthAll]; rfl
theorem eqv_lnil (ds : List PyData) : PyData.eqv (.list ds) (.list []) = ds.isEmpty := by
  rw [PyData.eqv]
  cases ds with
  | nil => rw [PyData.eqvAll]; rfl
  | cons d ds => rw [PyData.eqvAll]; rfl
def szL (L : List (Tm × Tm)) : Nat := (L.map fun p => p.1.sz).sum
def lvL (L : List (Tm × Tm)) : Nat := (L.map fun p => p.1.lv).sum
theorem lv_le_sz : ∀ t : Tm, t.lv ≤ t.sz
  | .bin _ a b => by have := lv_le_sz a; have := lv_le_sz b; unfold Tm.lv Tm.sz; omega
  | .atom _ => Nat.le_refl _
  | .fls => Nat.le_refl _
  | .hole _ => Nat.le_refl _
  | .part _ => Nat.le_refl _
theorem len_szL : ∀ L : List (Tm × Tm), L.length ≤ szL L
  | [] => Nat.le_refl _
  | p :: L => by
    have := len_szL L
    have := lv_le_sz p.1
    have := p.1.lv_pos
    show L.length + 1 ≤ p.1.sz + szL L
    omega
def spHoles (K : PySem.W.Frag) : Sp := fun vs H Q _ => ∃ (v u : V) (s f : Tm),
  vs = [v, u] ∧ Dp K H v (enc s) ∧ Dp K H u (enc f) ∧ PrOk (s, f) ∧ s.sz ≤ 100000 ∧
  (matchT s f [] = none → ∀ H', Same H H' → Q .non H') ∧ ∀ tb', matchT s f [] = some tb' → ∀ (H' : Hp) (d' : Addr) (kvs' : List (Key × V)), Same H H' → H d' = none → H' d' = some (.dK kvs') → TabR K H' kvs' tb' → Q (.ref d') H'
theorem ok_holes (T : Txt K mg) : FnOk P w K mg base CX0 1 T.f_holes_of T.fd_holes_of ["shape", "formula"] (spHoles K) := by
  refine T.F_holes_of.ok sc_holes_of (fun vs H Q E h => ?_) (fun cdv A outer s0 H vs Q E hr h => ?_)
  · obtain ⟨v, u, s, f, rfl, _⟩ := h
    rfl
  · obtain ⟨v, u, s, f, rfl, hv, hu, hok, hsz, k0, k1⟩ := h
    refine ⟨_, (pss_cons (ps_par (i := 2) (j := 3) rfl sc_holes_of.nd rfl rfl (by decide) rfl rfl (pa_cons pe_dnewK (pa_cons (pe_lst (pa_cons (pe_tup (pa_cons (pv 0) (pa_cons (pv 1) pa_nil))) pa_nil)) pa_nil)) rfl)
      (pss_cons (ps_while PassesOwn.never (pt_cmpR (op_neD (hu64 hr)) (pv 3) (pe_lst pa_nil) (nomark _)) (pss_cons (ps_asg (pe_bm0 PySem.F.plainAttrs_list PySem.F.slot_list_pop PySem.F.type_list_pop mt_pop (pv 3)) (pg_tup rfl (pgs_cons (pg_name (i := 4) sc_holes_of.nd rfl (Or.inl rfl)) (pgs_cons (pg_name (i := 5) sc_holes_of.nd rfl (Or.inl rfl)) pgs_nil))))
      (pss_one (ps_if (pt_cmpR op_eq (pe_ix ix_tup (pv 4) pe_int (fun _ _ => rfl)) pe_str (nomark _)) (pss_one (ps_if (pt_cmpR (op_neD (hu64 hr)) (pe_dsetd (pv 2) (pe_ix ix_tup (pv 4) pe_int (fun _ _ => rfl)) (pv 5) ⟨rfl, rfl, rfl, rfl⟩) (pv 5) (nomark _)) (pss_one (ps_ret pe_non)) pss_nil)) (pss_one (ps_if (PW.pt (pw_and (pt_cmpR op_in_seq (pe_ix ix_tup (pv 4) pe_int (fun _ _ => rfl)) (pe_glob (v := .ref T.a_PAIRS) rfl T.g_PAIRS rfl) (by rfl)) (pw_and1 (pt_cmpR op_eq (pe_ix ix_tup (pv 4) pe_int (fun _ _ => rfl)) (pe_ix ix_tup (pv 5) pe_int (fun _ _ => rfl)) (nomark _))))) (pss_one (ps_expr (pe_bm PySem.F.plainAttrs_list PySem.F.slot_list_extend PySem.F.type_list_extend mt_extend (pv 3) (pa_cons (pe_lst (pa_cons (pe_tup (pa_cons (pe_ix ix_tup (pv 4) pe_int (fun _ _ => rfl)) (pa_cons (pe_ix ix_tup (pv 5) pe_int (fun _ _ => rfl)) pa_nil))) (pa_cons (pe_tup (pa_cons (pe_ix ix_tup (pv 4) pe_int (fun _ _ => rfl)) (pa_cons (pe_ix ix_tup (pv 5) pe_int (fun _ _ => rfl)) pa_nil))) pa_nil))) pa_nil)))) (pss_one (ps_if (pt_cmpR (op_neD (hu64 hr)) (pv 4) (pv 5) (nomark _)) (pss_one (ps_ret pe_non)) pss_nil))))))))
      (pss_one (ps_ret (pv 2))))), ?_⟩
    refine fun td htd => ⟨_, rfl, _, rfl, (show 2 ≤ sizeLine by decide), fun tp htp => ⟨(show 1 ≤ sizeLine by decide), fun wl hwl => ⟨_, _, rfl, ?_⟩⟩⟩
    have y1 := Same.laid (.dK []) htd
    have y2 := Same.laid (.tup [v, u]) htp
    have y3 := Same.laid (.lst [.ref tp]) hwl
    have y := (y1.trans y2).trans y3
    have ntw : td ≠ wl := ne_of_none (y2 _ _ upd_same) hwl
    have nwH : H wl = none := (y1.trans y2).free hwl
    have hokL : ∀ p ∈ [(s, f)], PrOk p := fun p hp => by rw [List.mem_singleton.mp hp]; exact hok
    refine ⟨fun m σ H' => ∃ (L : List (Tm × Tm)) (tb : List (Key × Tm)) (kvs : List (Key × V)) (ws : List V) (o1 o2 : Option V), m = szL L ∧ σ = [some v, some u, some (.ref td), some (.ref wl), o1, o2] ∧ Same H H' ∧ H' td = some (.dK kvs) ∧ TabR K H' kvs tb ∧ H' wl = some (.lst ws.reverse) ∧ StkR K H' ws L ∧ (∀ p ∈ L, PrOk p) ∧ TbOk tb ∧ tb.length + lvL L ≤ 100000 ∧ L.length ≤ szL L ∧ szL L ≤ 100000 ∧ goL L tb = matchT s f [], ?_, ?_⟩
    · refine ⟨szL [(s, f)], [(s, f)], [], [], [.ref tp], none, none, rfl, rfl, y, ?_, .nil, upd_same, .cons ⟨tp, v, u, rfl, SqT.of (y3 _ _ upd_same), Dp.same y _ _ hv, Dp.same y _ _ hu⟩ .nil, hokL, (fun p hp => nomatch hp), ?_, ?_, ?_, ?_⟩
      · exact y3 _ _ (y2 _ _ upd_same)
      · show 0 + (s.lv + 0) ≤ 100000
        have := lv_le_sz s
        omega
      · show 1 ≤ s.sz + 0
        have := lv_le_sz s
        have := s.lv_pos
        omega
      · show s.sz + 0 ≤ 100000
        omega
      · show (matchT s f []).bind (fun tb => some tb) = _
        cases matchT s f [] <;> rfl
    · rintro m σ H1 ⟨L, tb, kvs, ws, o1, o2, rfl, rfl, s1, htd1, htb, hwl1, hstk, hL, htbo, hlv, hlen, hsz1, hgo⟩
      refine ⟨_, rfl, Nat.zero_le _, fun q hq => ?_⟩
      have yq := Same.laid (.lst []) hq
      refine ⟨_, _, Dp.same yq _ _ (.lst (SqL.of hwl1) hstk.dp), .lst (SqL.of upd_same) .nil, stk_shaped hL, nil_shaped, _, rfl, ?_⟩
      rw [eqv_lnil]
      have nqt : q ≠ td := (ne_of_none htd1 hq).symm
      have nqw : q ≠ wl := (ne_of_none hwl1 hq).symm
      have e1 : TS K H1 (upd H1 q (.lst [])) := TS.laid _ hq
      have s2 := s1.trans yq
      have htd2 := yq _ _ htd1
      have hwl2 := yq _ _ hwl1
      have htb2 := htb.ts e1
      have hstk2 := hstk.ts e1
      generalize upd H1 q (.lst []) = H2 at s2 htd2 hwl2 htb2 hstk2 ⊢
      clear hstk htb hwl1 htd1 s1 hq yq e1 nqt nqw
      cases hstk2 with
      | nil =>
        refine iteF ⟨_, rfl, ?_⟩
        exact k1 tb (by rw [← hgo]; rfl) _ td kvs s2 htd htd2 htb2
      | @cons w p ws' L' hw hstk3 =>
        have hne : ((L'.map pairD).reverse ++ [pairD p]).isEmpty = false := by simp
        rw [show ((p :: L').map pairD).reverse = (L'.map pairD).reverse ++ [pairD p] by simp, hne]
        obtain ⟨tq, x, y0, rfl, hq2, hx, hy⟩ := hw
        have hpk := hL p List.mem_cons_self
        refine iteT ⟨fun σ' H' => ∃ m', m' < szL (p :: L') ∧ ∃ (L : List (Tm × Tm)) (tb : List (Key × Tm)) (kvs : List (Key × V)) (ws : List V) (o1 o2 : Option V), m' = szL L ∧ σ' = [some v, some u, some (.ref td), some (.ref wl), o1, o2] ∧ Same H H' ∧ H' td = some (.dK kvs) ∧ TabR K H' kvs tb ∧ H' wl = some (.lst ws.reverse) ∧ StkR K H' ws L ∧ (∀ p ∈ L, PrOk p) ∧ TbOk tb ∧ tb.length + lvL L ≤ 100000 ∧ L.length ≤ szL L ∧ szL L ≤ 100000 ∧ goL L tb = matchT s f [], fun _ _ h => h, ?_⟩
        obtain ⟨sp, fp⟩ := p
        obtain ⟨so, fo, sd, fd⟩ := hpk
        dsimp only at hx hy so fo sd fd
        have e3 : TS K H2 (upd H2 wl (.lst ws'.reverse)) := TS.lst _ hwl2
        have hlast : ((V.ref tq :: ws').reverse)[(V.ref tq :: ws').reverse.length - 1]? = some (.ref tq) := by simp
        refine ⟨_, rfl, .inl ⟨rfl, _, SqL.of hwl2⟩, wl, _, .ref tq, rfl, rfl, hwl2, hlast, tq, [x, y0], rfl, ?_, rfl, x, [y0], rfl, y0, [], rfl, rfl, ?_⟩
        · rw [show ((V.ref tq :: ws').reverse).dropLast = ws'.reverse by simp]
          exact e3 _ _ hq2
        rw [show ((V.ref tq :: ws').reverse).dropLast = ws'.reverse by simp]
        have s3 : Same H (upd H2 wl (.lst ws'.reverse)) := Same.fresh _ s2 nwH
        have htd3 : upd H2 wl (.lst ws'.reverse) td = some (.dK kvs) := by rw [upd_ne ntw]; exact htd2
        have hwl3 : upd H2 wl (.lst ws'.reverse) wl = some (.lst ws'.reverse) := upd_same
        have htb3 := htb2.ts e3
        have hstk4 := hstk3.ts e3
        have hx3 := Dp.ts e3 _ _ (enc_tup _) hx
        have hy3 := Dp.ts e3 _ _ (enc_tup _) hy
        generalize upd H2 wl (.lst ws'.reverse) = H3 at s3 htd3 hwl3 htb3 hstk4 hx3 hy3 ⊢
        clear hstk3 htb2 hwl2 htd2 s2 e3 hx hy hq2
        have hL' : ∀ p ∈ L', PrOk p := fun p hp => hL p (List.mem_cons_of_mem _ hp)
        have hszc : szL ((sp, fp) :: L') = sp.sz + szL L' := rfl
        have hlvc : lvL ((sp, fp) :: L') = sp.lv + lvL L' := rfl
        have hgo' : (matchT sp fp tb).bind (goL L') = matchT s f [] := hgo
        have sz1 := lv_le_sz sp
        have lv1 := sp.lv_pos
        have hlen' : L'.length + 1 ≤ szL ((sp, fp) :: L') := hlen
        have hlenL : L'.length ≤ szL L' := len_szL L'
        obtain ⟨px, xs, rfl, hpx⟩ := enc_tag hx3
        obtain ⟨py, ys, rfl, hpy⟩ := enc_tag hy3
        refine ⟨_, rfl, px, _, 0, _, rfl, rfl, hpx, atI_0, rfl, _, rfl, ?_⟩
        by_cases hh : ∃ z, sp = .hole z
        · obtain ⟨z, rfl⟩ := hh
          rw [show decide (V.str (tagS (Tm.hole z)) = V.str (Str.ofString "hole")) = true from decide_eq_true rfl]
          obtain ⟨p', e, hp'⟩ := enc_hole hx3
          cases e
          refine iteT ⟨_, rfl, td, rfl, .inl ⟨_, .inl htd3⟩, _, rfl, px, _, 1, _, rfl, rfl, hp', atI_1, _, rfl, kvs, .inr (SX.S z), htd3, rfl, ?_, fun vg e2 => ?_, fun e2 => ?_⟩
          · rw [htb3.length]
            exact Nat.lt_of_lt_of_le (show tb.length < 100001 by omega) (by decide)
          · rcases htb3.val (.inr (SX.S z)) with ⟨_, e4⟩ | ⟨g, vg', e1, e4, e5⟩
            · rw [e4] at e2; cases e2
            · rw [e4] at e2
              injection e2 with e2
              subst e2
              have go := htbo _ (lookT_mem e1)
              refine ⟨_, rfl, enc g, enc fp, e5, hy3, enc_shaped go.1 go.2, enc_shaped fo (by omega), _, rfl, ?_⟩
              rw [enc_eqv]
              by_cases e : g = fp
              · rw [decide_eq_true e]
                refine iteF ⟨szL L', by rw [hszc]; omega, L', tb, kvs, ws', _, _, rfl, rfl, s3, htd3, htb3, hwl3, hstk4, hL', htbo, by omega, hlenL, by omega, ?_⟩
                rw [← hgo']
                unfold matchT
                rw [e1]
                show _ = (if g = fp then some tb else none).bind _
                rw [if_pos e]; rfl
              · rw [decide_eq_false e]
                refine iteT (k0 ?_ _ s3)
                rw [← hgo']
                unfold matchT
                rw [e1]
                show (if g = fp then some tb else none).bind _ = _
                rw [if_neg e]; rfl
          · rcases htb3.val (.inr (SX.S z)) with ⟨e1, _⟩ | ⟨g, vg', _, e4, _⟩
            · rw [putK_new _ e2]
              have e6 : TS K H3 (upd H3 td (.dK (kvs ++ [(Sum.inr (SX.S z), V.ref py)]))) := TS.dct _ htd3
              have hy6 := Dp.ts e6 _ _ (enc_tup _) hy3
              refine ⟨_, rfl, enc fp, enc fp, hy6, hy6, enc_shaped fo (by omega), enc_shaped fo (by omega), _, rfl, ?_⟩
              rw [enc_eqv, decide_eq_true rfl]
              refine iteF ⟨szL L', by rw [hszc]; omega, L', tb ++ [(.inr (SX.S z), fp)], _, ws', _, _, rfl, rfl, Same.fresh _ s3 htd, upd_same, TabR.snoc hy6 (htb3.ts e6), ?_, hstk4.ts e6, hL', htbo.snoc fo (by omega), ?_, hlenL, by omega, ?_⟩
              · rw [upd_ne ntw.symm]; exact hwl3
              · rw [List.length_append]
                show tb.length + 1 + _ ≤ _
                omega
              · rw [← hgo']
                unfold matchT
                rw [e1]
                rfl
            · rw [e4] at e2; cases e2
        · have hh' : ∀ z, sp ≠ .hole z := fun z e => hh ⟨z, e⟩
          have th : tagS sp ≠ Str.ofString "hole" := fun e => by
            rcases tag_word (wh := true) e with ⟨z, e, _⟩ | ⟨_, _, e⟩
            · exact hh' z e
            · cases e
          rw [decide_eq_false (fun e => th (by injection e))]
          refine iteF ⟨_, rfl, px, _, 0, _, rfl, rfl, hpx, atI_0, T.a_PAIRS, _, rfl, .inr (T.q_PAIRS _), rfl, rfl, _, rfl, ?_⟩
          rw [if_neg Bool.false_ne_true, in_pairs]
          have cs : (isBin sp = true ∧ tagS sp = tagS fp) ∨ (isBin sp = true ∧ ¬ tagS sp = tagS fp) ∨ isBin sp = false := by
            by_cases h1 : isBin sp = true
            · by_cases h2 : tagS sp = tagS fp
              · exact .inl ⟨h1, h2⟩
              · exact .inr (.inl ⟨h1, h2⟩)
            · exact .inr (.inr (by simpa using h1))
          rcases cs with ⟨hb, et⟩ | h | h
          · rw [hb]
            refine iteT ⟨_, rfl, px, _, 0, _, rfl, rfl, hpx, atI_0, _, rfl, py, _, 0, _, rfl, rfl, hpy, atI_0, rfl, _, rfl, ?_⟩
            rw [show decide (V.str (tagS sp) = V.str (tagS fp)) = true from decide_eq_true (by rw [et])]
            refine iteT ?_
            obtain ⟨o, a, b, rfl⟩ := isBin_of hb
            have hbf : isBin fp = true := by
              have q1 := in_pairs (.bin o a b)
              rw [et, in_pairs fp] at q1
              exact q1
            obtain ⟨o', a', b', rfl⟩ := isBin_of hbf
            have eo : o = o' := opS_inj et
            subst eo
            obtain ⟨p', xa, xb, e, hp', hxa, hxb⟩ := enc_bin hx3
            cases e
            obtain ⟨q', ya, yb, e, hq', hya, hyb⟩ := enc_bin hy3
            cases e
            unfold Tm.ok at so fo
            rw [Bool.and_eq_true_iff] at so fo
            have sd' : max a.deep b.deep + 1 ≤ 58 := sd
            have fd' : max a'.deep b'.deep + 1 ≤ 58 := fd
            have hsz3 : szL ((Tm.bin o a b, Tm.bin o a' b') :: L') = a.sz + b.sz + 1 + szL L' := rfl
            have hlv3 : lvL ((Tm.bin o a b, Tm.bin o a' b') :: L') = a.lv + b.lv + lvL L' := rfl
            refine ⟨_, rfl, .inl ⟨rfl, _, SqL.of hwl3⟩, _, rfl, px, _, 2, _, rfl, rfl, hp', atI_2, _, rfl, py, _, 2, _, rfl, rfl, hq', atI_2, (show 2 ≤ sizeLine by decide), fun t1 ht1 => ?_⟩
            have z1 := Same.laid (.tup [xb, yb]) ht1
            refine ⟨_, rfl, px, _, 1, _, rfl, rfl, Same.sqT z1 hp', atI_1, _, rfl, py, _, 1, _, rfl, rfl, Same.sqT z1 hq', atI_1, (show 2 ≤ sizeLine by decide), fun t2 ht2 => ⟨(show 2 ≤ sizeLine by decide), fun l2 hl2 => ?_⟩⟩
            have z2 := Same.laid (.tup [xa, ya]) ht2
            have z3 := Same.laid (.lst [.ref t1, .ref t2]) hl2
            have z := (z1.trans z2).trans z3
            have hwl4 := z _ _ hwl3
            have htd4 := z _ _ htd3
            have s4 := s3.trans z
            have htb4 := htb3.same z
            have hstk5 := hstk4.ts (TS.same z)
            have hxa4 := Dp.same z _ _ hxa
            have hxb4 := Dp.same z _ _ hxb
            have hya4 := Dp.same z _ _ hya
            have hyb4 := Dp.same z _ _ hyb
            have ht14 : SqT K (upd (upd (upd H3 t1 (.tup [xb, yb])) t2 (.tup [xa, ya])) l2 (.lst [.ref t1, .ref t2])) t1 [xb, yb] := SqT.of (z3 _ _ (z2 _ _ upd_same))
            have ht24 : SqT K (upd (upd (upd H3 t1 (.tup [xb, yb])) t2 (.tup [xa, ya])) l2 (.lst [.ref t1, .ref t2])) t2 [xa, ya] := SqT.of (z3 _ _ upd_same)
            have hl24 : (upd (upd (upd H3 t1 (.tup [xb, yb])) t2 (.tup [xa, ya])) l2 (.lst [.ref t1, .ref t2])) l2 = some (.lst [.ref t1, .ref t2]) := upd_same
            generalize upd (upd (upd H3 t1 (.tup [xb, yb])) t2 (.tup [xa, ya])) l2 (.lst [.ref t1, .ref t2]) = H4 at hwl4 htd4 s4 htb4 hstk5 hxa4 hxb4 hya4 hyb4 ht14 ht24 hl24 ⊢
            refine ⟨wl, l2, _, _, rfl, rfl, hwl4, hl24, ?_, ?_⟩
            · rw [List.length_reverse, hstk5.length]
              exact Nat.le_trans (show L'.length + 2 ≤ 100002 by omega) (by decide)
            have e7 : TS K H4 (upd H4 wl (.lst (ws'.reverse ++ [.ref t1, .ref t2]))) := TS.lst _ hwl4
            refine ⟨a.sz + (b.sz + szL L'), by rw [hsz3]; omega, (a, a') :: (b, b') :: L', tb, kvs, .ref t2 :: .ref t1 :: ws', _, _, rfl, rfl, Same.fresh _ s4 nwH, ?_, htb4.ts e7, ?_, ?_, ?_, htbo, ?_, len_szL _, ?_, ?_⟩
            · rw [upd_ne ntw]; exact htd4
            · rw [upd_same]; simp
            · exact .cons (PairR.ts e7 ⟨t2, xa, ya, rfl, ht24, hxa4, hya4⟩) (.cons (PairR.ts e7 ⟨t1, xb, yb, rfl, ht14, hxb4, hyb4⟩) (hstk5.ts e7))
            · intro p hp
              rcases List.mem_cons.mp hp with rfl | hp
              · exact ⟨so.1, fo.1, by dsimp only; omega, by dsimp only; omega⟩
              · rcases List.mem_cons.mp hp with rfl | hp
                · exact ⟨so.2, fo.2, by dsimp only; omega, by dsimp only; omega⟩
                · exact hL' p hp
            · show tb.length + (a.lv + (b.lv + lvL L')) ≤ _
              omega
            · show a.sz + (b.sz + szL L') ≤ _
              omega
            · rw [← hgo']
              have em : matchT (.bin o a b) (.bin o a' b') tb = (matchT a a' tb).bind (matchT b b') := by
                conv => lhs; unfold matchT
                exact if_pos rfl
              rw [em]
              show (matchT a a' tb).bind (fun tb => (matchT b b' tb).bind (goL L')) = ((matchT a a' tb).bind (matchT b b')).bind (goL L')
              cases matchT a a' tb <;> rfl
          all_goals
            have eml : matchT sp fp tb = if sp = fp then some tb else none := by
              first
                | exact match_leaf hh' (.inl h)
                | (cases sp with
                   | hole z => exact absurd rfl (hh' z)
                   | bin o a b =>
                     cases fp with
                     | bin o' a' b' =>
                       have no : ¬ o = o' := fun e => h.2 (by subst e; rfl)
                       rw [if_neg (fun e => no (by injection e))]
                       unfold matchT
                       exact if_neg no
                     | _ => rfl
                   | _ => exact absurd h.1 Bool.false_ne_true)
            first
              | (rw [h]; refine iteF (iteF ?_))
              | (rw [h.1]
                 refine iteT ⟨_, rfl, px, _, 0, _, rfl, rfl, hpx, atI_0, _, rfl, py, _, 0, _, rfl, rfl, hpy, atI_0, rfl, _, rfl, ?_⟩
                 rw [show decide (V.str (tagS sp) = V.str (tagS fp)) = false from decide_eq_false (fun e => h.2 (by injection e))]
                 refine iteF ?_)
            refine ⟨_, rfl, _, rfl, enc sp, enc fp, hx3, hy3, enc_shaped so (by omega), enc_shaped fo (by omega), _, rfl, ?_⟩
            rw [enc_eqv]
            by_cases e : sp = fp
            · rw [decide_eq_true e]
              refine iteF ⟨szL L', by rw [hszc]; omega, L', tb, kvs, ws', _, _, rfl, rfl, s3, htd3, htb3, hwl3, hstk4, hL', htbo, by omega, hlenL, by omega, ?_⟩
              rw [← hgo', eml, if_pos e]; rfl
            · rw [decide_eq_false e]
              refine iteT (k0 ?_ _ s3)
              rw [← hgo', eml, if_neg e]; rfl

end
end Ag
namespace Ag
open PySem L2
open C8 (pss_cut tCut)
section
variable {P : Program} {w : World} {K : PySem.W.Frag} {mg : Str → Option Value} {base : Heap}
/-! a shape that a term is of, filled again -/
def TbExt (tb tb' : List (Key × Tm)) : Prop := ∀ k t, lookT tb k = some t → lookT tb' k = some t
theorem lookT_snoc {tb : List (Key × Tm)} {k : Key} {t : Tm} (h : lookT tb k = none) : lookT (tb ++ [(k, t)]) k = some t := by
  induction tb with
  | nil => exact lookT_pos rfl
  | cons p r ih =>
    by_cases e : p.1 = k
    · rw [lookT_pos e] at h; cases h
    · rw [lookT_neg e] at h
      rw [List.cons_append, lookT_neg e]
      exact ih h
theorem TbExt.snoc (tb : List (Key × Tm)) (k : Key) (t : Tm) : TbExt tb (tb ++ [(k, t)]) := fun k' t' h => by
  induction tb with
  | nil => cases h
  | cons p r ih =>
    by_cases e : p.1 = k'
    · rw [lookT_pos e] at h
      rw [List.cons_append, lookT_pos e]
      exact h
    · rw [lookT_neg e] at h
      rw [List.cons_append, lookT_neg e]
      exact ih h
theorem match_put : ∀ {s f : Tm} {tb tb' : List (Key × Tm)}, matchT s f tb = some tb' → TbExt tb tb' ∧ ∀ tb'', TbExt tb' tb'' → s.put tb'' true = f
  | .hole x, f, tb, tb', e => by
    unfold matchT at e
    cases q : lookT tb (.inr (SX.S x)) with
    | some g =>
      rw [q] at e
      dsimp only at e
      split at e
      · rename_i eg
        injection e with e
        subst e
        refine ⟨fun _ _ h => h, fun tb'' h => ?_⟩
        show (if true = true then (lookT tb'' (.inr (SX.S x))).getD _ else _) = f
        rw [if_pos rfl, h _ _ q]
        exact eg
      · cases e
    | none =>
      rw [q] at e
      dsimp only at e
      injection e with e
      subst e
      refine ⟨TbExt.snoc _ _ _, fun tb'' h => ?_⟩
      show (if true = true then (lookT tb'' (.inr (SX.S x))).getD _ else _) = f
      rw [if_pos rfl, h _ _ (lookT_snoc q)]; rfl
  | .bin o1 a b, .bin o2 a' b', tb, tb', e => by
    unfold matchT at e
    split at e
    · rename_i eo
      cases q : matchT a a' tb with
      | none => rw [q] at e; cases e
      | some tb1 =>
        rw [q] at e
        have r1 := match_put q
        have r2 := match_put (s := b) (f := b') (tb := tb1) (tb' := tb') e
        refine ⟨fun k t h => r2.1 _ _ (r1.1 _ _ h), fun tb'' h => ?_⟩
        show Tm.bin o1 (a.put tb'' true) (b.put tb'' true) = _
        rw [r1.2 tb'' (fun k t h' => h _ _ (r2.1 _ _ h')), r2.2 tb'' h, eo]
    · cases e
  | .bin o1 a b, .atom _, tb, tb', e => by cases e
  | .bin o1 a b, .fls, tb, tb', e => by cases e
  | .bin o1 a b, .hole _, tb, tb', e => by cases e
  | .bin o1 a b, .part _, tb, tb', e => by cases e
  | .atom x, f, tb, tb', e => by
    rw [match_leaf (by intro _ q; cases q) (.inl rfl)] at e
    split at e
    · rename_i ef
      injection e with e; subst e; exact ⟨fun _ _ h => h, fun _ _ => ef⟩
    · cases e
  | .fls, f, tb, tb', e => by
    rw [match_leaf (by intro _ q; cases q) (.inl rfl)] at e
    split at e
    · rename_i ef
      injection e with e; subst e; exact ⟨fun _ _ h => h, fun _ _ => ef⟩
    · cases e
  | .part x, f, tb, tb', e => by
    rw [match_leaf (by intro _ q; cases q) (.inl rfl)] at e
    split at e
    · rename_i ef
      injection e with e; subst e; exact ⟨fun _ _ h => h, fun _ _ => by show (if true = true then _ else _) = f; rw [if_pos rfl]; exact ef⟩
    · cases e
theorem match_self : ∀ {f : Tm} {tb : List (Key × Tm)}, f.isF = true → matchT f f tb = some tb
  | .atom _, _, _ => by rw [match_leaf (by intro _ q; cases q) (.inl rfl)]; exact if_pos rfl
  | .fls, _, _ => by rw [match_leaf (by intro _ q; cases q) (.inl rfl)]; exact if_pos rfl
  | .hole _, _, h => by cases h
  | .part _, _, h => by cases h
  | .bin o a b, tb, h => by
    unfold Tm.isF at h
    rw [Bool.and_eq_true_iff] at h
    unfold matchT
    rw [if_pos rfl, match_self h.1]
    exact match_self h.2
/-- the table has a formula for each letter -/
def Tb3 (A : List Nat → Prop) (tb : List (Key × Tm)) : Prop := ∀ s, abc3 s → ∃ g, lookT tb (.inr (SX.S s)) = some g ∧ g.isF = true ∧ g.ats A ∧ g.deep ≤ 2
theorem put_isF {A : List Nat → Prop} {tb : List (Key × Tm)} (h : Tb3 A tb) : ∀ {t : Tm}, t.sh A abc3 → (t.put tb true).isF = true ∧ (t.put tb true).ats A ∧ (t.put tb true).deep ≤ t.deep + 1
  | .atom _, q => ⟨rfl, q, Nat.le_succ _⟩
  | .fls, _ => ⟨rfl, trivial, Nat.le_succ _⟩
  | .hole s, q => by
    obtain ⟨g, e, g1, g2, g3⟩ := h s q
    have e1 : (Tm.hole s).put tb true = g := by
      show (if true = true then (lookT tb (.inr (SX.S s))).getD _ else _) = g
      rw [if_pos rfl, e]; rfl
    rw [e1]
    exact ⟨g1, g2, g3⟩
  | .part _, q => q.elim
  | .bin o a b, q => by
    obtain ⟨a1, a2, a3⟩ := put_isF h q.1
    obtain ⟨b1, b2, b3⟩ := put_isF h q.2
    refine ⟨?_, ⟨a2, b2⟩, ?_⟩
    · show ((a.put tb true).isF && (b.put tb true).isF) = true
      rw [a1, b1]; rfl
    · show max (a.put tb true).deep (b.put tb true).deep + 1 ≤ max a.deep b.deep + 1 + 1
      omega
theorem ok_ats {A : List Nat → Prop} (hA : ∀ s, A s → okS s = true) : ∀ {t : Tm}, t.isF = true → t.ats A → t.ok = true
  | .atom s, _, h => hA s h
  | .fls, _, _ => rfl
  | .hole _, h, _ => by cases h
  | .part _, h, _ => by cases h
  | .bin o a b, h, g => by
    unfold Tm.isF at h
    rw [Bool.and_eq_true_iff] at h
    show (a.ok && b.ok) = true
    rw [ok_ats hA h.1 g.1, ok_ats hA h.2 g.2]; rfl
theorem ok_sh {A : List Nat → Prop} (hA : ∀ s, A s → okS s = true) : ∀ {t : Tm}, t.sh A abc3 → t.ok = true
  | .atom s, h => hA s h
  | .fls, _ => rfl
  | .hole s, h => by rcases h with rfl | rfl | rfl <;> rfl
  | .part _, h => h.elim
  | .bin o a b, g => by
    show (a.ok && b.ok) = true
    rw [ok_sh hA g.1, ok_sh hA g.2]; rfl
theorem sz_deep : ∀ t : Tm, t.sz + 1 ≤ 2 ^ t.deep
  | .atom _ => Nat.le_refl _
  | .fls => Nat.le_refl _
  | .hole _ => Nat.le_refl _
  | .part _ => Nat.le_refl _
  | .bin o a b => by
    have h1 := sz_deep a
    have h2 := sz_deep b
    have h3 : 2 ^ a.deep ≤ 2 ^ max a.deep b.deep := Nat.pow_le_pow_right (by decide) (Nat.le_max_left _ _)
    have h4 : 2 ^ b.deep ≤ 2 ^ max a.deep b.deep := Nat.pow_le_pow_right (by decide) (Nat.le_max_right _ _)
    show a.sz + b.sz + 1 + 1 ≤ 2 ^ (max a.deep b.deep + 1)
    rw [Nat.pow_succ]
    omega
theorem sz_small {t : Tm} (h : t.deep ≤ 10) : t.sz ≤ 1024 := by
  have h1 := sz_deep t
  have h2 : 2 ^ t.deep ≤ 2 ^ 10 := Nat.pow_le_pow_right (by decide) h
  have h3 : 2 ^ 10 = 1024 := by decide
  omega
def keys3 : List Key := [.inr (Str.ofString "a"), .inr (Str.ofString "b"), .inr (Str.ofString "c")]
theorem keys3_at {j : Nat} {x : V} (h : ([.str (Str.ofString "a"), .str (Str.ofString "b"), .str (Str.ofString "c")] : List V)[j]? = some x) : ∃ kj : Str, x = .str kj ∧ keys3[j]? = some (.inr kj) := by
  match j, h with
  | 0, h => cases h; exact ⟨_, rfl, rfl⟩
  | 1, h => cases h; exact ⟨_, rfl, rfl⟩
  | 2, h => cases h; exact ⟨_, rfl, rfl⟩
theorem keys3_new {j : Nat} {k : Key} (h : keys3[j]? = some k) : k ∉ keys3.take j := by
  match j, h with
  | 0, h => simp
  | 1, h =>
    cases h
    intro q
    have q1 := List.mem_singleton.mp q
    injection q1 with q1
    exact absurd q1 (by decide +kernel)
  | 2, h =>
    cases h
    intro q
    rcases List.mem_cons.mp q with q1 | q
    · injection q1 with q1
      exact absurd q1 (by decide +kernel)
    · have q1 := List.mem_singleton.mp q
      injection q1 with q1
      exact absurd q1 (by decide +kernel)
theorem keys3_succ {j : Nat} {k : Key} (h : keys3[j]? = some k) : keys3.take j ++ [k] = keys3.take (j + 1) := by
  rw [List.take_succ, h]; rfl
theorem lookT_none {tb : List (Key × Tm)} {k : Key} (h : k ∉ tb.map (·.1)) : lookT tb k = none := by
  cases q : lookT tb k with
  | none => rfl
  | some t => exact absurd (List.mem_map.mpr ⟨_, lookT_mem q, rfl⟩) h
theorem lookT_some {tb : List (Key × Tm)} {k : Key} (h : k ∈ tb.map (·.1)) : ∃ t, lookT tb k = some t := by
  induction tb with
  | nil => cases h
  | cons p r ih =>
    by_cases e : p.1 = k
    · exact ⟨_, lookT_pos e⟩
    · rw [lookT_neg e]
      rcases List.mem_cons.mp h with q | q
      · exact absurd q.symm e
      · exact ih q
theorem tb3_of {A : List Nat → Prop} {tb : List (Key × Tm)} (h : tb.map (·.1) = keys3.take 3) (hg : ∀ p ∈ tb, p.2.isF = true ∧ p.2.ats A ∧ p.2.deep ≤ 2) : Tb3 A tb := by
  intro s hs
  have hm : (Sum.inr (SX.S s) : Key) ∈ tb.map (·.1) := by
    rw [h]
    have ea : Str.ofString "a" = SX.S [97] := by decide +kernel
    have eb : Str.ofString "b" = SX.S [98] := by decide +kernel
    have ec : Str.ofString "c" = SX.S [99] := by decide +kernel
    unfold keys3
    rw [ea, eb, ec]
    rcases hs with rfl | rfl | rfl <;> simp
  obtain ⟨t, ht⟩ := lookT_some hm
  have := hg _ (lookT_mem ht)
  exact ⟨t, ht, this⟩
/-- what the law's own walk has told: None, or a dict -/
def DueR (K : PySem.W.Frag) (H : Hp) (s f : Tm) (v : V) : Prop := (matchT s f [] = none ∧ v = .non) ∨ ∃ (tb : List (Key × Tm)) (d : Addr) (kvs : List (Key × V)), matchT s f [] = some tb ∧ v = .ref d ∧ H d = some (.dK kvs) ∧ TabR K H kvs tb
theorem DueR.same {H H' : Hp} {st ft : Tm} {v : V} (s : Same H H') (h : DueR K H st ft v) : DueR K H' st ft v := by
  rcases h with h | ⟨tb, d, kvs, e1, e2, e3, e4⟩
  · exact .inl h
  · exact .inr ⟨tb, d, kvs, e1, e2, s _ _ e3, e4.same s⟩
theorem match_deep : ∀ {s f : Tm} {tb tb' : List (Key × Tm)} {D : Nat}, f.deep ≤ D → (∀ p ∈ tb, p.2.deep ≤ D) → matchT s f tb = some tb' → ∀ p ∈ tb', p.2.deep ≤ D
  | .hole x, f, tb, tb', D, d, h, e => by
    unfold matchT at e
    cases q : lookT tb (.inr (SX.S x)) with
    | some g =>
      rw [q] at e
      dsimp only at e
      split at e
      · injection e with e; subst e; exact h
      · cases e
    | none =>
      rw [q] at e
      dsimp only at e
      injection e with e
      subst e
      intro p hp
      rcases List.mem_append.mp hp with hp | hp
      · exact h p hp
      · rw [List.mem_singleton.mp hp]; exact d
  | .bin o1 a b, .bin o2 a' b', tb, tb', D, d, h, e => by
    unfold matchT at e
    have d' : max a'.deep b'.deep + 1 ≤ D := d
    split at e
    · cases q : matchT a a' tb with
      | none => rw [q] at e; cases e
      | some tb1 =>
        rw [q] at e
        exact match_deep (by omega) (match_deep (by omega) h q) e
    · cases e
  | .bin o1 a b, .atom _, tb, tb', D, d, h, e => by cases e
  | .bin o1 a b, .fls, tb, tb', D, d, h, e => by cases e
  | .bin o1 a b, .hole _, tb, tb', D, d, h, e => by cases e
  | .bin o1 a b, .part _, tb, tb', D, d, h, e => by cases e
  | .atom x, f, tb, tb', D, d, h, e => by
    rw [match_leaf (by intro _ q; cases q) (.inl rfl)] at e
    split at e
    · injection e with e; subst e; exact h
    · cases e
  | .fls, f, tb, tb', D, d, h, e => by
    rw [match_leaf (by intro _ q; cases q) (.inl rfl)] at e
    split at e
    · injection e with e; subst e; exact h
    · cases e
  | .part x, f, tb, tb', D, d, h, e => by
    rw [match_leaf (by intro _ q; cases q) (.inl rfl)] at e
    split at e
    · injection e with e; subst e; exact h
    · cases e
theorem match_keys {A : List Nat → Prop} : ∀ {s f : Tm} {tb tb' : List (Key × Tm)}, s.sh A abc3 → (∀ p ∈ tb, ∃ x, abc3 x ∧ p.1 = .inr (SX.S x)) → matchT s f tb = some tb' → ∀ p ∈ tb', ∃ x, abc3 x ∧ p.1 = .inr (SX.S x)
  | .hole x, f, tb, tb', d, h, e => by
    unfold matchT at e
    cases q : lookT tb (.inr (SX.S x)) with
    | some g =>
      rw [q] at e
      dsimp only at e
      split at e
      · injection e with e; subst e; exact h
      · cases e
    | none =>
      rw [q] at e
      dsimp only at e
      injection e with e
      subst e
      intro p hp
      rcases List.mem_append.mp hp with hp | hp
      · exact h p hp
      · rw [List.mem_singleton.mp hp]; exact ⟨x, d, rfl⟩
  | .bin o1 a b, .bin o2 a' b', tb, tb', d, h, e => by
    unfold matchT at e
    split at e
    · cases q : matchT a a' tb with
      | none => rw [q] at e; cases e
      | some tb1 =>
        rw [q] at e
        exact match_keys d.2 (match_keys d.1 h q) e
    · cases e
  | .bin o1 a b, .atom _, tb, tb', d, h, e => by cases e
  | .bin o1 a b, .fls, tb, tb', d, h, e => by cases e
  | .bin o1 a b, .hole _, tb, tb', d, h, e => by cases e
  | .bin o1 a b, .part _, tb, tb', d, h, e => by cases e
  | .atom x, f, tb, tb', d, h, e => by
    rw [match_leaf (by intro _ q; cases q) (.inl rfl)] at e
    split at e
    · injection e with e; subst e; exact h
    · cases e
  | .fls, f, tb, tb', d, h, e => by
    rw [match_leaf (by intro _ q; cases q) (.inl rfl)] at e
    split at e
    · injection e with e; subst e; exact h
    · cases e
  | .part x, f, tb, tb', d, h, e => d.elim
theorem TabR.keys {H : Hp} : ∀ {kvs : List (Key × V)} {tb : List (Key × Tm)}, TabR K H kvs tb → kvs.map (·.1) = tb.map (·.1)
  | _, _, .nil => rfl
  | _, _, .cons _ r => by rw [List.map_cons, List.map_cons, TabR.keys r]
def keyS : Key → Str
  | .inr x => x
  | .inl _ => Str.empty
theorem due_like {A : List Nat → Prop} {H : Hp} {st ft : Tm} {v u : V} (h1 : DueR K H st ft v) (h2 : DueR K H st ft u) (hs : st.sh A abc3) (fo : ft.ok = true) (fd : ft.deep ≤ 5) (sd : st.deep ≤ 5) : LikeR K H 11 v u := by
  rcases h1 with ⟨e1, rfl⟩ | ⟨tb, d, kvs, e1, rfl, hd, ht⟩
  · rcases h2 with ⟨e2, rfl⟩ | ⟨tb2, d2, kvs2, e2, rfl, hd2, ht2⟩
    · exact .inl ⟨trivial, rfl⟩
    · rw [e1] at e2; cases e2
  · rcases h2 with ⟨e2, rfl⟩ | ⟨tb2, d2, kvs2, e2, rfl, hd2, ht2⟩
    · rw [e1] at e2; cases e2
    · rw [e1] at e2
      injection e2 with e2
      subst e2
      have hk := match_keys hs (by intro p hp; cases hp) e1
      have hdp := match_deep fd (by intro p hp; cases hp) e1
      have hlen := (match_ok fo (by omega) (by intro p hp; cases hp) e1).2
      have hsz := sz_deep st
      have hsz2 : 2 ^ st.deep ≤ 2 ^ 5 := Nat.pow_le_pow_right (by decide) sd
      have hlv := lv_le_sz st
      have ek : tb.map (·.1) = (tb.map fun p => keyS p.1).map Sum.inr := by
        rw [List.map_map]
        refine List.map_congr_left fun p hp => ?_
        obtain ⟨x, _, e⟩ := hk p hp
        rw [Function.comp_apply, e]; rfl
      refine .inr (.inr (.inr ⟨d, d2, kvs, kvs2, tb.map fun p => keyS p.1, rfl, rfl, hd, hd2, by rw [ht.keys, ek], by rw [ht2.keys, ek], ?_, fun k hk' => ?_, fun k hk' => ?_⟩))
      · rw [List.length_map]
        have : (32 : Nat) = 2 ^ 5 := by decide
        have h0 : ([] : List (Key × Tm)).length = 0 := rfl
        omega
      · obtain ⟨p, hp, rfl⟩ := List.mem_map.mp hk'
        obtain ⟨x, hx, e⟩ := hk p hp
        rw [e]
        rcases hx with rfl | rfl | rfl <;> decide +kernel
      · obtain ⟨p, hp, rfl⟩ := List.mem_map.mp hk'
        obtain ⟨x, hx, e⟩ := hk p hp
        have hmem : (Sum.inr (keyS p.1) : Key) ∈ tb.map (·.1) := by
          rw [e]
          exact List.mem_map.mpr ⟨p, hp, e⟩
        obtain ⟨t, hlk⟩ := lookT_some hmem
        have htd := hdp _ (lookT_mem hlk)
        rcases ht.val (.inr (keyS p.1)) with ⟨q, _⟩ | ⟨t1, x1, q1, q2, q3⟩
        · rw [hlk] at q; cases q
        · rcases ht2.val (.inr (keyS p.1)) with ⟨q, _⟩ | ⟨t2, x2, r1, r2, r3⟩
          · rw [hlk] at q; cases q
          · rw [hlk] at q1 r1
            injection q1 with q1
            injection r1 with r1
            subst q1
            subst r1
            exact ⟨x1, x2, enc t, q2, r2, q3, r3, enc_tup t, fitD_mono (enc_fit t) (by have : t.deep ≤ 5 := htd; show t.deep + 1 ≤ 10; omega)⟩
def spHolesD (K : PySem.W.Frag) : Sp := fun vs H Q _ => ∃ (v u : V) (s f : Tm), vs = [v, u] ∧ Dp K H v (enc s) ∧ Dp K H u (enc f) ∧ PrOk (s, f) ∧ s.sz ≤ 100000 ∧ ∀ (H' : Hp) (r : V), Same H H' → DueR K H' s f r → Q r H'
theorem ok_holesD (T : Txt K mg) : FnOk P w K mg base CX0 1 T.f_holes_of T.fd_holes_of ["shape", "formula"] (spHolesD K) :=
  (ok_holes T).imp fun vs H Q E h => by
    obtain ⟨v, u, s, f, e, hv, hu, hok, hsz, k⟩ := h
    exact ⟨v, u, s, f, e, hv, hu, hok, hsz, fun e0 H' s' => k H' _ s' (.inl ⟨e0, rfl⟩), fun tb e1 H' d kvs s' _ hd ht => k H' _ s' (.inr ⟨tb, d, kvs, e1, rfl, hd, ht⟩)⟩
def spLaw (K : PySem.W.Frag) : Sp := fun vs H Q _ => ∃ (a : Addr) (ns : List Int), vs = [.ref a] ∧ SqL K H a (ns.map V.int) ∧ ns.length ≤ 63 ∧ ∀ H', Q (.bl true) H'
theorem ok_law (T : Txt K mg) : FnOk P w K mg base CX0 14 T.f_law T.fd_law ["_law_script"] (spLaw K) := by
  have G__law_bag : FnOk P w K mg base CX0 1 T.f__law_bag T.fd__law_bag _ (spBag K) := ok_bag T
  have G__law_pull : FnOk P w K mg base CX0 1 T.f__law_pull T.fd__law_pull _ spPull := ok_pull T
  have G__law_names : FnOk P w K mg base CX0 3 T.f__law_names T.fd__law_names _ spNames := ok_names T
  have G__law_like : FnOk P w K mg base CX0 12 T.f__law_like T.fd__law_like _ (spLikeR K 12) := ok_likeR T 12
  have G__law_form : FnOk P w K mg base CX0 7 T.f__law_form T.fd__law_form _ (spForm K 5) := ok_form T 5
  have G__law_shape : FnOk P w K mg base CX0 9 T.f__law_shape T.fd__law_shape _ (spShape K 5) := ok_shape T 5
  have G__law_put : FnOk P w K mg base CX0 12 T.f__law_put T.fd__law_put _ (spPut K 12) := ok_put T 12
  have G__law_match : FnOk P w K mg base CX0 12 T.f__law_match T.fd__law_match _ (spMatch K 12) := ok_match T 12
  have G_holes_of : FnOk P w K mg base CX0 1 T.f_holes_of T.fd_holes_of _ (spHolesD K) := ok_holesD T
  refine T.F_law.ok sc_law (fun vs H Q E h => ?_) (fun cdv A outer s H vs Q E hr h => ?_)
  · obtain ⟨a, ns, rfl, _⟩ := h
    rfl
  · obtain ⟨a, ns, rfl, hS, hl, k⟩ := h
    refine ⟨_, (pss_cons (ps_set (i := 1) sc_law.nd rfl (Or.inl rfl) (pe_call G__law_bag (hr.mono (by omega)) rfl T.g__law_bag T.F__law_bag.kp T.b__law_bag .nil pass0 (pa_cons (pv 0) pa_nil)))
      (pss_cons (ps_set (i := 2) sc_law.nd rfl (Or.inl rfl) (pe_call G__law_names (hr.mono (by omega)) rfl T.g__law_names T.F__law_names.kp T.b__law_names .nil pass0 (pa_cons (pv 1) (pa_cons pe_int pa_nil))))
      (pss_cons (ps_for PassesOwn.never rfl (pi_range1 (by rfl) T.n_range (pa_cons pe_int pa_nil)) (pg_name (i := 3) sc_law.nd rfl (Or.inl rfl)) (pss_cons (ps_par (i := 4) (j := 5) rfl sc_law.nd rfl rfl (by decide) rfl rfl (pa_cons (pe_call G__law_shape (hr.mono (by omega)) rfl T.g__law_shape T.F__law_shape.kp T.b__law_shape .nil pass0 (pa_cons (pv 1) (pa_cons (pv 2) (pa_cons pe_int pa_nil)))) (pa_cons pe_dnewK pa_nil)) rfl)
      (pss_cut (ps_for PassesOwn.never rfl (pi_list (pe_lst (pa_cons pe_str (pa_cons pe_str (pa_cons pe_str pa_nil))))) (pg_name (i := 6) sc_law.nd rfl (Or.inl rfl)) (pss_one (ps_dput (hu_of hr) (pv 5) (pv 6) (pe_call G__law_form (hr.mono (by omega)) rfl T.g__law_form T.F__law_form.kp T.b__law_form .nil pass0 (pa_cons (pv 1) (pa_cons (pv 2) (pa_cons pe_int pa_nil)))) rfl)))
      (pss_cut (ps_set (i := 7) sc_law.nd rfl (Or.inl rfl) (pe_ifExp (pt_cmpR op_gt (pe_call G__law_pull (hr.mono (by omega)) rfl T.g__law_pull T.F__law_pull.kp T.b__law_pull .nil pass0 (pa_cons (pv 1) (pa_cons pe_int pa_nil))) pe_int (nomark _)) (pe_call G__law_put (hr.mono (by omega)) rfl T.g__law_put T.F__law_put.kp T.b__law_put .nil pass0 (pa_cons (pv 4) (pa_cons (pv 5) (pa_cons pe_str pa_nil)))) (pe_call G__law_form (hr.mono (by omega)) rfl T.g__law_form T.F__law_form.kp T.b__law_form .nil pass0 (pa_cons (pv 1) (pa_cons (pv 2) (pa_cons pe_int pa_nil))))))
      (pss_cut (ps_if (PW.pt (pw_and (pt_cmpR op_eq (pe_call G__law_pull (hr.mono (by omega)) rfl T.g__law_pull T.F__law_pull.kp T.b__law_pull .nil pass0 (pa_cons (pv 1) (pa_cons pe_int pa_nil))) pe_int (nomark _)) (pw_and1 (pt_cmpR op_in_seq (pe_ix ix_tup (pv 7) pe_int (fun _ _ => rfl)) (pe_tup (pa_cons pe_str (pa_cons pe_str (pa_cons pe_str pa_nil)))) (by rfl))))) (pss_one (ps_set (i := 7) sc_law.nd rfl (Or.inl rfl) (pe_tup (pa_cons (pe_ix ix_tup (pv 7) pe_int (fun _ _ => rfl)) (pa_cons (pe_ix ix_tup (pv 7) pe_int (fun _ _ => rfl)) (pa_cons (pe_ix ix_tup (pv 7) pe_int (fun _ _ => rfl)) pa_nil)))))) pss_nil)
      (pss_cut (ps_set (i := 8) sc_law.nd rfl (Or.inl rfl) (pe_call G__law_match (hr.mono (by omega)) rfl T.g__law_match T.F__law_match.kp T.b__law_match .nil pass0 (pa_cons (pv 4) (pa_cons (pv 7) (pa_cons pe_dnewK pa_nil)))))
      (pss_cut (ps_if (pt_not (pt_val (pe_call G__law_like (hr.mono (by omega)) rfl T.g__law_like T.F__law_like.kp T.b__law_like .nil pass0 (pa_cons (pe_lst (pa_cons (pe_call G_holes_of (hr.mono (by omega)) rfl T.g_holes_of T.F_holes_of.kp T.b_holes_of .nil pass0 (pa_cons (pv 4) (pa_cons (pv 7) pa_nil))) (pa_cons (pe_callN0 G_holes_of (hr.mono (by omega)) rfl T.g_holes_of T.F_holes_of.kp (kb_holes_of_0_formula_shape T) pass0 (pk_cons (pv 7) (pk_cons (pv 4) pk_nil))) pa_nil))) (pa_cons (pe_lst (pa_cons (pv 8) (pa_cons (pv 8) pa_nil))) pa_nil))))) (pss_one (ps_ret pe_bl)) pss_nil)
      (pss_cut (ps_if (PW.pt (pw_and (pt_cmp (pc_notN (pv 8))) (pw_and1 (pt_cmpR (op_neD (hu64 hr)) (pe_call G__law_put (hr.mono (by omega)) rfl T.g__law_put T.F__law_put.kp T.b__law_put .nil pass0 (pa_cons (pv 4) (pa_cons (pe_call G_holes_of (hr.mono (by omega)) rfl T.g_holes_of T.F_holes_of.kp T.b_holes_of .nil pass0 (pa_cons (pv 4) (pa_cons (pv 7) pa_nil))) (pa_cons pe_str pa_nil)))) (pv 7) (nomark _))))) (pss_one (ps_ret pe_bl)) pss_nil)
      (pss_one (ps_if (pt_not (pt_val (pe_call G__law_like (hr.mono (by omega)) rfl T.g__law_like T.F__law_like.kp T.b__law_like .nil pass0 (pa_cons (pe_call G_holes_of (hr.mono (by omega)) rfl T.g_holes_of T.F_holes_of.kp T.b_holes_of .nil pass0 (pa_cons (pv 7) (pa_cons (pv 7) pa_nil))) (pa_cons pe_dnewK pa_nil))))) (pss_one (ps_ret pe_bl)) pss_nil))))))))))
      (pss_one (ps_ret pe_bl))))), ?_⟩
    refine ⟨_, rfl, a, ns, rfl, hS, hl, fun H1 b c s1 hb0 hB1 => ?_⟩
    refine ⟨_, rfl, b, c, 2, rfl, hB1, by decide, fun H2 pn zs x2 hB2 hpn0 hpn zl zok znd => ?_⟩
    have npb : pn ≠ b := (hB1.apart hpn0).1
    have z0 : 0 < zs.length := by omega
    have z1 : zs.length ≤ 1000 := by omega
    have hA : ∀ s, s ∈ zs → okS s = true := fun s hs => okS_low (zok s hs).2.2
    refine ⟨8, rfl, by decide, by decide, for_range (lo := 0) (n := 8) (fun i σ H' => ∃ o3 o4 o5 o6 o7 o8 : Option V, σ = [some (.ref a), some (.ref b), some (.ref pn), o3, o4, o5, o6, o7, o8] ∧ Ext b H2 H' ∧ BagAt b c H') ⟨none, none, none, none, none, none, rfl, Ext.refl _ _, hB2⟩ ?_ ?_⟩
    · rintro i σ H3 hi ⟨o3, o4, o5, o6, o7, o8, rfl, x3, hB3⟩
      refine ⟨_, rfl, _, rfl, b, c, pn, zs, 4, rfl, hB3, npb, x3 _ _ npb hpn, z0, z1, by decide, fun H4 sv st x4 hB4 Dsv shs shd => fun td htd => ⟨_, _, rfl, ?_⟩⟩
      have ntd := hB4.apart htd
      have y5 := Same.laid (.dK []) htd
      have x5 := (x3.trans x4).trans (Ext.same y5)
      have hB5 := hB4.ext y5
      have D5 := Dp.same y5 _ _ Dsv
      have htd5 : upd H4 td (.dK []) td = some (.dK []) := upd_same
      generalize upd H4 td (.dK []) = H5 at x5 hB5 D5 htd5 ⊢
      refine ⟨fun σ' H' => ∃ (kvs : List (Key × V)) (tb : List (Key × Tm)) (o6 : Option V), σ' = [some (.ref a), some (.ref b), some (.ref pn), some (.int (0 + (i : Nat))), some sv, some (.ref td), o6, o7, o8] ∧ Ext b H2 H' ∧ BagAt b c H' ∧ H' td = some (.dK kvs) ∧ TabR K H' kvs tb ∧ Tb3 (· ∈ zs) tb ∧ Dp K H' sv (enc st), ?_, ?_⟩
      · refine ⟨(show 3 ≤ sizeLine by decide), fun pl hpl => ⟨pl, rfl, ⟨_, SqL.of upd_same⟩, ?_⟩⟩
        have y6 := Same.laid (.lst [.str (Str.ofString "a"), .str (Str.ofString "b"), .str (Str.ofString "c")]) hpl
        have npl := hB5.apart hpl
        refine for_list (K := K) (a := pl) (xs := [.str (Str.ofString "a"), .str (Str.ofString "b"), .str (Str.ofString "c")]) (fun j σ' H' => ∃ (kvs : List (Key × V)) (tb : List (Key × Tm)) (o6 : Option V), σ' = [some (.ref a), some (.ref b), some (.ref pn), some (.int (0 + (i : Nat))), some sv, some (.ref td), o6, o7, o8] ∧ Ext b H2 H' ∧ BagAt b c H' ∧ H' td = some (.dK kvs) ∧ TabR K H' kvs tb ∧ tb.map (·.1) = keys3.take j ∧ (∀ p ∈ tb, p.2.isF = true ∧ p.2.ats (· ∈ zs) ∧ p.2.deep ≤ 2) ∧ Dp K H' sv (enc st) ∧ H' pl = some (.lst [.str (Str.ofString "a"), .str (Str.ofString "b"), .str (Str.ofString "c")])) ⟨[], [], o6, rfl, x5.trans (Ext.same y6), hB5.ext y6, y6 _ _ htd5, .nil, rfl, (fun p hp => nomatch hp), Dp.same y6 _ _ D5, upd_same⟩ (fun j σ' H' _ ⟨_, _, _, _, _, _, _, _, _, _, _, q⟩ => SqL.of q) ?_ ?_
        · rintro j x σ' H6 hj ⟨kvs, tb, o6', rfl, x6, hB6, htd6, htb6, hkeys, hgood, D6, hpl6⟩
          obtain ⟨kj, rfl, hkj⟩ := keys3_at hj
          refine ⟨_, rfl, _, rfl, b, c, pn, zs, 2, rfl, hB6, npb, x6 _ _ npb hpn, z0, z1, by decide, fun H7 v7 t7 x7 hB7 D7 f7 a7 d7 => ?_⟩
          obtain ⟨yb, hb6⟩ := hB6.lst
          have htd7 := x7 _ _ ntd.1 htd6
          have hlk : lookT tb (.inr kj) = none := lookT_none (by rw [hkeys]; exact keys3_new hkj)
          have hvl : valV kvs (.inr kj) = none := by
            rcases htb6.val (.inr kj) with ⟨_, q⟩ | ⟨_, _, q, _⟩
            · exact q
            · rw [hlk] at q; cases q
          refine ⟨_, rfl, _, rfl, td, _, rfl, DPut.k (k := .inr kj) htd7 ?_, ?_⟩
          · rw [htb6.length, ← List.length_map (f := (·.1)), hkeys]
            refine Nat.lt_of_lt_of_le (show _ < 4 from ?_) (by decide)
            rw [List.length_take]
            show min j 3 < 4
            omega
          rw [putK_new _ hvl]
          have ts : TS K H7 (upd H7 td (.dK (kvs ++ [(Sum.inr kj, v7)]))) := TS.dct _ htd7
          refine ⟨_, tb ++ [(.inr kj, t7)], _, rfl, ?_, hB7.store _ ntd, upd_same, TabR.snoc (Dp.ts ts _ _ (enc_tup _) D7) ((htb6.ext x7 hb6).ts ts), ?_, ?_, Dp.ts ts _ _ (enc_tup _) (Dp.ext x7 hb6 _ _ (enc_tup _) D6), ?_⟩
          · exact fun e o ne he => by
              have ntd2 : e ≠ td := fun q => by
                have q1 := (x3.trans x4).free ntd.1 htd
                rw [q, q1] at he
                cases he
              rw [upd_ne ntd2]
              exact (x6.trans x7) _ _ ne he
          · rw [List.map_append, hkeys]
            exact keys3_succ hkj
          · intro p hp
            rcases List.mem_append.mp hp with hp | hp
            · exact hgood p hp
            · rw [List.mem_singleton.mp hp]; exact ⟨f7, a7, by show t7.deep ≤ 2; omega⟩
          · rw [upd_ne (ne_of hpl6 htd6 (by intro q; cases q))]
            exact x7 _ _ npl.1 hpl6
        · rintro σ' H6 ⟨kvs, tb, o6', rfl, x6, hB6, htd6, htb6, hkeys, hgood, D6, hpl6⟩
          exact ⟨kvs, tb, o6', rfl, x6, hB6, htd6, htb6, tb3_of hkeys hgood, D6⟩
      rintro σ' H6 ⟨kvs, tb, o6', rfl, x6, hB6, htd6, htb6, h3, D6⟩
      refine ⟨fun σ' H' => ∃ (fv : V) (ft : Tm), σ' = [some (.ref a), some (.ref b), some (.ref pn), some (.int (0 + (i : Nat))), some sv, some (.ref td), o6', some fv, o8] ∧ Ext b H2 H' ∧ BagAt b c H' ∧ Dp K H' sv (enc st) ∧ Dp K H' fv (enc ft) ∧ ft.isF = true ∧ ft.ats (· ∈ zs) ∧ ft.deep ≤ 5, ?_, ?_⟩
      · refine ⟨_, rfl, b, c, 3, rfl, hB6, by decide, by decide, fun d H7 d0 d1 x7 hB7 => ⟨_, _, rfl, rfl, _, rfl, ite2 (fun _ => ?_) (fun _ => ?_)⟩⟩
        · obtain ⟨yb, hb6⟩ := hB6.lst
          have D7 := Dp.ext x7 hb6 _ _ (enc_tup _) D6
          refine ⟨_, rfl, _, rfl, sv, td, true, st, kvs, tb, rfl, D7, x7 _ _ ntd.1 htd6, htb6.ext x7 hb6, by omega, fun H8 fv s8 Dfv => ?_⟩
          obtain ⟨f1, f2, f3⟩ := put_isF h3 shs
          exact ⟨fv, _, rfl, (x6.trans x7).trans (Ext.same s8), hB7.ext s8, Dp.same s8 _ _ D7, Dfv, f1, f2, by omega⟩
        · obtain ⟨yb, hb6⟩ := hB6.lst
          have D7 := Dp.ext x7 hb6 _ _ (enc_tup _) D6
          obtain ⟨yb7, hb7⟩ := hB7.lst
          refine ⟨_, rfl, _, rfl, b, c, pn, zs, 4, rfl, hB7, npb, (x6.trans x7) _ _ npb hpn, z0, z1, by decide, fun H8 fv ft x8 hB8 D8 f8 a8 d8 => ?_⟩
          exact ⟨fv, ft, rfl, (x6.trans x7).trans x8, hB8, Dp.ext x8 hb7 _ _ (enc_tup _) D7, D8, f8, a8, by omega⟩
      rintro σ' H7 ⟨fv, ft, rfl, x7, hB7, Dst7, Dft7, fF, fA, fd⟩
      refine ⟨fun σ' H' => ∃ (fv : V) (ft : Tm), σ' = [some (.ref a), some (.ref b), some (.ref pn), some (.int (0 + (i : Nat))), some sv, some (.ref td), o6', some fv, o8] ∧ Ext b H2 H' ∧ BagAt b c H' ∧ Dp K H' sv (enc st) ∧ Dp K H' fv (enc ft) ∧ ft.isF = true ∧ ft.ats (· ∈ zs) ∧ ft.deep ≤ 5, ?_, ?_⟩
      · obtain ⟨yb, hb7⟩ := hB7.lst
        refine ⟨_, rfl, b, c, 4, rfl, hB7, by decide, by decide, fun d H8 d0 d1 x8 hB8 => ?_⟩
        have Dst8 := Dp.ext x8 hb7 _ _ (enc_tup _) Dst7
        have Dft8 := Dp.ext x8 hb7 _ _ (enc_tup _) Dft7
        refine ⟨rfl, _, rfl, ite2 (fun _ => ?_) (fun _ => iteF ⟨fv, ft, rfl, x7.trans x8, hB8, Dst8, Dft8, fF, fA, fd⟩)⟩
        obtain ⟨p, xs, rfl, hp⟩ := enc_tag Dft8
        refine ⟨_, rfl, p, _, 0, _, rfl, rfl, hp, atI_0, (show 3 ≤ sizeLine by decide), fun q hq => ?_⟩
        have yq := Same.laid (.tup [.str (Str.ofString "then"), .str (Str.ofString "and"), .str (Str.ofString "or")]) hq
        refine ⟨q, _, rfl, .inr (SqT.of upd_same), rfl, rfl, _, rfl, ?_⟩
        rw [if_neg Bool.false_ne_true, in_pairs]
        by_cases hb : isBin ft = true
        · rw [hb]
          obtain ⟨o, fa, fb, rfl⟩ := isBin_of hb
          obtain ⟨p', xa, xb, e, hp', hxa, hxb⟩ := enc_bin Dft8
          cases e
          have hp9 := Same.sqT yq hp'
          refine iteT ⟨_, rfl, p, _, 0, _, rfl, rfl, hp9, atI_0, _, rfl, p, _, 2, _, rfl, rfl, hp9, atI_2, _, rfl, p, _, 1, _, rfl, rfl, hp9, atI_1, (show 3 ≤ sizeLine by decide), fun r hr2 => ?_⟩
          have yr := Same.laid (.tup [.str (opS o), xb, xa]) hr2
          have fF' : fa.isF = true ∧ fb.isF = true := by
            unfold Tm.isF at fF
            exact Bool.and_eq_true_iff.mp fF
          refine ⟨.ref r, .bin o fb fa, rfl, (x7.trans x8).trans ((Ext.same yq).trans (Ext.same yr)), (hB8.ext yq).ext yr, Dp.same (yq.trans yr) _ _ Dst8, dp_bin (SqT.of upd_same) (Dp.same (yq.trans yr) _ _ hxb) (Dp.same (yq.trans yr) _ _ hxa), ?_, ⟨fA.2, fA.1⟩, ?_⟩
          · show (fb.isF && fa.isF) = true
            rw [fF'.1, fF'.2]; rfl
          · have : max fa.deep fb.deep + 1 ≤ 5 := fd
            show max fb.deep fa.deep + 1 ≤ 5
            omega
        · rw [show isBin ft = false by simpa using hb]
          exact iteF ⟨.ref p, ft, rfl, (x7.trans x8).trans (Ext.same yq), hB8.ext yq, Dp.same yq _ _ Dst8, Dp.same yq _ _ Dft8, fF, fA, fd⟩
      clear Dft7 Dst7 hB7 x7 fF fA fd
      rintro σ' H8 ⟨fv, ft, rfl, x8, hB8, Dst8, Dft8, fF, fA, fd⟩
      have sok := ok_sh hA shs
      have fok := ok_ats hA fF fA
      have ssz := sz_small (t := st) (by omega)
      have fsz := sz_small (t := ft) (by omega)
      have slv := lv_le_sz st
      refine ⟨fun σ' H' => ∃ vd : V, σ' = [some (.ref a), some (.ref b), some (.ref pn), some (.int (0 + (i : Nat))), some sv, some (.ref td), o6', some fv, some vd] ∧ Same H8 H' ∧ DueR K H' st ft vd, ?_, ?_⟩
      · refine ⟨_, rfl, _, rfl, fun dd hdd => ?_⟩
        have yd := Same.laid (.dK []) hdd
        refine ⟨sv, fv, dd, st, ft, [], [], rfl, Dp.same yd _ _ Dst8, Dp.same yd _ _ Dft8, sok, fok, (fun p hp => nomatch hp), by omega, by omega, by omega, upd_same, .nil, ?_, fun e0 H9 s9 => ⟨_, rfl, yd.trans s9, .inl ⟨e0, rfl⟩⟩, fun tb' e1 H9 d' kvs' s9 hd' ht' => ⟨_, rfl, yd.trans s9, .inr ⟨tb', d', kvs', e1, rfl, hd', ht'⟩⟩⟩
        show 0 + st.lv ≤ _
        omega
      rintro σ' H9 ⟨vd, rfl, s9, hdue⟩
      have x9 := x8.trans (Ext.same s9)
      have hB9 := hB8.ext s9
      have Dst9 := Dp.same s9 _ _ Dst8
      have Dft9 := Dp.same s9 _ _ Dft8
      have pok : PrOk (st, ft) := ⟨sok, fok, by show st.deep ≤ 58; omega, by show ft.deep ≤ 58; omega⟩
      have pok2 : PrOk (ft, ft) := ⟨fok, fok, by show ft.deep ≤ 58; omega, by show ft.deep ≤ 58; omega⟩
      refine ⟨fun σ' H' => σ' = [some (.ref a), some (.ref b), some (.ref pn), some (.int (0 + (i : Nat))), some sv, some (.ref td), o6', some fv, some vd] ∧ Same H9 H', ?_, ?_⟩
      · refine ⟨_, rfl, _, rfl, sv, fv, st, ft, rfl, Dst9, Dft9, pok, by omega, fun Ha v1 sa d1 => ?_⟩
        refine ⟨_, rfl, _, rfl, rfl, rfl, sv, fv, st, ft, rfl, Dp.same sa _ _ Dst9, Dp.same sa _ _ Dft9, pok, by omega, fun Hb v2 sb d2 => ⟨(show 2 ≤ sizeLine by decide), fun q1 hq1 => ?_⟩⟩
        have z1' := Same.laid (.lst [v1, v2]) hq1
        refine ⟨_, rfl, _, rfl, (show 2 ≤ sizeLine by decide), fun q2 hq2 => ?_⟩
        have z2' := Same.laid (.lst [vd, vd]) hq2
        have zz := z1'.trans z2'
        refine ⟨.ref q1, .ref q2, rfl, .inr (.inl ⟨q1, q2, [v1, v2], [vd, vd], rfl, rfl, SqL.of (z2' _ _ upd_same), SqL.of upd_same, rfl, (show 2 ≤ 100000 by decide), fun j x y ex ey => ?_⟩), fun H' s' => ⟨_, rfl, iteF ⟨rfl, ((sa.trans sb).trans zz).trans s'⟩⟩⟩
        have hd3 := hdue.same ((sa.trans sb).trans zz)
        match j, ex, ey with
        | 0, ex, ey => cases ex; cases ey; exact due_like (d1.same (sb.trans zz)) hd3 shs fok fd (by omega)
        | 1, ex, ey => cases ex; cases ey; exact due_like (d2.same zz) hd3 shs fok fd (by omega)
      rintro σ' H10 ⟨rfl, s10⟩
      refine ⟨fun σ' H' => σ' = [some (.ref a), some (.ref b), some (.ref pn), some (.int (0 + (i : Nat))), some sv, some (.ref td), o6', some fv, some vd] ∧ Same H9 H', ?_, ?_⟩
      · refine ⟨_, rfl, _, rfl, ?_⟩
        rcases hdue with ⟨e0, rfl⟩ | ⟨tb', d', kvs', e1, rfl, _, _⟩
        · exact iteF (iteF ⟨rfl, s10⟩)
        · refine iteT ⟨_, rfl, _, rfl, _, rfl, sv, fv, st, ft, rfl, Dp.same s10 _ _ Dst9, Dp.same s10 _ _ Dft9, pok, by omega, fun Ha v1 sa d1 => ?_⟩
          rcases d1 with ⟨e0, _⟩ | ⟨tb2, d2, kvs2, e2, rfl, hd2, ht2⟩
          · rw [e1] at e0; cases e0
          · have hput := (match_put e2).2 tb2 (fun _ _ h => h)
            refine ⟨sv, d2, true, st, kvs2, tb2, rfl, Dp.same (s10.trans sa) _ _ Dst9, hd2, ht2, by omega, fun Hb pv' sb Dpv => ?_⟩
            rw [hput] at Dpv
            refine ⟨_, rfl, enc ft, enc ft, Dpv, Dp.same ((s10.trans sa).trans sb) _ _ Dft9, enc_shaped fok (by omega), enc_shaped fok (by omega), _, rfl, ?_⟩
            rw [enc_eqv, decide_eq_true rfl]
            exact iteF ⟨rfl, (s10.trans sa).trans sb⟩
      rintro σ' H11 ⟨rfl, s11⟩
      refine ⟨_, rfl, _, rfl, fv, fv, ft, ft, rfl, Dp.same s11 _ _ Dft9, Dp.same s11 _ _ Dft9, pok2, by omega, fun Ha v1 sa d1 => fun dd hdd => ?_⟩
      have zd := Same.laid (.dK []) hdd
      rcases d1 with ⟨e0, _⟩ | ⟨tb2, d2, kvs2, e2, rfl, hd2, ht2⟩
      · rw [match_self fF] at e0; cases e0
      · rw [match_self fF] at e2
        injection e2 with e2
        subst e2
        cases ht2
        refine ⟨.ref d2, .ref dd, rfl, .inr (.inr (.inr ⟨d2, dd, [], [], [], rfl, rfl, zd _ _ hd2, upd_same, rfl, rfl, by decide, (fun k hk => nomatch hk), (fun k hk => nomatch hk)⟩)), fun H' s' => ⟨_, rfl, iteF ?_⟩⟩
        exact ⟨_, _, _, _, _, _, rfl, x9.trans (Ext.same (((s11.trans sa).trans zd).trans s')), hB9.ext (((s11.trans sa).trans zd).trans s')⟩
    · rintro σ H3 ⟨o3, o4, o5, o6, o7, o8, rfl, x3, hB3⟩
      exact k _

end
end Ag
namespace Ag
open PySem L2
theorem txt_mk {K : PySem.W.Frag} {h : Heap} {mg : Str → Option Value} {r_PAIRS : Addr} {dd_PAIRS : Option Addr} {nn_PAIRS : Nat} {ss_PAIRS : Array (Option Value)} {t0_PAIRS t1_PAIRS t2_PAIRS : Tok}
    {f_holes_of : Addr} {od_holes_of an_holes_of : Option Addr} {sl_holes_of : Array (Option Value)} {oc_holes_of kV_holes_of dc_holes_of pm_holes_of cd_holes_of ct_holes_of : Value}
    {f__law_bag : Addr} {od__law_bag an__law_bag : Option Addr} {sl__law_bag : Array (Option Value)} {oc__law_bag kV__law_bag dc__law_bag pm__law_bag cd__law_bag ct__law_bag : Value}
    {f__law_pull : Addr} {od__law_pull an__law_pull : Option Addr} {sl__law_pull : Array (Option Value)} {oc__law_pull kV__law_pull dc__law_pull pm__law_pull cd__law_pull ct__law_pull : Value}
    {f__law_any : Addr} {od__law_any an__law_any : Option Addr} {sl__law_any : Array (Option Value)} {oc__law_any kV__law_any dc__law_any pm__law_any cd__law_any ct__law_any : Value}
    {f__law_like : Addr} {od__law_like an__law_like : Option Addr} {sl__law_like : Array (Option Value)} {oc__law_like kV__law_like dc__law_like pm__law_like cd__law_like ct__law_like : Value}
    {f__law_names : Addr} {od__law_names an__law_names : Option Addr} {sl__law_names : Array (Option Value)} {oc__law_names kV__law_names dc__law_names pm__law_names cd__law_names ct__law_names : Value}
    {f__law_form : Addr} {od__law_form an__law_form : Option Addr} {sl__law_form : Array (Option Value)} {oc__law_form kV__law_form dc__law_form pm__law_form cd__law_form ct__law_form : Value}
    {f__law_shape : Addr} {od__law_shape an__law_shape : Option Addr} {sl__law_shape : Array (Option Value)} {oc__law_shape kV__law_shape dc__law_shape pm__law_shape cd__law_shape ct__law_shape : Value}
    {f__law_match : Addr} {od__law_match an__law_match : Option Addr} {sl__law_match : Array (Option Value)} {oc__law_match kV__law_match dc__law_match pm__law_match cd__law_match ct__law_match : Value}
    {f__law_put : Addr} {od__law_put an__law_put : Option Addr} {sl__law_put : Array (Option Value)} {oc__law_put kV__law_put dc__law_put pm__law_put cd__law_put ct__law_put : Value}
    {f_law : Addr} {od_law an_law : Option Addr} {sl_law : Array (Option Value)} {oc_law kV_law dc_law pm_law cd_law ct_law : Value}
    (X : K.In h) (G : h.Ns mainGlobals mg)
    (z_all : PySem.W.nsIn K mainGlobals "all" = some none)
    (z_bool : PySem.W.nsIn K mainGlobals "bool" = some none)
    (z_dict : PySem.W.nsIn K mainGlobals "dict" = some none)
    (z_int : PySem.W.nsIn K mainGlobals "int" = some none)
    (z_isinstance : PySem.W.nsIn K mainGlobals "isinstance" = some none)
    (z_len : PySem.W.nsIn K mainGlobals "len" = some none)
    (z_list : PySem.W.nsIn K mainGlobals "list" = some none)
    (z_range : PySem.W.nsIn K mainGlobals "range" = some none)
    (z_sorted : PySem.W.nsIn K mainGlobals "sorted" = some none)
    (z_str : PySem.W.nsIn K mainGlobals "str" = some none)
    (z_tuple : PySem.W.nsIn K mainGlobals "tuple" = some none)
    (z_zip : PySem.W.nsIn K mainGlobals "zip" = some none)
    (a_PAIRS : PySem.W.nsIn K mainGlobals "PAIRS" = some (some (.ref r_PAIRS)))
    (l_PAIRS : K.lookup r_PAIRS = some ⟨.type "tuple", dd_PAIRS, .seq #[.str "then" t0_PAIRS, .str "and" t1_PAIRS, .str "or" t2_PAIRS] nn_PAIRS, ss_PAIRS⟩)
    (a_holes_of : PySem.W.nsIn K mainGlobals "holes_of" = some (some (.ref f_holes_of)))
    (l_holes_of : K.lookup f_holes_of = some ⟨oc_holes_of, od_holes_of, .func (PySem.W.fnOf "holes_of" "holes_of" (defArgs s_holes_of) (defBody s_holes_of) (defScope s_holes_of) .none kV_holes_of dc_holes_of pm_holes_of an_holes_of cd_holes_of ct_holes_of), sl_holes_of⟩)
    (c_holes_of : PySem.W.codeIn K cd_holes_of "holes_of" = true) (k_holes_of : PySem.W.keepIn K (.ref f_holes_of) = true)
    (a__law_bag : PySem.W.nsIn K mainGlobals "_law_bag" = some (some (.ref f__law_bag)))
    (l__law_bag : K.lookup f__law_bag = some ⟨oc__law_bag, od__law_bag, .func (PySem.W.fnOf "_law_bag" "_law_bag" (defArgs s__law_bag) (defBody s__law_bag) (defScope s__law_bag) .none kV__law_bag dc__law_bag pm__law_bag an__law_bag cd__law_bag ct__law_bag), sl__law_bag⟩)
    (c__law_bag : PySem.W.codeIn K cd__law_bag "_law_bag" = true) (k__law_bag : PySem.W.keepIn K (.ref f__law_bag) = true)
    (a__law_pull : PySem.W.nsIn K mainGlobals "_law_pull" = some (some (.ref f__law_pull)))
    (l__law_pull : K.lookup f__law_pull = some ⟨oc__law_pull, od__law_pull, .func (PySem.W.fnOf "_law_pull" "_law_pull" (defArgs s__law_pull) (defBody s__law_pull) (defScope s__law_pull) .none kV__law_pull dc__law_pull pm__law_pull an__law_pull cd__law_pull ct__law_pull), sl__law_pull⟩)
    (c__law_pull : PySem.W.codeIn K cd__law_pull "_law_pull" = true) (k__law_pull : PySem.W.keepIn K (.ref f__law_pull) = true)
    (a__law_any : PySem.W.nsIn K mainGlobals "_law_any" = some (some (.ref f__law_any)))
    (l__law_any : K.lookup f__law_any = some ⟨oc__law_any, od__law_any, .func (PySem.W.fnOf "_law_any" "_law_any" (defArgs s__law_any) (defBody s__law_any) (defScope s__law_any) .none kV__law_any dc__law_any pm__law_any an__law_any cd__law_any ct__law_any), sl__law_any⟩)
    (c__law_any : PySem.W.codeIn K cd__law_any "_law_any" = true) (k__law_any : PySem.W.keepIn K (.ref f__law_any) = true)
    (a__law_like : PySem.W.nsIn K mainGlobals "_law_like" = some (some (.ref f__law_like)))
    (l__law_like : K.lookup f__law_like = some ⟨oc__law_like, od__law_like, .func (PySem.W.fnOf "_law_like" "_law_like" (defArgs s__law_like) (defBody s__law_like) (defScope s__law_like) .none kV__law_like dc__law_like pm__law_like an__law_like cd__law_like ct__law_like), sl__law_like⟩)
    (c__law_like : PySem.W.codeIn K cd__law_like "_law_like" = true) (k__law_like : PySem.W.keepIn K (.ref f__law_like) = true)
    (a__law_names : PySem.W.nsIn K mainGlobals "_law_names" = some (some (.ref f__law_names)))
    (l__law_names : K.lookup f__law_names = some ⟨oc__law_names, od__law_names, .func (PySem.W.fnOf "_law_names" "_law_names" (defArgs s__law_names) (defBody s__law_names) (defScope s__law_names) .none kV__law_names dc__law_names pm__law_names an__law_names cd__law_names ct__law_names), sl__law_names⟩)
    (c__law_names : PySem.W.codeIn K cd__law_names "_law_names" = true) (k__law_names : PySem.W.keepIn K (.ref f__law_names) = true)
    (a__law_form : PySem.W.nsIn K mainGlobals "_law_form" = some (some (.ref f__law_form)))
    (l__law_form : K.lookup f__law_form = some ⟨oc__law_form, od__law_form, .func (PySem.W.fnOf "_law_form" "_law_form" (defArgs s__law_form) (defBody s__law_form) (defScope s__law_form) .none kV__law_form dc__law_form pm__law_form an__law_form cd__law_form ct__law_form), sl__law_form⟩)
    (c__law_form : PySem.W.codeIn K cd__law_form "_law_form" = true) (k__law_form : PySem.W.keepIn K (.ref f__law_form) = true)
    (a__law_shape : PySem.W.nsIn K mainGlobals "_law_shape" = some (some (.ref f__law_shape)))
    (l__law_shape : K.lookup f__law_shape = some ⟨oc__law_shape, od__law_shape, .func (PySem.W.fnOf "_law_shape" "_law_shape" (defArgs s__law_shape) (defBody s__law_shape) (defScope s__law_shape) .none kV__law_shape dc__law_shape pm__law_shape an__law_shape cd__law_shape ct__law_shape), sl__law_shape⟩)
    (c__law_shape : PySem.W.codeIn K cd__law_shape "_law_shape" = true) (k__law_shape : PySem.W.keepIn K (.ref f__law_shape) = true)
    (a__law_match : PySem.W.nsIn K mainGlobals "_law_match" = some (some (.ref f__law_match)))
    (l__law_match : K.lookup f__law_match = some ⟨oc__law_match, od__law_match, .func (PySem.W.fnOf "_law_match" "_law_match" (defArgs s__law_match) (defBody s__law_match) (defScope s__law_match) .none kV__law_match dc__law_match pm__law_match an__law_match cd__law_match ct__law_match), sl__law_match⟩)
    (c__law_match : PySem.W.codeIn K cd__law_match "_law_match" = true) (k__law_match : PySem.W.keepIn K (.ref f__law_match) = true)
    (a__law_put : PySem.W.nsIn K mainGlobals "_law_put" = some (some (.ref f__law_put)))
    (l__law_put : K.lookup f__law_put = some ⟨oc__law_put, od__law_put, .func (PySem.W.fnOf "_law_put" "_law_put" (defArgs s__law_put) (defBody s__law_put) (defScope s__law_put) .none kV__law_put dc__law_put pm__law_put an__law_put cd__law_put ct__law_put), sl__law_put⟩)
    (c__law_put : PySem.W.codeIn K cd__law_put "_law_put" = true) (k__law_put : PySem.W.keepIn K (.ref f__law_put) = true)
    (a_law : PySem.W.nsIn K mainGlobals "law" = some (some (.ref f_law)))
    (l_law : K.lookup f_law = some ⟨oc_law, od_law, .func (PySem.W.fnOf "law" "law" (defArgs s_law) (defBody s_law) (defScope s_law) .none kV_law dc_law pm_law an_law cd_law ct_law), sl_law⟩)
    (c_law : PySem.W.codeIn K cd_law "law" = true) (k_law : PySem.W.keepIn K (.ref f_law) = true) : ∃ _ : Txt K mg, True :=
  ⟨{ n_all := PySem.W.mg_none_of X G z_all,
     n_bool := PySem.W.mg_none_of X G z_bool,
     n_dict := PySem.W.mg_none_of X G z_dict,
     n_int := PySem.W.mg_none_of X G z_int,
     n_isinstance := PySem.W.mg_none_of X G z_isinstance,
     n_len := PySem.W.mg_none_of X G z_len,
     n_list := PySem.W.mg_none_of X G z_list,
     n_range := PySem.W.mg_none_of X G z_range,
     n_sorted := PySem.W.mg_none_of X G z_sorted,
     n_str := PySem.W.mg_none_of X G z_str,
     n_tuple := PySem.W.mg_none_of X G z_tuple,
     n_zip := PySem.W.mg_none_of X G z_zip,
     a_PAIRS := r_PAIRS,
     g_PAIRS := PySem.W.mg_of X G a_PAIRS,
     q_PAIRS := fun _ => .inr ⟨_, _, _, l_PAIRS, rfl, rfl, (show 3 ≤ sizeLine by decide), (.cons ⟨_, rfl⟩ (.cons ⟨_, rfl⟩ (.cons ⟨_, rfl⟩ .nil)))⟩,
     f_holes_of := f_holes_of,
     fd_holes_of := _,
     F_holes_of := fun_mk (st := s_holes_of) l_holes_of c_holes_of k_holes_of,
     g_holes_of := PySem.W.mg_of X G a_holes_of,
     b_holes_of := (fun_mk (st := s_holes_of) l_holes_of c_holes_of k_holes_of).binds (ps := ["shape", "formula"]) fun _ _ _ _ _ _ us hl => match us, hl with | [_, _], _ => rfl,
     f__law_bag := f__law_bag,
     fd__law_bag := _,
     F__law_bag := fun_mk (st := s__law_bag) l__law_bag c__law_bag k__law_bag,
     g__law_bag := PySem.W.mg_of X G a__law_bag,
     b__law_bag := (fun_mk (st := s__law_bag) l__law_bag c__law_bag k__law_bag).binds (ps := ["_law_script"]) fun _ _ _ _ _ _ us hl => match us, hl with | [_], _ => rfl,
     f__law_pull := f__law_pull,
     fd__law_pull := _,
     F__law_pull := fun_mk (st := s__law_pull) l__law_pull c__law_pull k__law_pull,
     g__law_pull := PySem.W.mg_of X G a__law_pull,
     b__law_pull := (fun_mk (st := s__law_pull) l__law_pull c__law_pull k__law_pull).binds (ps := ["_law_bag_here", "_law_many"]) fun _ _ _ _ _ _ us hl => match us, hl with | [_, _], _ => rfl,
     f__law_any := f__law_any,
     fd__law_any := _,
     F__law_any := fun_mk (st := s__law_any) l__law_any c__law_any k__law_any,
     g__law_any := PySem.W.mg_of X G a__law_any,
     b__law_any := (fun_mk (st := s__law_any) l__law_any c__law_any k__law_any).binds (ps := ["_law_bag_here", "_law_things"]) fun _ _ _ _ _ _ us hl => match us, hl with | [_, _], _ => rfl,
     f__law_like := f__law_like,
     fd__law_like := _,
     F__law_like := fun_mk (st := s__law_like) l__law_like c__law_like k__law_like,
     g__law_like := PySem.W.mg_of X G a__law_like,
     b__law_like := (fun_mk (st := s__law_like) l__law_like c__law_like k__law_like).binds (ps := ["_law_found", "_law_due"]) fun _ _ _ _ _ _ us hl => match us, hl with | [_, _], _ => rfl,
     f__law_names := f__law_names,
     fd__law_names := _,
     F__law_names := fun_mk (st := s__law_names) l__law_names c__law_names k__law_names,
     g__law_names := PySem.W.mg_of X G a__law_names,
     b__law_names := (fun_mk (st := s__law_names) l__law_names c__law_names k__law_names).binds (ps := ["_law_bag_here", "_law_many"]) fun _ _ _ _ _ _ us hl => match us, hl with | [_, _], _ => rfl,
     f__law_form := f__law_form,
     fd__law_form := _,
     F__law_form := fun_mk (st := s__law_form) l__law_form c__law_form k__law_form,
     g__law_form := PySem.W.mg_of X G a__law_form,
     b__law_form := (fun_mk (st := s__law_form) l__law_form c__law_form k__law_form).binds (ps := ["_law_bag_here", "_law_words", "_law_deep"]) fun _ _ _ _ _ _ us hl => match us, hl with | [_, _, _], _ => rfl,
     f__law_shape := f__law_shape,
     fd__law_shape := _,
     F__law_shape := fun_mk (st := s__law_shape) l__law_shape c__law_shape k__law_shape,
     g__law_shape := PySem.W.mg_of X G a__law_shape,
     b__law_shape := (fun_mk (st := s__law_shape) l__law_shape c__law_shape k__law_shape).binds (ps := ["_law_bag_here", "_law_words", "_law_deep"]) fun _ _ _ _ _ _ us hl => match us, hl with | [_, _, _], _ => rfl,
     f__law_match := f__law_match,
     fd__law_match := _,
     F__law_match := fun_mk (st := s__law_match) l__law_match c__law_match k__law_match,
     g__law_match := PySem.W.mg_of X G a__law_match,
     b__law_match := (fun_mk (st := s__law_match) l__law_match c__law_match k__law_match).binds (ps := ["_law_shape_z", "_law_formula_z", "_law_table"]) fun _ _ _ _ _ _ us hl => match us, hl with | [_, _, _], _ => rfl,
     f__law_put := f__law_put,
     fd__law_put := _,
     F__law_put := fun_mk (st := s__law_put) l__law_put c__law_put k__law_put,
     g__law_put := PySem.W.mg_of X G a__law_put,
     b__law_put := (fun_mk (st := s__law_put) l__law_put c__law_put k__law_put).binds (ps := ["_law_term", "_law_table", "_law_word"]) fun _ _ _ _ _ _ us hl => match us, hl with | [_, _, _], _ => rfl,
     f_law := f_law,
     fd_law := _,
     F_law := fun_mk (st := s_law) l_law c_law k_law,
     g_law := PySem.W.mg_of X G a_law,
     b_law := (fun_mk (st := s_law) l_law c_law k_law).binds (ps := ["_law_script"]) fun _ _ _ _ _ _ us hl => match us, hl with | [_], _ => rfl,
     b_law_all := fun s v => .of_eq rfl }, trivial⟩
theorem law_walk {l : PySem.W.OpenLaw} {q : Program} {loose : List Str} {XP : (Str → Option Value) → Heap → Prop} {YP : World → Heap → Prop} {d : DefRec} {K : Params → PySem.W.Frag}
    (hn : l.most = some 63) (hdf : d.params.defaults = []) (hd : d.name = "law") (hY : ∀ (w : World) (h : Heap), YP w h → (K w.params).In h)
    (F : ∀ (w : World) (mg : Str → Option Value) (h : Heap), (K w.params).In h → h.Ns mainGlobals mg → ∃ _ : Txt (K w.params) mg, True) :
    PySem.W.WalkO q loose XP YP l.row.toRowW d [] (fun f vs => PySem.call f vs) := by
  refine L2.walk_of (n := 63) (k := 14) (x := "_law_script") (CX := fun _ => CX0) (sp := fun w => spLaw (K w.params)) hn (by decide) hdf ⟨rfl, by decide, by decide⟩ hY ?_ (fun _ _ a ns hl _ hS => ⟨a, ns, rfl, hS, hl, fun _ => rfl⟩) fun _ _ _ _ _ z => z
  intro w mg fa h KX G hfa
  obtain ⟨T, _⟩ := F w mg h KX G
  have e := hfa.symm.trans (hd ▸ T.g_law)
  cases e
  exact ⟨T.fd_law, fun s v => T.b_law_all s v, fun base _ _ => ok_law T⟩
end Ag

open PySem PySem.W PyProof.Rows in
set_option maxRecDepth 100000 in
set_option maxHeartbeats 0 in
theorem PySem.Challenge.cw_addedgrounds_k07_whole_holes_filled_holds : PySem.Challenge.rw_addedgrounds_k07_whole_holes_filled.Holds := by
  w_on; o_law; k_head; (case hw => w_witness2)
  k_fill
  refine Ag.law_walk (l := PySem.Challenge.rw_addedgrounds_k07_whole_holes_filled) rfl rfl rfl (fun w h Y => PySem.W.kIn_of Y) ?F
  case F =>
    intro w mg h KX G
    refine' Ag.txt_mk KX G ?z_all ?z_bool ?z_dict ?z_int ?z_isinstance ?z_len ?z_list ?z_range ?z_sorted ?z_str ?z_tuple ?z_zip ?a_PAIRS ?l_PAIRS ?a_holes_of ?l_holes_of ?c_holes_of ?k_holes_of ?a__law_bag ?l__law_bag ?c__law_bag ?k__law_bag ?a__law_pull ?l__law_pull ?c__law_pull ?k__law_pull ?a__law_any ?l__law_any ?c__law_any ?k__law_any ?a__law_like ?l__law_like ?c__law_like ?k__law_like ?a__law_names ?l__law_names ?c__law_names ?k__law_names ?a__law_form ?l__law_form ?c__law_form ?k__law_form ?a__law_shape ?l__law_shape ?c__law_shape ?k__law_shape ?a__law_match ?l__law_match ?c__law_match ?k__law_match ?a__law_put ?l__law_put ?c__law_put ?k__law_put ?a_law ?l_law ?c_law ?k_law
    (case z_all => k_is)
    (case z_bool => k_is)
    (case z_dict => k_is)
    (case z_int => k_is)
    (case z_isinstance => k_is)
    (case z_len => k_is)
    (case z_list => k_is)
    (case z_range => k_is)
    (case z_sorted => k_is)
    (case z_str => k_is)
    (case z_tuple => k_is)
    (case z_zip => k_is)
    (case a_PAIRS => k_is)
    (case l_PAIRS => k_is)
    (case a_holes_of => k_is)
    (case l_holes_of => k_is)
    (case c_holes_of => k_is)
    (case k_holes_of => k_is)
    (case a__law_bag => k_is)
    (case l__law_bag => k_is)
    (case c__law_bag => k_is)
    (case k__law_bag => k_is)
    (case a__law_pull => k_is)
    (case l__law_pull => k_is)
    (case c__law_pull => k_is)
    (case k__law_pull => k_is)
    (case a__law_any => k_is)
    (case l__law_any => k_is)
    (case c__law_any => k_is)
    (case k__law_any => k_is)
    (case a__law_like => k_is)
    (case l__law_like => k_is)
    (case c__law_like => k_is)
    (case k__law_like => k_is)
    (case a__law_names => k_is)
    (case l__law_names => k_is)
    (case c__law_names => k_is)
    (case k__law_names => k_is)
    (case a__law_form => k_is)
    (case l__law_form => k_is)
    (case c__law_form => k_is)
    (case k__law_form => k_is)
    (case a__law_shape => k_is)
    (case l__law_shape => k_is)
    (case c__law_shape => k_is)
    (case k__law_shape => k_is)
    (case a__law_match => k_is)
    (case l__law_match => k_is)
    (case c__law_match => k_is)
    (case k__law_match => k_is)
    (case a__law_put => k_is)
    (case l__law_put => k_is)
    (case c__law_put => k_is)
    (case k__law_put => k_is)
    (case a_law => k_is)
    (case l_law => k_is)
    (case c_law => k_is)
    (case k_law => k_is)

