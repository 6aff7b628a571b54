import PyProof.Rows.All
import Wide.All
import OpenK.AllK
import Wide.FinOn
import HandS.ForMost
import HandS.Wide
import HandS.IsInst
import HandS.Zip
import HandS.Deep
import HandS.TupAny
import HandS.Codes
import HandS.Walk
import HandS.Defaults
import PySem.Challenge.RW_addedgrounds_k02_names
set_option Elab.async false
set_option maxRecDepth 100000
set_option maxHeartbeats 4000000
namespace Ag
open PySem L2
open C8 (pss_cut tCut)
section
variable {P : Program} {w : World} {K : PySem.W.Frag} {mg : Str → Option Value} {base : Heap}
/-! heaps: all but the bag at b stays -/
def Ext (b : Addr) (H H' : Hp) : Prop := ∀ a o, a ≠ b → H a = some o → H' a = some o
theorem Ext.refl (b : Addr) (H : Hp) : Ext b H H := fun _ _ _ h => h
theorem Ext.trans {b : Addr} {H H1 H2 : Hp} (x : Ext b H H1) (y : Ext b H1 H2) : Ext b H H2 := fun a o n h => y a o n (x a o n h)
theorem Ext.upd (b : Addr) (H : Hp) (o : HO) : Ext b H (L2.upd H b o) := fun a u n h => by rw [upd_ne n]; exact h
theorem Ext.laid {b p : Addr} {H : Hp} (o : HO) (hp : H p = none) : Ext b H (L2.upd H p o) := fun a u n h => by
  rw [upd_ne (ne_of_none h hp)]; exact h
theorem Ext.same {b : Addr} {H H' : Hp} (s : Same H H') : Ext b H H' := fun a o _ h => s a o h
theorem Ext.free {b p : Addr} {H H' : Hp} (x : Ext b H H') (n : p ≠ b) (h : H' p = none) : H p = none := by
  cases q : H p with
  | none => rfl
  | some o => rw [x p o n q] at h; cases h
theorem Same.laid {p : Addr} {H : Hp} (o : HO) (hp : H p = none) : Same H (L2.upd H p o) := fun a u h => by
  rw [upd_ne (ne_of_none h hp)]; exact h
/-- a store at what is new -/
theorem Same.fresh {p : Addr} {H H' : Hp} (o : HO) (s : Same H H') (hp : H p = none) : Same H (L2.upd H' p o) := fun a u h => by
  rw [upd_ne (ne_of_none h hp)]; exact s a u h
theorem Ext.fresh {b p : Addr} {H H' : Hp} (o : HO) (s : Ext b H H') (hp : H p = none) : Ext b H (L2.upd H' p o) := fun a u n h => by
  rw [upd_ne (ne_of_none h hp)]; exact s a u n h

/-! the bag of drawn numbers: its list at b, its cells at c -/
def BagAt (b c : Addr) (H : Hp) : Prop := ∃ (ns : List Int) (i : Nat) (big seed cnt : Int),
  H b = some (.lst [.ref c, .int i, .int big, .int seed, .int cnt]) ∧ H c = some (.lst (ns.map V.int)) ∧ i ≤ ns.length ∧ ns.length ≤ 63 ∧ 0 ≤ big ∧ 0 ≤ seed ∧ seed < 2147483629
theorem BagAt.lst {b c : Addr} {H : Hp} (h : BagAt b c H) : ∃ xs, H b = some (.lst xs) := by
  obtain ⟨ns, i, big, seed, cnt, h, _⟩ := h
  exact ⟨_, h⟩
theorem bag_ne {b c : Addr} {H : Hp} {xs : List V} {ns : List Int} (h : H b = some (.lst (.ref c :: xs))) (h' : H c = some (.lst (ns.map V.int))) : c ≠ b := fun e => by
  rw [e, h] at h'
  cases ns with
  | nil => injection h' with q; injection q with q; cases q
  | cons n ns => injection h' with q; injection q with q; injection q with q; cases q
theorem BagAt.ext {b c : Addr} {H H' : Hp} (h : BagAt b c H) (e : Same H H') : BagAt b c H' := by
  obtain ⟨ns, i, big, seed, cnt, h1, h2, r⟩ := h
  exact ⟨ns, i, big, seed, cnt, e _ _ h1, e _ _ h2, r⟩
/-- a new address is neither -/
theorem BagAt.apart {b c p : Addr} {H : Hp} (h : BagAt b c H) (hp : H p = none) : p ≠ b ∧ p ≠ c := by
  obtain ⟨ns, i, big, seed, cnt, h1, h2, r⟩ := h
  exact ⟨fun e => (by rw [e, h1] at hp; cases hp), fun e => (by rw [e, h2] at hp; cases hp)⟩
theorem BagAt.store {b c p : Addr} {H : Hp} (o : HO) (h : BagAt b c H) (n : p ≠ b ∧ p ≠ c) : BagAt b c (L2.upd H p o) := by
  obtain ⟨ns, i, big, seed, cnt, h1, h2, r⟩ := h
  exact ⟨ns, i, big, seed, cnt, by rw [upd_ne n.1.symm]; exact h1, by rw [upd_ne n.2.symm]; exact h2, r⟩
/-! data -/
def tyN : PyData → String
  | .none => "NoneType" | .bool _ => "bool" | .int _ => "int" | .str _ => "str" | .list _ => "list" | .tuple _ => "tuple" | .dict _ => "dict"
theorem SqL.tyx {K : PySem.W.Frag} {H : Hp} {a : Addr} {xs : List V} (h : SqL K H a xs) : TyX K H (.ref a) (.type "list") := by
  rcases h with (h | ⟨o, h⟩) | h
  · exact .base (.lst h)
  · exact .base (.frz h)
  · obtain ⟨o, its, n, h1, h2, _⟩ := h
    exact .kList h1 h2
theorem SqT.tyx {K : PySem.W.Frag} {H : Hp} {a : Addr} {xs : List V} (h : SqT K H a xs) : TyX K H (.ref a) (.type "tuple") := by
  rcases h with (h | ⟨o, h⟩) | h
  · exact .base (.tup h)
  · exact .fTuple h
  · obtain ⟨o, its, n, h1, h2, _⟩ := h
    exact .kTuple h1 h2
theorem Dp.tyx {K : PySem.W.Frag} {H : Hp} {v : V} {d : PyData} (h : Dp K H v d) : TyX K H v (.type (tyN d)) := by
  cases h with
  | non => exact .base .non
  | bl b => exact .base (.bl b)
  | int i => exact .base (.int i)
  | str x => exact .base (.str x)
  | lst h _ => exact SqL.tyx h
  | tup h _ => exact SqT.tyx h
theorem Same.sqT {K : PySem.W.Frag} {H H' : Hp} {a : Addr} {xs : List V} (s : Same H H') (h : SqT K H a xs) : SqT K H' a xs := by
  rcases h with (h | ⟨o, h⟩) | h
  · exact .inl (.inl (s _ _ h))
  · exact .inl (.inr ⟨o, s _ _ h⟩)
  · exact .inr h
mutual
theorem Dp.same {K : PySem.W.Frag} {H H' : Hp} (s : Same H H') : ∀ (d : PyData) (v : V), Dp K H v d → Dp K H' v d
  | .none, _, h => by cases h; exact .non
  | .bool b, _, h => by cases h; exact .bl b
  | .int i, _, h => by cases h; exact .int i
  | .str x, _, h => by cases h; exact .str x
  | .list ds, _, h => by
    cases h with
    | lst h1 h2 => exact .lst (s.seq h1) (DpAll.same s ds _ h2)
  | .tuple ds, _, h => by
    cases h with
    | tup h1 h2 => exact .tup (Same.sqT s h1) (DpAll.same s ds _ h2)
  | .dict _, _, h => by cases h
theorem DpAll.same {K : PySem.W.Frag} {H H' : Hp} (s : Same H H') : ∀ (ds : List PyData) (vs : List V), DpAll K H vs ds → DpAll K H' vs ds
  | [], _, h => by cases h; exact .nil
  | d :: ds, _, h => by
    cases h with
    | cons h1 h2 => exact .cons (Dp.same s d _ h1) (DpAll.same s ds _ h2)
end
mutual
/-- no list stands in it -/
def tupOnly : PyData → Bool
  | .list _ => false | .dict _ => false | .tuple ds => tupAll ds | _ => true
def tupAll : List PyData → Bool
  | [] => true | d :: ds => tupOnly d && tupAll ds
end
theorem Ext.sqT {K : PySem.W.Frag} {b : Addr} {H H' : Hp} {a : Addr} {xs ys : List V} (e : Ext b H H') (hb : H b = some (.lst ys)) (h : SqT K H a xs) : SqT K H' a xs := by
  rcases h with (h | ⟨o, h⟩) | h
  · exact .inl (.inl (e _ _ (ne_of h hb (by intro q; cases q)) h))
  · exact .inl (.inr ⟨o, e _ _ (ne_of h hb (by intro q; cases q)) h⟩)
  · exact .inr h
mutual
theorem Dp.ext {K : PySem.W.Frag} {b : Addr} {H H' : Hp} {ys : List V} (e : Ext b H H') (hb : H b = some (.lst ys)) : ∀ (d : PyData) (v : V), tupOnly d = true → Dp K H v d → Dp K H' v d
  | .none, _, _, h => by cases h; exact .non
  | .bool b, _, _, h => by cases h; exact .bl b
  | .int i, _, _, h => by cases h; exact .int i
  | .str x, _, _, h => by cases h; exact .str x
  | .list ds, _, t, h => by cases t
  | .tuple ds, _, t, h => by
    cases h with
    | tup h1 h2 => exact .tup (Ext.sqT e hb h1) (DpAll.ext e hb ds _ t h2)
  | .dict _, _, _, h => by cases h
theorem DpAll.ext {K : PySem.W.Frag} {b : Addr} {H H' : Hp} {ys : List V} (e : Ext b H H') (hb : H b = some (.lst ys)) : ∀ (ds : List PyData) (vs : List V), tupAll ds = true → DpAll K H vs ds → DpAll K H' vs ds
  | [], _, _, h => by cases h; exact .nil
  | d :: ds, _, t, h => by
    have t' : tupOnly d = true ∧ tupAll ds = true := by
      unfold tupAll at t
      exact Bool.and_eq_true_iff.mp t
    cases h with
    | cons h1 h2 => exact .cons (Dp.ext e hb d _ t'.1 h1) (DpAll.ext e hb ds _ t'.2 h2)
end
theorem DpAll.length {K : PySem.W.Frag} {H : Hp} : ∀ {vs : List V} {ds : List PyData}, DpAll K H vs ds → vs.length = ds.length
  | _, _, .nil => rfl
  | _, _, .cons _ h => by rw [List.length_cons, List.length_cons, DpAll.length h]
theorem DpAll.get {K : PySem.W.Frag} {H : Hp} : ∀ {vs : List V} {ds : List PyData} {i : Nat} {v : V}, DpAll K H vs ds → vs[i]? = some v → ∃ d, ds[i]? = some d ∧ Dp K H v d
  | _, _, _, _, .nil, e => by simp at e
  | _, _, 0, _, .cons (d := d) h1 _, e => by simp at e; subst e; exact ⟨d, rfl, h1⟩
  | _, _, i + 1, v, .cons _ h2, e => by
    obtain ⟨d, e1, e2⟩ := DpAll.get (i := i) (v := v) h2 (by simpa using e)
    exact ⟨d, by simpa using e1, e2⟩
theorem walk_zipT {K : PySem.W.Frag} {a b : Addr} {xs ys : List V} {n : Nat} (hn : n = min xs.length ys.length) : Walk (RZ.ItzT K a b) n (fun H => SqT K H a xs ∧ SqT K H b ys) (YPair (fun i => xs[i]?) (fun i => ys[i]?)) := by
  subst hn
  constructor
  · intro i H hi q
    exact ⟨xs, ys, xs[i]'(by omega), ys[i]'(by omega), q.1, q.2, by simp, by simp⟩
  · intro H q
    exact ⟨xs, ys, q.1, q.2, by omega⟩
  · rintro i H v H' _ q ⟨T, x, z, h1, h2, h3, h4, h5⟩
    exact ⟨T, x, z, h1, h2, h3, h4 xs q.1, h5 ys q.2⟩
theorem upd_self {H : Hp} {a : Addr} {o : HO} (h : H a = some o) : upd H a o = H := by
  funext x
  unfold upd
  split
  · rename_i e; rw [e, h]
  · rfl

def spPull : Sp := fun vs H Q _ => ∃ (b c : Addr) (m : Int), vs = [.ref b, .int m] ∧ BagAt b c H ∧ 0 < m ∧ m < 1099511627776 ∧
  ∀ (d : Int) (H' : Hp), 0 ≤ d → d < m → Ext b H H' → BagAt b c H' → Q (.int d) H'
def spBag (K : PySem.W.Frag) : Sp := fun vs H Q _ => ∃ (a : Addr) (ns : List Int), vs = [.ref a] ∧ SqL K H a (ns.map V.int) ∧ ns.length ≤ 63 ∧
  ∀ H' b c, Same H H' → H b = none → BagAt b c H' → Q (.ref b) H'
theorem atI_int {α : Type} {xs : List α} {d : Int} {v : α} (h0 : 0 ≤ d) (h : xs[d.toNat]? = some v) : atI xs d = some v := by
  obtain ⟨n, rfl⟩ := Int.eq_ofNat_of_zero_le h0
  exact atI_nat h

/-- f(k = v, ..), no positional value -/
theorem pe_callN0 {X : Cx} {CX : CXT} {k : Nat} {f : Addr} {fd : FuncData} {ps ks : List Str} {sp : Sp} {E : XK} {x : Str} {p pos : Pos} {kws : List Keyword} {tk : TA}
    {g : List Value → List Value → List Value} {gV : List V → List V → List V} (F : FnOk X.prog X.w X.K X.mg X.base CX k f fd ps sp) (hr : Room k X.A) (hg : Gl X x)
    (hm : X.mg x = some (.ref f)) (hk : PySem.W.keepIn X.K (.ref f) = true) (hb : KBn X.K fd ps 0 ks g gV) (hx : Passes CX X E) (hkw : PK X kws tk)
    (hall : (backToKw pos (keywordEach kws X.env)).all (·.1.isSome) = true := by rfl)
    (hks : (backToKw pos (keywordEach kws X.env)).filterMap (·.1) = ks := by rfl)
    (hdb : (x == ("__debug__" : Str)) = false := by decide)
    (hpl : ((backTo pos (starEach [] X.env)).any (·.1) || (backToKw pos (keywordEach kws X.env)).any (·.1.isNone)) = false := by rfl) :
    PE X (.Call (.Name x p) [] kws pos) (tCallN 0 ks.length sp gV E tNil tk) := by
  constructor
  intro pins s σ H Q I h
  refine PySem.wpAny_Call_Name_kw (ld_glob I hg hm ?_ hdb)
  refine PySem.W.callWith_KW0 (h₀ := X.base) I.ok.mod.kin hk hall ?_ hpl
  refine thn (hkw.run pos pins s σ H _ I h) ?_
  rintro ws s2 ⟨zs, H2, I2, rz, l1, l2, q2⟩
  refine ⟨I2.kIn, ?_⟩
  rw [hks]
  exact run_fnN (us := []) (vs := []) F hr hb hx I2 .nil rz rfl l2 q2

end
end Ag
namespace Ag
open PySem L2
open C8 (pss_cut tCut)
section
variable {P : Program} {w : World} {K : PySem.W.Frag} {mg : Str → Option Value} {base : Heap}
def top (i : Nat) : Stmt := PySem.Challenge.pw_addedgrounds_k02_names.main.body.getD i (.Pass ⟨0, 0, 0, 0⟩)
abbrev s_is_name : Stmt := top 3
theorem sc_is_name : FnScope ["value", "sign"] ["value"] (defScope s_is_name) :=
  ⟨rfl, rfl, rfl, by decide +kernel, rfl, by decide +kernel, by decide +kernel⟩
abbrev s__law_bag : Stmt := top 5
theorem sc__law_bag : FnScope ["_law_script"] ["_law_script"] (defScope s__law_bag) :=
  ⟨rfl, rfl, rfl, by decide +kernel, rfl, by decide +kernel, by decide +kernel⟩
abbrev s__law_pull : Stmt := top 6
theorem sc__law_pull : FnScope ["_law_bag_here", "_law_many", "_law_cell", "_law_digit", "_law_seed"] ["_law_bag_here", "_law_many"] (defScope s__law_pull) :=
  ⟨rfl, rfl, rfl, by decide +kernel, rfl, by decide +kernel, by decide +kernel⟩
abbrev s__law_any : Stmt := top 7
theorem sc__law_any : FnScope ["_law_bag_here", "_law_things"] ["_law_bag_here", "_law_things"] (defScope s__law_any) :=
  ⟨rfl, rfl, rfl, by decide +kernel, rfl, by decide +kernel, by decide +kernel⟩
abbrev s__law_like : Stmt := top 8
theorem sc__law_like : FnScope ["_law_found", "_law_due", "_law_key", "_law_one", "_law_other"] ["_law_found", "_law_due"] (defScope s__law_like) :=
  ⟨rfl, rfl, rfl, by decide +kernel, rfl, by decide +kernel, by decide +kernel⟩
abbrev s__law_names : Stmt := top 9
theorem sc__law_names : FnScope ["_law_bag_here", "_law_many", "_law_letters", "_law_stem", "_law_at", "_law_first", "_law_k"] ["_law_bag_here", "_law_many"] (defScope s__law_names) :=
  ⟨rfl, rfl, rfl, by decide +kernel, rfl, by decide +kernel, by decide +kernel⟩
abbrev s_law : Stmt := top 10
theorem sc_law : FnScope ["_law_script", "_law_bag_here", "_law_names_here", "_law_letters", "_law_long", "_law_at", "_law_bent", "_law_odd", "_law_found", "_law_k", "_law_name"] ["_law_script"] (defScope s_law) :=
  ⟨rfl, rfl, rfl, by decide +kernel, rfl, by decide +kernel, by decide +kernel⟩
structure Txt (K : PySem.W.Frag) (mg : Str → Option Value) where
  n_all : mg "all" = none
  n_bool : mg "bool" = none
  n_dict : mg "dict" = none
  n_int : mg "int" = none
  n_isinstance : mg "isinstance" = none
  n_len : mg "len" = none
  n_list : mg "list" = none
  n_range : mg "range" = none
  n_sorted : mg "sorted" = none
  n_str : mg "str" = none
  n_tuple : mg "tuple" = none
  n_zip : mg "zip" = none
  k_LETTERS : Tok
  g_LETTERS : mg "LETTERS" = some (.str "abcdefghijklmnopqrstuvwxyz" k_LETTERS)
  k_MOST_LETTERS : Tok
  g_MOST_LETTERS : mg "MOST_LETTERS" = some (.int 6 k_MOST_LETTERS)
  f_is_name : Addr
  fd_is_name : FuncData
  F_is_name : Fun K "is_name" "is_name" s_is_name f_is_name fd_is_name
  g_is_name : mg "is_name" = some (.ref f_is_name)
  b_is_name : Binds K fd_is_name ["value"] []
  f__law_bag : Addr
  fd__law_bag : FuncData
  F__law_bag : Fun K "_law_bag" "_law_bag" s__law_bag f__law_bag fd__law_bag
  g__law_bag : mg "_law_bag" = some (.ref f__law_bag)
  b__law_bag : Binds K fd__law_bag ["_law_script"] []
  f__law_pull : Addr
  fd__law_pull : FuncData
  F__law_pull : Fun K "_law_pull" "_law_pull" s__law_pull f__law_pull fd__law_pull
  g__law_pull : mg "_law_pull" = some (.ref f__law_pull)
  b__law_pull : Binds K fd__law_pull ["_law_bag_here", "_law_many"] []
  f__law_any : Addr
  fd__law_any : FuncData
  F__law_any : Fun K "_law_any" "_law_any" s__law_any f__law_any fd__law_any
  g__law_any : mg "_law_any" = some (.ref f__law_any)
  b__law_any : Binds K fd__law_any ["_law_bag_here", "_law_things"] []
  f__law_like : Addr
  fd__law_like : FuncData
  F__law_like : Fun K "_law_like" "_law_like" s__law_like f__law_like fd__law_like
  g__law_like : mg "_law_like" = some (.ref f__law_like)
  b__law_like : Binds K fd__law_like ["_law_found", "_law_due"] []
  f__law_names : Addr
  fd__law_names : FuncData
  F__law_names : Fun K "_law_names" "_law_names" s__law_names f__law_names fd__law_names
  g__law_names : mg "_law_names" = some (.ref f__law_names)
  b__law_names : Binds K fd__law_names ["_law_bag_here", "_law_many"] []
  f_law : Addr
  fd_law : FuncData
  F_law : Fun K "law" "law" s_law f_law fd_law
  g_law : mg "law" = some (.ref f_law)
  b_law : Binds K fd_law ["_law_script"] []
  b_law_all : ∀ (s : Shared) (v : Value), BindsTo s fd_law ⟨[v], []⟩ [("_law_script", v)]
theorem kb_is_name_0_value (T : Txt K mg) : KBn K T.fd_is_name ["value"] 0 ["value"] (fun us ws => us ++ ws) (fun vs zs => vs ++ zs) := by
  obtain ⟨_, _, _, _, _, _, _, _, _, e, _, _⟩ := T.F_is_name.ex
  rw [e]
  exact ⟨fun s us ws _ h1 h2 => match us, ws, h1, h2 with | [], [_], _, _ => .of_eq rfl, fun r1 r2 => Vals.append r1 r2⟩


end
end Ag
namespace Ag
open PySem L2
open C8 (pss_cut tCut)
section
variable {P : Program} {w : World} {K : PySem.W.Frag} {mg : Str → Option Value} {base : Heap}
theorem cut63 (ns : List Int) (h : ns.length ≤ 63) : cutV (ns.map V.int) none (some 63) = ns.map V.int := by
  unfold cutV
  have e : HT.sIx (ns.map V.int).length (ns.map V.int).length (some 63) = (ns.map V.int).length := by
    unfold HT.sIx; simp; omega
  rw [e]
  have e0 : HT.sIx (ns.map V.int).length 0 none = 0 := rfl
  rw [e0]
  simp [List.take_of_length_le]
theorem ok_bag (T : Txt K mg) : FnOk P w K mg base CX0 1 T.f__law_bag T.fd__law_bag ["_law_script"] (spBag K) := by
  refine T.F__law_bag.ok sc__law_bag (fun vs H Q E h => ?_) (fun cdv A outer s H vs Q E hr h => ?_)
  · obtain ⟨a, ns, rfl, _⟩ := h
    rfl
  · obtain ⟨a, ns, rfl, hS, hl, k⟩ := h
    refine ⟨_, (pss_one (ps_ret (pe_lst (pa_cons (pe_callTy call_list_of (by rfl) T.n_list (by decide +kernel) (pa_cons (pe_slice sl_list (pv 0) po_none (po_some pe_int)) pa_nil)) (pa_cons pe_int (pa_cons pe_int (pa_cons pe_int (pa_cons pe_int pa_nil)))))))), ?_⟩
    refine ⟨_, rfl, _, rfl, a, _, rfl, hS, fun p hp => ?_⟩
    refine ⟨p, _, rfl, .inl (SqL.of upd_same), fun c hc => ⟨by show 5 ≤ sizeLine; decide, fun b hb => ?_⟩⟩
    rw [cut63 ns hl] at *
    have s1 : Same H (upd H p (.lst (ns.map V.int))) := Same.laid _ hp
    have s2 := s1.trans (Same.laid (.lst (ns.map V.int)) hc)
    have s3 := s2.trans (Same.laid (.lst [.ref c, .int 0, .int 0, .int 4932, .int 0]) hb)
    refine k _ b c s3 (s2.free hb) ⟨ns, 0, 0, 4932, 0, upd_same, ?_, Nat.zero_le _, hl, by decide, by decide, by decide⟩
    have ncb : c ≠ b := fun e => by rw [e, upd_same] at hb; cases hb
    rw [upd_ne ncb, upd_same]

end
end Ag
namespace Ag
open PySem L2
open C8 (pss_cut tCut)
section
variable {P : Program} {w : World} {K : PySem.W.Frag} {mg : Str → Option Value} {base : Heap}
theorem ok_pull (T : Txt K mg) : FnOk P w K mg base CX0 1 T.f__law_pull T.fd__law_pull ["_law_bag_here", "_law_many"] spPull := by
  refine T.F__law_pull.ok sc__law_pull (fun vs H Q E h => ?_) (fun cdv A outer s H vs Q E hr h => ?_)
  · obtain ⟨b, c, m, rfl, _⟩ := h
    rfl
  · obtain ⟨b, c, m, rfl, hB, m0, m1, k⟩ := h
    refine ⟨_, (pss_cut (ps_if (PW.pt (pw_and (pt_cmpR op_eq (pe_ix ix_list (pv 0) pe_int (fun _ _ => rfl)) pe_int (nomark _)) (pw_and1 (pt_cmpR op_lt (pe_ix ix_list (pv 0) pe_int (fun _ _ => rfl)) (pe_callB call_len_seq (by rfl) T.n_len (by decide +kernel) (pa_cons (pe_ix ix_list (pv 0) pe_int (fun _ _ => rfl)) pa_nil)) (nomark _))))) (pss_cons (ps_set (i := 2) sc__law_pull.nd rfl (Or.inl rfl) (pe_ix ix_list (pe_ix ix_list (pv 0) pe_int (fun _ _ => rfl)) (pe_ix ix_list (pv 0) pe_int (fun _ _ => rfl)) (fun _ _ => rfl)))
      (pss_cons (ps_asg (pe_op op_add (pe_ix ix_list (pv 0) pe_int (fun _ _ => rfl)) pe_int) (pg_sub (pv 0) pe_int set_list))
      (pss_one (ps_if (pt_cmpR op_ge (pv 2) (pe_op op_pow pe_int pe_int) (nomark _)) (pss_one (ps_asg (pv 2) (pg_sub (pv 0) pe_int set_list))) (pss_one (ps_asg (pe_op op_mod (pe_callTy call_int1 (by rfl) T.n_int (by decide +kernel) (pa_cons (pe_op op_add (pe_op op_add (pe_op op_mul (pe_ix ix_list (pv 0) pe_int (fun _ _ => rfl)) pe_int) (pe_op op_mul (pe_op op_mod (pe_callTy call_int1 (by rfl) T.n_int (by decide +kernel) (pa_cons (pv 2) pa_nil)) pe_int) pe_int)) pe_int) pa_nil)) pe_int) (pg_sub (pv 0) pe_int set_list))))))) pss_nil)
      (pss_cons (ps_if (pt_cmpR op_gt (pe_ix ix_list (pv 0) pe_int (fun _ _ => rfl)) pe_int (nomark _)) (pss_cons (ps_set (i := 3) sc__law_pull.nd rfl (Or.inl rfl) (pe_op op_mod (pe_callTy call_int1 (by rfl) T.n_int (by decide +kernel) (pa_cons (pe_ix ix_list (pv 0) pe_int (fun _ _ => rfl)) pa_nil)) (pv 1)))
      (pss_cons (ps_asg (pe_op op_fdivW (pe_ix ix_list (pv 0) pe_int (fun _ _ => rfl)) (pv 1)) (pg_sub (pv 0) pe_int set_list))
      (pss_one (ps_ret (pv 3))))) pss_nil)
      (pss_cons (ps_asg (pe_op op_add (pe_ix ix_list (pv 0) pe_int (fun _ _ => rfl)) pe_int) (pg_sub (pv 0) pe_int set_list))
      (pss_cons (ps_set (i := 4) sc__law_pull.nd rfl (Or.inl rfl) (pe_ix ix_list (pv 0) pe_int (fun _ _ => rfl)))
      (pss_cons (ps_asg (pe_op op_mod (pe_callTy call_int1 (by rfl) T.n_int (by decide +kernel) (pa_cons (pe_op op_add (pe_op op_add (pe_op op_add (pe_op op_mul (pe_op op_mul (pv 4) (pv 4)) pe_int) (pe_op op_mul (pv 4) pe_int)) (pe_op op_mul (pe_ix ix_list (pv 0) pe_int (fun _ _ => rfl)) pe_int)) pe_int) pa_nil)) pe_int) (pg_sub (pv 0) pe_int set_list))
      (pss_one (ps_ret (pe_op op_mod (pe_callTy call_int1 (by rfl) T.n_int (by decide +kernel) (pa_cons (pe_op op_add (pe_op op_fdivW (pe_ix ix_list (pv 0) pe_int (fun _ _ => rfl)) pe_int) (pe_op op_mul (pe_op op_mod (pe_callTy call_int1 (by rfl) T.n_int (by decide +kernel) (pa_cons (pe_ix ix_list (pv 0) pe_int (fun _ _ => rfl)) pa_nil)) pe_int) pe_int)) pa_nil)) (pv 1))))))))), ?_⟩
    obtain ⟨ns, i, big, seed, cnt, hb, hc, hi, hl, b0, s0, s1⟩ := hB
    have ncb := bag_ne hb hc
    refine ⟨fun σ' H' => ∃ (cell : Option V) (i big seed : Int) (i' : Nat), i = i' ∧ i' ≤ ns.length ∧ 0 ≤ big ∧ 0 ≤ seed ∧ seed < 2147483629 ∧ σ' = [some (.ref b), some (.int m), cell, none, none] ∧ H' = upd H b (.lst [.ref c, .int i, .int big, .int seed, .int cnt]), ?_, ?_⟩
    · refine ⟨_, rfl, b, _, 2, _, rfl, rfl, SqL.of hb, rfl, rfl, _, rfl, ?_⟩
      refine ite2 (fun hbig => ?_) (fun _ => ?_)
      · refine ⟨_, rfl, b, _, 1, _, rfl, rfl, SqL.of hb, rfl, _, rfl, b, _, 0, _, rfl, rfl, SqL.of hb, rfl, c, _, rfl, .inl (SqL.of hc), _, _, rfl, rfl, _, rfl, ?_⟩
        refine ite2 (fun hlt => ?_) (fun _ => ?_)
        · have hlt' : i < ns.length := by
            have q := of_decide_eq_true hlt
            rw [List.length_map] at q
            omega
          refine ⟨_, rfl, b, _, 0, _, rfl, rfl, SqL.of hb, rfl, _, rfl, b, _, 1, _, rfl, rfl, SqL.of hb, rfl, c, _, _, .int ns[i], rfl, rfl, SqL.of hc, atI_nat (by rw [List.getElem?_map, List.getElem?_eq_getElem hlt']; rfl), ?_⟩
          refine ⟨_, rfl, b, _, 1, _, rfl, rfl, SqL.of hb, rfl, _, _, rfl, rfl, _, rfl, b, _, 1, 1, rfl, rfl, hb, rfl, ?_⟩
          refine ⟨_, rfl, 10, 18, rfl, rfl, ⟨by decide, by decide, by decide⟩, _, _, rfl, rfl, _, rfl, ?_⟩
          refine ite2 (fun hge => ?_) (fun _ => ?_)
          · refine ⟨_, rfl, _, rfl, b, _, 2, 2, rfl, rfl, upd_same, rfl, ?_⟩
            have hge' := of_decide_eq_true hge
            refine ⟨_, (i : Int) + 1, ns[i], seed, i + 1, by omega, hlt', ?_, s0, s1, rfl, ?_⟩
            · have : (0 : Int) ≤ 10 ^ 18 := by decide
              exact Int.le_trans this hge'
            · rw [upd_upd]; rfl
          · refine ⟨_, rfl, b, _, 3, _, rfl, rfl, SqL.of upd_same, rfl, _, _, rfl, rfl, .inr ⟨by decide, by decide⟩, ?_⟩
            refine ⟨_, rfl, .inl ⟨_, rfl, _, _, rfl, rfl, by show (0:Int) < 2147483489; decide, _, _, rfl, rfl, .inr ⟨by decide, by decide⟩, _, _, rfl, rfl, _, _, rfl, rfl, .inl ⟨_, rfl, _, _, rfl, rfl, by show (0:Int) < 2147483629; decide, _, rfl, b, _, 3, 3, rfl, rfl, upd_same, rfl, ?_⟩⟩⟩
            refine ⟨_, (i : Int) + 1, big, (seed * 40009 + ns[i] % 2147483489 * 30011 + 17) % 2147483629, i + 1, by omega, hlt', b0, Int.emod_nonneg _ (by decide), Int.emod_lt_of_pos _ (by decide), rfl, ?_⟩
            rw [upd_upd]; rfl
        · exact ⟨_, i, big, seed, i, rfl, hi, b0, s0, s1, rfl, (upd_self hb).symm⟩
      · exact ⟨_, i, big, seed, i, rfl, hi, b0, s0, s1, rfl, (upd_self hb).symm⟩
    · rintro σ' H' ⟨cell, i, big, seed, i', rfl, hi, b0, s0, s1, rfl, rfl⟩
      have hc' : ∀ o, upd H b o c = some (.lst (ns.map V.int)) := fun o => by rw [upd_ne ncb]; exact hc
      refine ⟨_, rfl, b, _, 2, _, rfl, rfl, SqL.of upd_same, rfl, _, _, rfl, rfl, _, rfl, ?_⟩
      refine ite2 (fun _ => ?_) (fun _ => ?_)
      · refine ⟨_, rfl, b, _, 2, _, rfl, rfl, SqL.of upd_same, rfl, .inl ⟨_, rfl, _, rfl, _, _, rfl, rfl, m0, ?_⟩⟩
        refine ⟨_, rfl, b, _, 2, _, rfl, rfl, SqL.of upd_same, rfl, _, rfl, _, _, rfl, rfl, wide_div m0 (b := 40) (by omega) (by decide) (by decide), _, rfl, b, _, 2, 2, rfl, rfl, upd_same, rfl, _, rfl, ?_⟩
        rw [upd_upd]
        refine k _ _ (Int.emod_nonneg _ (by omega)) (Int.emod_lt_of_pos _ m0) (Ext.upd b H _) ⟨ns, i', _, seed, cnt, upd_same, hc' _, hi, hl, Int.ediv_nonneg b0 (by omega), s0, s1⟩
      · refine ⟨_, rfl, b, _, 4, _, rfl, rfl, SqL.of upd_same, rfl, _, _, rfl, rfl, _, rfl, b, _, 4, 4, rfl, rfl, upd_same, rfl, ?_⟩
        refine ⟨_, rfl, b, _, 3, _, rfl, rfl, SqL.of upd_same, rfl, ?_⟩
        refine ⟨_, rfl, _, rfl, _, _, rfl, rfl, .inl ⟨by omega, by omega⟩, _, _, rfl, rfl, .inr ⟨by decide, by decide⟩, ?_⟩
        refine ⟨_, rfl, _, _, rfl, rfl, .inr ⟨by decide, by decide⟩, _, _, rfl, rfl, ?_⟩
        refine ⟨_, rfl, b, _, 4, _, rfl, rfl, SqL.of upd_same, rfl, _, _, rfl, rfl, .inr ⟨by decide, by decide⟩, _, _, rfl, rfl, _, _, rfl, rfl, ?_⟩
        refine .inl ⟨_, rfl, _, _, rfl, rfl, by show (0:Int) < 2147483629; decide, _, rfl, b, _, 3, 3, rfl, rfl, upd_same, rfl, ?_⟩
        refine ⟨_, rfl, b, _, 3, _, rfl, rfl, SqL.of upd_same, rfl, _, _, rfl, rfl, ⟨by decide, by decide⟩, ?_⟩
        refine ⟨_, rfl, b, _, 3, _, rfl, rfl, SqL.of upd_same, rfl, .inl ⟨_, rfl, _, _, rfl, rfl, by show (0:Int) < 7901; decide, _, _, rfl, rfl, .inr ⟨by decide, by decide⟩, _, _, rfl, rfl, ?_⟩⟩
        refine .inl ⟨_, rfl, _, rfl, _, _, rfl, rfl, m0, ?_⟩
        rw [upd_upd, upd_upd]
        exact k _ _ (Int.emod_nonneg _ (by omega)) (Int.emod_lt_of_pos _ m0) (Ext.upd b H _) ⟨ns, i', big, _, _, upd_same, hc' _, hi, hl, b0, Int.emod_nonneg _ (by decide), Int.emod_lt_of_pos _ (by decide)⟩

end
end Ag
namespace Ag
open PySem L2
open C8 (pss_cut tCut)
section
variable {P : Program} {w : World} {K : PySem.W.Frag} {mg : Str → Option Value} {base : Heap}
/-- an item of a list, of a tuple, or a sign of a text is drawn -/
def spAny (K : PySem.W.Frag) : Sp := fun vs H Q _ => ∃ (b c : Addr) (t : V), vs = [.ref b, t] ∧ BagAt b c H ∧
  ((∃ (l : Addr) (xs : List V), t = .ref l ∧ ((l ≠ b ∧ H l = some (.lst xs)) ∨ SqT K H l xs) ∧ 0 < xs.length ∧ xs.length < 1000000 ∧
      ∀ (i : Nat) (x : V) (H' : Hp), xs[i]? = some x → Ext b H H' → BagAt b c H' → Q x H') ∨
   (∃ z : Str, t = .str z ∧ 0 < z.length ∧ z.length < 1000000 ∧ ∀ (i cp : Nat) (H' : Hp), z.cps.toList[i]? = some cp → Ext b H H' → BagAt b c H' → Q (.str ⟨#[cp]⟩) H'))
theorem ok_any (T : Txt K mg) : FnOk P w K mg base CX0 2 T.f__law_any T.fd__law_any ["_law_bag_here", "_law_things"] (spAny K) := by
  have G__law_pull : FnOk P w K mg base CX0 1 T.f__law_pull T.fd__law_pull _ spPull := ok_pull T
  refine T.F__law_any.ok sc__law_any (fun vs H Q E h => ?_) (fun cdv A outer s H vs Q E hr h => ?_)
  · obtain ⟨b, c, t, rfl, _⟩ := h
    rfl
  · obtain ⟨b, c, t, rfl, hB, h⟩ := h
    refine ⟨_, (pss_one (ps_ret (pe_ix ix_seq (pv 1) (pe_call G__law_pull (hr.mono (by omega)) rfl T.g__law_pull T.F__law_pull.kp T.b__law_pull .nil pass0 (pa_cons (pv 0) (pa_cons (pe_callB call_len (by rfl) T.n_len (by decide +kernel) (pa_cons (pv 1) pa_nil)) pa_nil))) (fun _ _ => rfl)))), ?_⟩
    obtain ⟨ys, hb⟩ := hB.lst
    rcases h with ⟨l, xs, rfl, hl, h0, h1, k⟩ | ⟨z, rfl, h0, h1, k⟩
    · have hn : LenV K (.ref l) H xs.length := by
        rcases hl with ⟨_, hl⟩ | hl
        · exact .inl ⟨xs, SqL.of hl, rfl⟩
        · exact .inr ⟨xs, hl, rfl⟩
      refine ⟨_, rfl, _, rfl, _, rfl, _, xs.length, rfl, hn, b, c, _, rfl, hB, by omega, by omega, fun d H1 d0 d1 x1 hB' => ?_⟩
      have hd : d.toNat < xs.length := by omega
      have e : atI xs d = some xs[d.toNat] := atI_int d0 (by simp [hd])
      rcases hl with ⟨nb, hl⟩ | hl
      · exact .inl ⟨l, xs, d, _, rfl, rfl, SqL.of (x1 _ _ nb hl), e, k d.toNat _ H1 (by simp [hd]) x1 hB'⟩
      · exact .inr (.inl ⟨l, xs, d, _, rfl, rfl, Ext.sqT x1 hb hl, e, k d.toNat _ H1 (by simp [hd]) x1 hB'⟩)
    · have hz : z.length ≤ sizeLine := Nat.le_of_lt (Nat.lt_of_lt_of_le h1 (by decide))
      refine ⟨_, rfl, _, rfl, _, rfl, _, z.length, rfl, ⟨hz, rfl⟩, b, c, _, rfl, hB, by omega, by omega, fun d H1 d0 d1 x1 hB' => ?_⟩
      have hlen : z.cps.toList.length = z.length := by simp [Str.length]
      have hd : d.toNat < z.cps.toList.length := by omega
      have e : atI z.cps.toList d = some (z.cps.toList[d.toNat]'hd) := atI_int d0 (List.getElem?_eq_getElem hd)
      exact .inr (.inr ⟨z, d, _, rfl, rfl, hz, e, k d.toNat _ H1 (List.getElem?_eq_getElem hd) x1 hB'⟩)

end
end Ag
namespace Ag
open PySem L2
open C8 (pss_cut tCut)
section
variable {P : Program} {w : World} {K : PySem.W.Frag} {mg : Str → Option Value} {base : Heap}
/-- data nested less than n deep, its lists of bounded length -/
def fitD : Nat → PyData → Bool
  | 0, _ => false
  | n + 1, .list ds => decide (ds.length ≤ 100000) && ds.all (fitD n)
  | n + 1, .tuple ds => decide (ds.length ≤ 100000) && ds.all (fitD n)
  | _ + 1, .dict _ => false
  | _ + 1, _ => true
def spLike (K : PySem.W.Frag) (n : Nat) : Sp := fun vs H Q _ => ∃ (v u : V) (d : PyData), vs = [v, u] ∧ Dp K H v d ∧ Dp K H u d ∧ fitD n d = true ∧ ∀ H', Same H H' → Q (.bl true) H'
theorem kitAny2 {t a b : String} {x y : Bool} (h1 : kitB t a = some x) (h2 : kitB t b = some y) : PySem.W.kitAny K (.type t) [.type a, .type b] = some (x || y) := by
  refine kitAny_cons (kit_ty h1) (fun e => ?_) (fun e => by rw [e]; rfl)
  subst e
  refine kitAny_cons (kit_ty h2) (fun e => ?_) (fun e => by rw [e]; rfl)
  rw [e]
  exact kitAny_nil
/-- both are one data: the loop over zip gives True at each turn -/
theorem ok_like (T : Txt K mg) : ∀ n : Nat, FnOk P w K mg base CX0 n T.f__law_like T.fd__law_like ["_law_found", "_law_due"] (spLike K n)
  | 0 => ⟨fun vs H Q E h => (by obtain ⟨v, u, d, rfl, _⟩ := h; rfl), fun A outer s H args us vs Q E _ _ _ _ h => (by obtain ⟨v, u, d, _, _, _, h, _⟩ := h; cases h)⟩
  | n + 1 => by
    have G__law_like : FnOk P w K mg base CX0 n T.f__law_like T.fd__law_like _ (spLike K n) := ok_like T n
    refine T.F__law_like.ok sc__law_like (fun vs H Q E h => ?_) (fun cdv A outer s H vs Q E hr h => ?_)
    · obtain ⟨v, u, d, rfl, _⟩ := h
      rfl
    · obtain ⟨v, u, d, rfl, hv, hu, hf, k⟩ := h
      refine ⟨_, (pss_cons (ps_if (pt_val (pe_callB call_isi (by rfl) T.n_isinstance (by decide +kernel) (pa_cons (pv 1) (pa_cons (pe_bltn (v := .ty "dict") (u := .type "dict") (by rfl) T.n_dict (by decide +kernel) rfl) pa_nil)))) pss_never pss_nil)
      (pss_cons (ps_if (pt_val (pe_callB call_isiT (by rfl) T.n_isinstance (by decide +kernel) (pa_cons (pv 1) (pa_cons (pe_tup (pa_cons (pe_bltn (v := .ty "list") (u := .type "list") (by rfl) T.n_list (by decide +kernel) rfl) (pa_cons (pe_bltn (v := .ty "tuple") (u := .type "tuple") (by rfl) T.n_tuple (by decide +kernel) rfl) pa_nil))) pa_nil)))) (pss_cons (ps_if (PW.pt (pw_or (pt_cmpR op_ne (pe_callB call_isi (by rfl) T.n_isinstance (by decide +kernel) (pa_cons (pv 0) (pa_cons (pe_bltn (v := .ty "list") (u := .type "list") (by rfl) T.n_list (by decide +kernel) rfl) pa_nil))) (pe_callB call_isi (by rfl) T.n_isinstance (by decide +kernel) (pa_cons (pv 1) (pa_cons (pe_bltn (v := .ty "list") (u := .type "list") (by rfl) T.n_list (by decide +kernel) rfl) pa_nil))) (nomark _)) (pw_or1 (pt_cmpR op_ne (pe_callB call_isi (by rfl) T.n_isinstance (by decide +kernel) (pa_cons (pv 0) (pa_cons (pe_bltn (v := .ty "tuple") (u := .type "tuple") (by rfl) T.n_tuple (by decide +kernel) rfl) pa_nil))) (pe_callB call_isi (by rfl) T.n_isinstance (by decide +kernel) (pa_cons (pv 1) (pa_cons (pe_bltn (v := .ty "tuple") (u := .type "tuple") (by rfl) T.n_tuple (by decide +kernel) rfl) pa_nil))) (nomark _))))) (pss_one (ps_ret pe_bl)) pss_nil)
      (pss_one (ps_ret (pe_and (pe_cmpR op_eq (pe_callB call_len_seq (by rfl) T.n_len (by decide +kernel) (pa_cons (pv 0) pa_nil)) (pe_callB call_len_seq (by rfl) T.n_len (by decide +kernel) (pa_cons (pv 1) pa_nil)) (nomark _)) (pe_one (pe_callB (cr_all rfl) (by rfl) T.n_all (by decide +kernel) (pa_cons (pe_lc (own := [("_law_one", 3), ("_law_other", 4)]) (g := gTup _ 2 (gCons (gName 3) (gCons (gName 4) (gNil)))) (tt := tYes) rfl sc__law_like.nd (RZ.pi_zipA (by rfl) T.n_zip (pa_cons (pv 0) (pa_cons (pv 1) pa_nil))) (blkOk_by (N := ["_law_found", "_law_due", "_law_key", "_law_one", "_law_other"]) (sc := defScope s__law_like) (by decide +kernel)) (fun _ _ _ _ _ => (pg_tup rfl (pgs_cons (pg_name (i := 3) sc__law_like.nd rfl (Or.inl rfl)) (pgs_cons (pg_name (i := 4) sc__law_like.nd rfl (Or.inl rfl)) pgs_nil)))) (fun _ _ _ _ _ => pts_nil) (fun _ _ _ _ _ => (pe_call G__law_like (hr.mono (by omega)) rfl T.g__law_like T.F__law_like.kp T.b__law_like .nil pass0 (pa_cons (pv 3) (pa_cons (pv 4) pa_nil))))) pa_nil))))))) pss_nil)
      (pss_cons (ps_if (PW.pt (pw_or (pt_cmp (pc_isN (pv 1))) (pw_or1 (pt_cmp (pc_isN (pv 0)))))) (pss_one (ps_ret (pe_and (pe_cmp (pc_isN (pv 1)) rfl) (pe_one (pe_cmp (pc_isN (pv 0)) rfl))))) pss_nil)
      (pss_cons (ps_if (PW.pt (pw_or (pt_cmpR op_ne (pe_callB call_isi (by rfl) T.n_isinstance (by decide +kernel) (pa_cons (pv 0) (pa_cons (pe_bltn (v := .ty "bool") (u := .type "bool") (by rfl) T.n_bool (by decide +kernel) rfl) pa_nil))) (pe_callB call_isi (by rfl) T.n_isinstance (by decide +kernel) (pa_cons (pv 1) (pa_cons (pe_bltn (v := .ty "bool") (u := .type "bool") (by rfl) T.n_bool (by decide +kernel) rfl) pa_nil))) (nomark _)) (pw_or1 (pt_cmpR op_ne (pe_callB call_isi (by rfl) T.n_isinstance (by decide +kernel) (pa_cons (pv 0) (pa_cons (pe_bltn (v := .ty "int") (u := .type "int") (by rfl) T.n_int (by decide +kernel) rfl) pa_nil))) (pe_callB call_isi (by rfl) T.n_isinstance (by decide +kernel) (pa_cons (pv 1) (pa_cons (pe_bltn (v := .ty "int") (u := .type "int") (by rfl) T.n_int (by decide +kernel) rfl) pa_nil))) (nomark _))))) (pss_one (ps_ret pe_bl)) pss_nil)
      (pss_one (ps_ret (pe_and (pe_cmpR op_eq (pe_callB call_isi (by rfl) T.n_isinstance (by decide +kernel) (pa_cons (pv 0) (pa_cons (pe_bltn (v := .ty "str") (u := .type "str") (by rfl) T.n_str (by decide +kernel) rfl) pa_nil))) (pe_callB call_isi (by rfl) T.n_isinstance (by decide +kernel) (pa_cons (pv 1) (pa_cons (pe_bltn (v := .ty "str") (u := .type "str") (by rfl) T.n_str (by decide +kernel) rfl) pa_nil))) (nomark _)) (pe_one (pe_cmpR op_eq (pv 0) (pv 1) (nomark _)))))))))), ?_⟩
      cases d with
      | none =>
        refine ⟨_, rfl, ⟨_, _, _, _, false, rfl, .ty _, Dp.tyx (d := .none) hu, kit_ty (by decide +kernel), _, rfl, iteF ?_⟩⟩
        refine ⟨_, rfl, (by decide), fun tp htp => ⟨_, tp, _, _, _, _, rfl, upd_same, .cons (.ty _) (.cons (.ty _) .nil), Dp.tyx (Dp.same (Same.laid _ htp) _ _ hu), kitAny2 (x := false) (y := false) (by decide +kernel) (by decide +kernel), _, rfl, iteF ?_⟩⟩
        cases hu
        cases hv
        refine ⟨_, rfl, _, rfl, iteT ?_⟩
        refine ⟨_, rfl, _, rfl, iteT ⟨_, rfl, ?_⟩⟩
        exact k _ (Same.laid _ htp)
      | bool x =>
        cases hu
        cases hv
        refine ⟨_, rfl, ⟨_, _, _, _, false, rfl, .ty _, Dp.tyx (d := .bool x) (.bl x), kit_ty (a := "bool") (by decide +kernel), _, rfl, iteF ?_⟩⟩
        refine ⟨_, rfl, (by decide), fun tp htp => ⟨_, tp, _, _, _, _, rfl, upd_same, .cons (.ty _) (.cons (.ty _) .nil), Dp.tyx (d := .bool x) (.bl x), kitAny2 (t := "bool") (x := false) (y := false) (by decide +kernel) (by decide +kernel), _, rfl, iteF ?_⟩⟩
        refine ⟨_, rfl, _, rfl, iteF ⟨_, rfl, _, rfl, iteF ?_⟩⟩
        refine ⟨_, rfl, ⟨_, _, _, _, true, rfl, .ty _, Dp.tyx (d := .bool x) (.bl x), kit_ty (a := "bool") (by decide +kernel), _, rfl, ⟨_, _, _, _, true, rfl, .ty _, Dp.tyx (d := .bool x) (.bl x), kit_ty (a := "bool") (by decide +kernel), rfl, _, rfl, iteF ?_⟩⟩⟩
        refine ⟨_, rfl, ⟨_, _, _, _, true, rfl, .ty _, Dp.tyx (d := .bool x) (.bl x), kit_ty (a := "bool") (by decide +kernel), _, rfl, ⟨_, _, _, _, true, rfl, .ty _, Dp.tyx (d := .bool x) (.bl x), kit_ty (a := "bool") (by decide +kernel), rfl, _, rfl, iteF ?_⟩⟩⟩
        refine ⟨_, rfl, ⟨_, _, _, _, false, rfl, .ty _, Dp.tyx (d := .bool x) (.bl x), kit_ty (a := "bool") (by decide +kernel), _, rfl, ⟨_, _, _, _, false, rfl, .ty _, Dp.tyx (d := .bool x) (.bl x), kit_ty (a := "bool") (by decide +kernel), rfl, _, rfl, iteT ⟨_, rfl, _, rfl, rfl, ?_⟩⟩⟩⟩
        rw [decide_eq_true rfl]
        exact k _ (Same.laid _ htp)
      | int x =>
        cases hu
        cases hv
        refine ⟨_, rfl, ⟨_, _, _, _, false, rfl, .ty _, Dp.tyx (d := .int x) (.int x), kit_ty (a := "int") (by decide +kernel), _, rfl, iteF ?_⟩⟩
        refine ⟨_, rfl, (by decide), fun tp htp => ⟨_, tp, _, _, _, _, rfl, upd_same, .cons (.ty _) (.cons (.ty _) .nil), Dp.tyx (d := .int x) (.int x), kitAny2 (t := "int") (x := false) (y := false) (by decide +kernel) (by decide +kernel), _, rfl, iteF ?_⟩⟩
        refine ⟨_, rfl, _, rfl, iteF ⟨_, rfl, _, rfl, iteF ?_⟩⟩
        refine ⟨_, rfl, ⟨_, _, _, _, false, rfl, .ty _, Dp.tyx (d := .int x) (.int x), kit_ty (a := "int") (by decide +kernel), _, rfl, ⟨_, _, _, _, false, rfl, .ty _, Dp.tyx (d := .int x) (.int x), kit_ty (a := "int") (by decide +kernel), rfl, _, rfl, iteF ?_⟩⟩⟩
        refine ⟨_, rfl, ⟨_, _, _, _, true, rfl, .ty _, Dp.tyx (d := .int x) (.int x), kit_ty (a := "int") (by decide +kernel), _, rfl, ⟨_, _, _, _, true, rfl, .ty _, Dp.tyx (d := .int x) (.int x), kit_ty (a := "int") (by decide +kernel), rfl, _, rfl, iteF ?_⟩⟩⟩
        refine ⟨_, rfl, ⟨_, _, _, _, false, rfl, .ty _, Dp.tyx (d := .int x) (.int x), kit_ty (a := "int") (by decide +kernel), _, rfl, ⟨_, _, _, _, false, rfl, .ty _, Dp.tyx (d := .int x) (.int x), kit_ty (a := "int") (by decide +kernel), rfl, _, rfl, iteT ⟨_, rfl, _, rfl, rfl, ?_⟩⟩⟩⟩
        rw [decide_eq_true rfl]
        exact k _ (Same.laid _ htp)
      | str x =>
        cases hu
        cases hv
        refine ⟨_, rfl, ⟨_, _, _, _, false, rfl, .ty _, Dp.tyx (d := .str x) (.str x), kit_ty (a := "str") (by decide +kernel), _, rfl, iteF ?_⟩⟩
        refine ⟨_, rfl, (by decide), fun tp htp => ⟨_, tp, _, _, _, _, rfl, upd_same, .cons (.ty _) (.cons (.ty _) .nil), Dp.tyx (d := .str x) (.str x), kitAny2 (t := "str") (x := false) (y := false) (by decide +kernel) (by decide +kernel), _, rfl, iteF ?_⟩⟩
        refine ⟨_, rfl, _, rfl, iteF ⟨_, rfl, _, rfl, iteF ?_⟩⟩
        refine ⟨_, rfl, ⟨_, _, _, _, false, rfl, .ty _, Dp.tyx (d := .str x) (.str x), kit_ty (a := "str") (by decide +kernel), _, rfl, ⟨_, _, _, _, false, rfl, .ty _, Dp.tyx (d := .str x) (.str x), kit_ty (a := "str") (by decide +kernel), rfl, _, rfl, iteF ?_⟩⟩⟩
        refine ⟨_, rfl, ⟨_, _, _, _, false, rfl, .ty _, Dp.tyx (d := .str x) (.str x), kit_ty (a := "str") (by decide +kernel), _, rfl, ⟨_, _, _, _, false, rfl, .ty _, Dp.tyx (d := .str x) (.str x), kit_ty (a := "str") (by decide +kernel), rfl, _, rfl, iteF ?_⟩⟩⟩
        refine ⟨_, rfl, ⟨_, _, _, _, true, rfl, .ty _, Dp.tyx (d := .str x) (.str x), kit_ty (a := "str") (by decide +kernel), _, rfl, ⟨_, _, _, _, true, rfl, .ty _, Dp.tyx (d := .str x) (.str x), kit_ty (a := "str") (by decide +kernel), rfl, _, rfl, iteT ⟨_, rfl, _, rfl, rfl, ?_⟩⟩⟩⟩
        rw [decide_eq_true rfl]
        exact k _ (Same.laid _ htp)
      | list ds =>
        cases hu with
        | lst su au =>
        cases hv with
        | lst sv av =>
        rename_i a' ys a xs
        have hf' : ds.length ≤ 100000 ∧ ∀ d ∈ ds, fitD n d = true := by
          unfold fitD at hf
          obtain ⟨h1, h2⟩ := Bool.and_eq_true_iff.mp hf
          exact ⟨of_decide_eq_true h1, fun d hd => List.all_eq_true.mp h2 d hd⟩
        refine ⟨_, rfl, ⟨_, _, _, _, false, rfl, .ty _, Dp.tyx (d := .list ds) (.lst su au), kit_ty (by show kitB "list" "dict" = _; decide +kernel), _, rfl, iteF ?_⟩⟩
        refine ⟨_, rfl, (by decide), fun tp htp => ?_⟩
        have s1 : Same H (upd H tp (.tup [.ty "list", .ty "tuple"])) := Same.laid _ htp
        have du := Dp.same s1 _ _ (Dp.lst su au)
        have dv := Dp.same s1 _ _ (Dp.lst sv av)
        refine ⟨_, tp, _, _, _, _, rfl, upd_same, .cons (.ty _) (.cons (.ty _) .nil), Dp.tyx du, kitAny2 (x := true) (y := false) (by show kitB "list" "list" = _; decide +kernel) (by show kitB "list" "tuple" = _; decide +kernel), _, rfl, iteT ?_⟩
        refine ⟨_, rfl, ⟨_, _, _, _, true, rfl, .ty _, Dp.tyx dv, kit_ty (by show kitB "list" "list" = _; decide +kernel), _, rfl, ⟨_, _, _, _, true, rfl, .ty _, Dp.tyx du, kit_ty (by show kitB "list" "list" = _; decide +kernel), rfl, _, rfl, iteF ?_⟩⟩⟩
        refine ⟨_, rfl, ⟨_, _, _, _, false, rfl, .ty _, Dp.tyx dv, kit_ty (by show kitB "list" "tuple" = _; decide +kernel), _, rfl, ⟨_, _, _, _, false, rfl, .ty _, Dp.tyx du, kit_ty (by show kitB "list" "tuple" = _; decide +kernel), rfl, _, rfl, iteF ?_⟩⟩⟩
        have el : xs.length = ys.length := by rw [DpAll.length av, DpAll.length au]
        refine ⟨_, rfl, a, xs, rfl, .inl (s1.seq sv), _, rfl, a', ys, rfl, .inl (s1.seq su), rfl, _, rfl, ?_⟩
        rw [el, decide_eq_true rfl]
        refine iteT ⟨_, rfl, _, rfl, a, a', xs, ys, rfl, .inl ⟨s1.seq sv, s1.seq su, fun D hD => ?_⟩⟩
        have nDH : H D = none := s1.free hD
        refine lc_it (walk_zip (xs := xs) (ys := ys) (n := ys.length) (by rw [el, Nat.min_self])) (fun i H' => Same H H' ∧ H' D = some (.lst (List.replicate i (.bl true)))) ⟨Same.fresh _ s1 nDH, upd_same⟩ (fun i H' _ q => ⟨q.1.seq sv, q.1.seq su⟩) ?_ ?_
        · rintro i x H1 H2 hi ⟨s2, hacc⟩ ⟨T2, x1, y1, rfl, hT2, rfl, ex, ey⟩
          have s3 : Same H1 (upd H1 T2 (.tup [x1, y1])) := Same.laid _ hT2
          obtain ⟨d1, e1, q1⟩ := DpAll.get av ex
          obtain ⟨d2, e2, q2⟩ := DpAll.get au ey
          obtain rfl : d1 = d2 := Option.some.inj (e1.symm.trans e2)
          refine ⟨T2, [x1, y1], rfl, SqT.of upd_same, rfl, x1, [y1], rfl, y1, [], rfl, rfl, rfl, ?_⟩
          refine ⟨_, rfl, _, rfl, x1, y1, d1, rfl, Dp.same (s2.trans s3) _ _ q1, Dp.same (s2.trans s3) _ _ q2, hf'.2 d1 (List.mem_of_getElem? e1), fun H3 s4 => ?_⟩
          refine ⟨List.replicate i (.bl true), s4 _ _ (s3 _ _ hacc), ?_, ?_, ?_⟩
          · have hy : ys.length ≤ 100000 := by rw [DpAll.length au]; exact hf'.1
            rw [List.length_replicate]
            exact Nat.lt_of_lt_of_le (Nat.lt_of_lt_of_le hi hy) (by decide)
          · exact Same.fresh _ ((s2.trans s3).trans s4) nDH
          · rw [upd_same, List.replicate_succ']
        · rintro H3 ⟨s2, hacc⟩
          refine ⟨D, List.replicate ys.length true, rfl, .inl (.inl (by rw [List.map_replicate]; exact hacc)), ?_⟩
          rw [show (List.replicate ys.length true).all id = true by simp]
          exact k _ s2
      | tuple ds =>
        cases hu with
        | tup su au =>
        cases hv with
        | tup sv av =>
        rename_i a' ys a xs
        have hf' : ds.length ≤ 100000 ∧ ∀ d ∈ ds, fitD n d = true := by
          unfold fitD at hf
          obtain ⟨h1, h2⟩ := Bool.and_eq_true_iff.mp hf
          exact ⟨of_decide_eq_true h1, fun d hd => List.all_eq_true.mp h2 d hd⟩
        refine ⟨_, rfl, ⟨_, _, _, _, false, rfl, .ty _, Dp.tyx (d := .tuple ds) (.tup su au), kit_ty (by show kitB "tuple" "dict" = _; decide +kernel), _, rfl, iteF ?_⟩⟩
        refine ⟨_, rfl, (by decide), fun tp htp => ?_⟩
        have s1 : Same H (upd H tp (.tup [.ty "list", .ty "tuple"])) := Same.laid _ htp
        have du := Dp.same s1 _ _ (Dp.tup su au)
        have dv := Dp.same s1 _ _ (Dp.tup sv av)
        refine ⟨_, tp, _, _, _, _, rfl, upd_same, .cons (.ty _) (.cons (.ty _) .nil), Dp.tyx du, kitAny2 (x := false) (y := true) (by show kitB "tuple" "list" = _; decide +kernel) (by show kitB "tuple" "tuple" = _; decide +kernel), _, rfl, iteT ?_⟩
        refine ⟨_, rfl, ⟨_, _, _, _, false, rfl, .ty _, Dp.tyx dv, kit_ty (by show kitB "tuple" "list" = _; decide +kernel), _, rfl, ⟨_, _, _, _, false, rfl, .ty _, Dp.tyx du, kit_ty (by show kitB "tuple" "list" = _; decide +kernel), rfl, _, rfl, iteF ?_⟩⟩⟩
        refine ⟨_, rfl, ⟨_, _, _, _, true, rfl, .ty _, Dp.tyx dv, kit_ty (by show kitB "tuple" "tuple" = _; decide +kernel), _, rfl, ⟨_, _, _, _, true, rfl, .ty _, Dp.tyx du, kit_ty (by show kitB "tuple" "tuple" = _; decide +kernel), rfl, _, rfl, iteF ?_⟩⟩⟩
        have el : xs.length = ys.length := by rw [DpAll.length av, DpAll.length au]
        refine ⟨_, rfl, a, xs, rfl, .inr (Same.sqT s1 sv), _, rfl, a', ys, rfl, .inr (Same.sqT s1 su), rfl, _, rfl, ?_⟩
        rw [el, decide_eq_true rfl]
        refine iteT ⟨_, rfl, _, rfl, a, a', xs, ys, rfl, .inr ⟨Same.sqT s1 sv, Same.sqT s1 su, fun D hD => ?_⟩⟩
        have nDH : H D = none := s1.free hD
        refine lc_it (walk_zipT (xs := xs) (ys := ys) (n := ys.length) (by rw [el, Nat.min_self])) (fun i H' => Same H H' ∧ H' D = some (.lst (List.replicate i (.bl true)))) ⟨Same.fresh _ s1 nDH, upd_same⟩ (fun i H' _ q => ⟨Same.sqT q.1 sv, Same.sqT q.1 su⟩) ?_ ?_
        · rintro i x H1 H2 hi ⟨s2, hacc⟩ ⟨T2, x1, y1, rfl, hT2, rfl, ex, ey⟩
          have s3 : Same H1 (upd H1 T2 (.tup [x1, y1])) := Same.laid _ hT2
          obtain ⟨d1, e1, q1⟩ := DpAll.get av ex
          obtain ⟨d2, e2, q2⟩ := DpAll.get au ey
          obtain rfl : d1 = d2 := Option.some.inj (e1.symm.trans e2)
          refine ⟨T2, [x1, y1], rfl, SqT.of upd_same, rfl, x1, [y1], rfl, y1, [], rfl, rfl, rfl, ?_⟩
          refine ⟨_, rfl, _, rfl, x1, y1, d1, rfl, Dp.same (s2.trans s3) _ _ q1, Dp.same (s2.trans s3) _ _ q2, hf'.2 d1 (List.mem_of_getElem? e1), fun H3 s4 => ?_⟩
          refine ⟨List.replicate i (.bl true), s4 _ _ (s3 _ _ hacc), ?_, ?_, ?_⟩
          · have hy : ys.length ≤ 100000 := by rw [DpAll.length au]; exact hf'.1
            rw [List.length_replicate]
            exact Nat.lt_of_lt_of_le (Nat.lt_of_lt_of_le hi hy) (by decide)
          · exact Same.fresh _ ((s2.trans s3).trans s4) nDH
          · rw [upd_same, List.replicate_succ']
        · rintro H3 ⟨s2, hacc⟩
          refine ⟨D, List.replicate ys.length true, rfl, .inl (.inl (by rw [List.map_replicate]; exact hacc)), ?_⟩
          rw [show (List.replicate ys.length true).all id = true by simp]
          exact k _ s2
      | dict ds => cases hu

end
end Ag
namespace Ag
open PySem L2
open C8 (pss_cut tCut)
section
variable {P : Program} {w : World} {K : PySem.W.Frag} {mg : Str → Option Value} {base : Heap}
abbrev vS (l : List Nat) : V := .str (SX.S l)
def isLow (l : List Nat) : Bool := l.all fun c => decide (97 ≤ c) && decide (c ≤ 122)
theorem isLow_app (a b : List Nat) : isLow (a ++ b) = (isLow a && isLow b) := by unfold isLow; rw [List.all_append]
theorem isLow_of {l : List Nat} (h : ∀ c ∈ l, 97 ≤ c ∧ c ≤ 122) : isLow l = true := by
  unfold isLow
  rw [List.all_eq_true]
  intro c hc
  rw [decide_eq_true (h c hc).1, decide_eq_true (h c hc).2]; rfl
theorem isLow_mem {l : List Nat} (h : isLow l = true) {c : Nat} (hc : c ∈ l) : 97 ≤ c ∧ c ≤ 122 := by
  unfold isLow at h
  rw [List.all_eq_true] at h
  have q := Bool.and_eq_true_iff.mp (h c hc)
  exact ⟨of_decide_eq_true q.1, of_decide_eq_true q.2⟩
def abc : List Nat := List.range' 97 26
theorem abc_eq : Str.ofString "abcdefghijklmnopqrstuvwxyz" = SX.S abc := by decide +kernel
theorem abc_at (i : Nat) (h : i < 26) : abc[i]? = some (97 + i) := by
  unfold abc
  rw [List.getElem?_range' h]
  congr 1
  omega
theorem abc_mem {i c : Nat} (h : abc[i]? = some c) : 97 ≤ c ∧ c ≤ 122 := by
  have hi : i < 26 := by
    have := (List.getElem?_eq_some_iff.mp h).1
    simpa [abc] using this
  rw [abc_at i hi] at h
  injection h with h
  omega
theorem join_one : ∀ cs : List Nat, TL.joinL [] (cs.map fun c => [c]) = cs
  | [] => rfl
  | [c] => rfl
  | c :: d :: cs => by
    have ih := join_one (d :: cs)
    show [c] ++ [] ++ TL.joinL [] (([d] : List Nat) :: cs.map fun c => [c]) = _
    rw [show ([d] : List Nat) :: cs.map (fun c => [c]) = (d :: cs).map fun c => [c] from rfl, ih]
    rfl
/-- a name: 1 to 5 small letters -/
def nm5 (z : List Nat) : Prop := 1 ≤ z.length ∧ z.length ≤ 5 ∧ isLow z = true
/-- the j-th of the names that are drawn at once -/
def nameAt (cs : List Nat) (at_ fi j : Nat) : List Nat := cs.take at_ ++ (97 + (fi + 5 * j) % 26) :: cs.drop at_
theorem nameAt_nm5 {cs : List Nat} {at_ fi : Nat} (h : isLow cs = true) (hl : cs.length ≤ 4) (j : Nat) : nm5 (nameAt cs at_ fi j) := by
  unfold nameAt nm5
  refine ⟨by simp; omega, by simp; omega, isLow_of fun c hc => ?_⟩
  rcases List.mem_append.mp hc with hc | hc
  · exact isLow_mem h (List.mem_of_mem_take hc)
  · rcases List.mem_cons.mp hc with rfl | hc
    · omega
    · exact isLow_mem h (List.mem_of_mem_drop hc)
theorem nameAt_inj {cs : List Nat} {at_ fi i j : Nat} (hi : i < 26) (hj : j < 26) (h : nameAt cs at_ fi i = nameAt cs at_ fi j) : i = j := by
  unfold nameAt at h
  have q := List.append_cancel_left h
  injection q with q _
  omega
theorem nameAt_nodup {cs : List Nat} {at_ fi m : Nat} (h : m ≤ 26) : ((List.range m).map fun j => nameAt cs at_ fi j).Nodup := by
  rw [List.nodup_iff_pairwise_ne, List.pairwise_map]
  refine List.Pairwise.imp_of_mem ?_ (List.nodup_iff_pairwise_ne.mp List.nodup_range)
  intro a b ha hb hne e
  exact hne (nameAt_inj (Nat.lt_of_lt_of_le (List.mem_range.mp ha) h) (Nat.lt_of_lt_of_le (List.mem_range.mp hb) h) e)
def spNames : Sp := fun vs H Q _ => ∃ (b c : Addr) (m : Nat), vs = [.ref b, .int m] ∧ BagAt b c H ∧ m ≤ 26 ∧
  ∀ (H' : Hp) (p : Addr) (zs : List (List Nat)), Ext b H H' → BagAt b c H' → H p = none → H' p = some (.lst (zs.map vS)) → zs.length = m → (∀ z ∈ zs, nm5 z) → zs.Nodup → Q (.ref p) H'
theorem ok_names (T : Txt K mg) : FnOk P w K mg base CX0 3 T.f__law_names T.fd__law_names ["_law_bag_here", "_law_many"] spNames := by
  have G__law_pull : FnOk P w K mg base CX0 1 T.f__law_pull T.fd__law_pull _ spPull := ok_pull T
  have G__law_any : FnOk P w K mg base CX0 2 T.f__law_any T.fd__law_any _ (spAny K) := ok_any T
  refine T.F__law_names.ok sc__law_names (fun vs H Q E h => ?_) (fun cdv A outer s H vs Q E hr h => ?_)
  · obtain ⟨b, c, m, rfl, _⟩ := h
    rfl
  · obtain ⟨b, c, m, rfl, hB, hm, k⟩ := h
    refine ⟨_, (pss_cons (ps_set (i := 2) sc__law_names.nd rfl (Or.inr rfl) pe_str)
      (pss_cons (ps_set (i := 3) sc__law_names.nd rfl (Or.inr rfl) (pe_join pe_str (pe_lc (own := [("_law_k", 6)]) (g := gName 6) (tt := tYes) rfl sc__law_names.nd (pi_range1 (by rfl) T.n_range (pa_cons (pe_call G__law_pull (hr.mono (by omega)) rfl T.g__law_pull T.F__law_pull.kp T.b__law_pull .nil pass0 (pa_cons (pv 0) (pa_cons pe_int pa_nil))) pa_nil)) (blkOk_by (N := ["_law_bag_here", "_law_many", "_law_letters", "_law_stem", "_law_at", "_law_first", "_law_k"]) (sc := defScope s__law_names) (by decide +kernel)) (fun _ _ _ _ _ => (pg_name (i := 6) sc__law_names.nd rfl (Or.inl rfl))) (fun _ _ _ _ _ => pts_nil) (fun _ _ _ _ _ => (pe_call G__law_any (hr.mono (by omega)) rfl T.g__law_any T.F__law_any.kp T.b__law_any .nil pass0 (pa_cons (pv 0) (pa_cons (pv 2) pa_nil)))))))
      (pss_cons (ps_asg (pe_tup (pa_cons (pe_call G__law_pull (hr.mono (by omega)) rfl T.g__law_pull T.F__law_pull.kp T.b__law_pull .nil pass0 (pa_cons (pv 0) (pa_cons (pe_op op_add (pe_callB call_len_str (by rfl) T.n_len (by decide +kernel) (pa_cons (pv 3) pa_nil)) pe_int) pa_nil))) (pa_cons (pe_call G__law_pull (hr.mono (by omega)) rfl T.g__law_pull T.F__law_pull.kp T.b__law_pull .nil pass0 (pa_cons (pv 0) (pa_cons pe_int pa_nil))) pa_nil))) (pg_tup rfl (pgs_cons (pg_name (i := 4) sc__law_names.nd rfl (Or.inr rfl)) (pgs_cons (pg_name (i := 5) sc__law_names.nd rfl (Or.inr rfl)) pgs_nil))))
      (pss_one (ps_ret (pe_lc (own := [("_law_k", 6)]) (g := gName 6) (tt := tYes) rfl sc__law_names.nd (pi_range1 (by rfl) T.n_range (pa_cons (pv 1) pa_nil)) (blkOk_by (N := ["_law_bag_here", "_law_many", "_law_letters", "_law_stem", "_law_at", "_law_first", "_law_k"]) (sc := defScope s__law_names) (by decide +kernel)) (fun _ _ _ _ _ => (pg_name (i := 6) sc__law_names.nd rfl (Or.inl rfl))) (fun _ _ _ _ _ => pts_nil) (fun _ _ _ _ _ => (pe_op op_add_str (pe_op op_add_str (pe_slice C8.sl_txt (pv 3) po_none (po_some (pv 4))) (pe_ix ix_str (pv 2) (pe_op op_mod (pe_callTy call_int1 (by rfl) T.n_int (by decide +kernel) (pa_cons (pe_op op_add (pv 5) (pe_op op_mul pe_int (pv 6))) pa_nil)) pe_int) (fun _ _ => rfl))) (pe_slice C8.sl_txt (pv 3) (po_some (pv 4)) po_none))))))))), ?_⟩
    refine ⟨⟨_, rfl⟩, _, rfl, b, c, 5, rfl, hB, by decide, by decide, fun d Ha d0 d1 x1 hB1 => ⟨d, rfl, by omega, by omega, fun D hD => ?_⟩⟩
    obtain ⟨yb, hb⟩ := hB.lst
    have nD := hB1.apart hD
    have nDb : D ≠ b := nD.1
    have hDH : H D = none := x1.free nDb hD
    refine lc_range (fun i H' => ∃ cs : List Nat, cs.length = i ∧ isLow cs = true ∧ Ext b H H' ∧ BagAt b c H' ∧ H' D = some (.lst (cs.map fun c => vS [c]))) ⟨[], rfl, rfl, Ext.fresh _ x1 hDH, hB1.ext (Same.laid _ hD), upd_same⟩ ?_ ?_
    · rintro i H1 hi ⟨cs, hl, hlow, x2, hB2, hacc⟩
      refine ⟨rfl, _, rfl, _, rfl, b, c, _, rfl, hB2, .inr ⟨_, rfl, ?_, ?_, fun j cp H2 hc x3 hB3 => ⟨cs.map (fun c => vS [c]), ?_, ?_, cs ++ [cp], ?_, ?_, ?_, ?_, ?_⟩⟩⟩
      · rw [abc_eq]; decide
      · rw [abc_eq]; decide
      · exact x3 _ _ nDb hacc
      · rw [List.length_map, hl]
        exact Nat.lt_of_lt_of_le hi (Nat.le_trans (show d.toNat ≤ 5 by omega) (by decide))
      · rw [List.length_append, hl]; rfl
      · rw [abc_eq] at hc
        rw [isLow_app, hlow]
        exact isLow_of fun c' h' => by rw [List.mem_singleton.mp h']; exact abc_mem hc
      · exact Ext.fresh _ (x2.trans x3) hDH
      · exact hB3.store _ nD
      · rw [upd_same]; simp
    · rintro H1 ⟨cs, hl, hlow, x2, hB2, hacc⟩
      have e1 : cs.map (fun c => vS [c]) = (cs.map fun c => SX.S [c]).map V.str := by rw [List.map_map]; rfl
      have hcs : cs.length ≤ 4 := by omega
      refine ⟨_, D, cs.map (fun c => SX.S [c]), rfl, rfl, .inl (.inl (.inl (by rw [← e1]; exact hacc))), ?_, ?_⟩
      · have q : ∀ l : List Nat, ((l.map fun c => SX.S [c]).map (·.length)).sum = l.length := fun l => by
          induction l with
          | nil => rfl
          | cons x l ih => rw [List.map_cons, List.map_cons, List.sum_cons, ih, List.length_cons, SX.S_len]; simp; omega
        rw [q, List.length_map, show (Str.ofString "").length = 0 from by decide +kernel]
        omega
      have ej : Txt.join (Str.ofString "") (cs.map fun c => SX.S [c]) = SX.S cs := by
        rw [show Str.ofString "" = SX.S [] from by decide +kernel, show (cs.map fun c => SX.S [c]) = (cs.map fun c => [c]).map SX.S by rw [List.map_map]; rfl, SX.join_S, join_one]
      rw [ej]
      refine ⟨_, rfl, _, rfl, _, rfl, ?_, _, _, rfl, rfl, b, c, _, rfl, hB2, ?_, ?_, fun at_ Hb a0 a1 xb hB3 => ?_⟩
      · rw [SX.S_len]; exact Nat.le_trans hcs (by decide)
      · rw [SX.S_len]; omega
      · rw [SX.S_len]; omega
      rw [SX.S_len] at a1
      refine ⟨_, rfl, b, c, _, rfl, hB3, by decide, by decide, fun fi Hc f0 f1 xc hB4 => ⟨(show 2 ≤ sizeLine by decide), fun tp htp => ?_⟩⟩
      refine ⟨tp, _, rfl, SqT.of upd_same, rfl, _, _, rfl, _, _, rfl, rfl, ?_⟩
      have x3 : Ext b H (upd Hc tp (.tup [.int at_, .int fi])) := ((x2.trans xb).trans xc).trans (Ext.laid _ htp)
      have hB5 := hB4.ext (Same.laid (.tup [.int at_, .int fi]) htp)
      refine ⟨_, rfl, m, rfl, by omega, by omega, fun D2 hD2 => ?_⟩
      have nD2 := hB5.apart hD2
      have hD2H : H D2 = none := x3.free nD2.1 hD2
      refine lc_range (fun i H' => Ext b H H' ∧ BagAt b c H' ∧ H' D2 = some (.lst ((List.range i).map fun j => vS (nameAt cs at_.toNat fi.toNat j)))) ⟨Ext.fresh _ x3 hD2H, hB5.store _ nD2, upd_same⟩ ?_ ?_
      · rintro i H2 hi ⟨x4, hB6, hacc2⟩
        refine ⟨rfl, _, rfl, _, rfl, _, rfl, _, rfl, ?_, _, rfl, _, rfl, _, rfl, _, _, rfl, rfl, .inl ⟨by decide, by decide⟩, _, _, rfl, rfl, .inl ⟨_, rfl, _, _, rfl, rfl, by show (0 : Int) < 26; decide, ?_⟩⟩
        · rw [SX.S_len]; exact Nat.le_trans hcs (by decide)
        have f26 : ((fi + 5 * (0 + (i : Int))) % 26).toNat < 26 := by
          have h1 := Int.emod_nonneg (fi + 5 * (0 + (i : Int))) (show (26 : Int) ≠ 0 by decide)
          have h2 := Int.emod_lt_of_pos (fi + 5 * (0 + (i : Int))) (show (0 : Int) < 26 by decide)
          omega
        have et : ((fi + 5 * (0 + (i : Int))) % 26).toNat = (fi.toNat + 5 * i) % 26 := by omega
        refine ⟨_, _, 97 + (fi.toNat + 5 * i) % 26, rfl, rfl, ?_, ?_, ?_⟩
        · rw [abc_eq]; decide
        · rw [abc_eq]
          refine atI_int (Int.emod_nonneg _ (by decide)) ?_
          show abc[((fi + 5 * (0 + (i : Int))) % 26).toNat]? = _
          rw [abc_at _ f26, et]
        rw [SX.slice_to a0]
        refine ⟨_, _, rfl, rfl, ?_, _, rfl, _, rfl, _, rfl, _, rfl, ?_, _, _, rfl, rfl, ?_, (List.range i).map fun j => vS (nameAt cs at_.toNat fi.toNat j), hacc2, ?_, ?_⟩
        · rw [SX.S_len, List.length_take]
          show _ + 1 ≤ _
          exact Nat.le_trans (show min at_.toNat cs.length + 1 ≤ 5 by omega) (by decide)
        · rw [SX.S_len]; exact Nat.le_trans hcs (by decide)
        · rw [SX.slice_from a0, SX.S_cat, SX.S_len, SX.S_len]
          refine Nat.le_trans (show _ ≤ 9 from ?_) (by decide)
          simp only [List.length_append, List.length_take, List.length_drop, List.length_cons, List.length_nil]
          omega
        · rw [List.length_map, List.length_range]; exact Nat.lt_of_lt_of_le hi (Nat.le_trans (show (m : Int).toNat ≤ 26 by omega) (by decide))
        · refine ⟨Ext.fresh _ x4 hD2H, hB6.store _ nD2, ?_⟩
          rw [upd_same, List.range_succ, List.map_append, SX.slice_from a0, SX.S_cat, SX.S_cat]
          simp [nameAt, vS]
      · rintro H2 ⟨x4, hB6, hacc2⟩
        refine k _ D2 ((List.range m).map fun j => nameAt cs at_.toNat fi.toNat j) x4 hB6 hD2H ?_ (by simp) ?_ ?_
        · rw [List.map_map]; exact hacc2
        · intro z hz
          obtain ⟨j, _, rfl⟩ := List.mem_map.mp hz
          exact nameAt_nm5 hlow hcs j
        · exact nameAt_nodup hm

end
end Ag
namespace Ag
open PySem L2
open C8 (pss_cut tCut)
section
variable {P : Program} {w : World} {K : PySem.W.Frag} {mg : Str → Option Value} {base : Heap}
/-- a name: 1 to 6 small letters -/
def isNameS (z : Str) : Bool := decide (1 ≤ z.length) && decide (z.length ≤ 6) && isLow z.cps.toList
def isNameD : PyData → Bool
  | .str z => isNameS z
  | _ => false
def spIsName (K : PySem.W.Frag) : Sp := fun vs H Q _ => ∃ (v : V) (d : PyData), vs = [v] ∧ Dp K H v d ∧ (∀ z, d = .str z → z.length ≤ sizeLine) ∧ ∀ H', Same H H' → Q (.bl (isNameD d)) H'
theorem low_in (c : Nat) : decide (c ∈ (Str.ofString "abcdefghijklmnopqrstuvwxyz").cps.toList) = (decide (97 ≤ c) && decide (c ≤ 122)) := by
  rw [abc_eq]
  show decide (c ∈ abc) = _
  unfold abc
  by_cases h : 97 ≤ c ∧ c ≤ 122
  · rw [decide_eq_true h.1, decide_eq_true h.2, decide_eq_true (List.mem_range'_1.mpr ⟨h.1, by omega⟩)]; rfl
  · rw [decide_eq_false (fun q => h (by have := List.mem_range'_1.mp q; omega))]
    by_cases h1 : 97 ≤ c
    · rw [decide_eq_true h1, decide_eq_false (fun q => h ⟨h1, q⟩)]; rfl
    · rw [decide_eq_false h1]; rfl
theorem kitB_str : ∀ t ∈ ["NoneType", "bool", "int", "list", "tuple", "dict"], kitB t "str" = some false := by decide +kernel
theorem ok_is_name (T : Txt K mg) : FnOk P w K mg base CX0 1 T.f_is_name T.fd_is_name ["value"] (spIsName K) := by
  refine T.F_is_name.ok sc_is_name (fun vs H Q E h => ?_) (fun cdv A outer s H vs Q E hr h => ?_)
  · obtain ⟨v, d, rfl, _⟩ := h
    rfl
  · obtain ⟨v, d, rfl, hd, hz, k⟩ := h
    refine ⟨_, (pss_cons (ps_if (PW.pt (pw_or (pt_not (pt_val (pe_callB call_isi (by rfl) T.n_isinstance (by decide +kernel) (pa_cons (pv 0) (pa_cons (pe_bltn (v := .ty "str") (u := .type "str") (by rfl) T.n_str (by decide +kernel) rfl) pa_nil))))) (pw_or1 (pt_not (pt_chain op_le op_le pe_int (pe_callB call_len_str (by rfl) T.n_len (by decide +kernel) (pa_cons (pv 0) pa_nil)) (pe_glob (v := .int 6) rfl T.g_MOST_LETTERS ⟨_, rfl⟩)))))) (pss_one (ps_ret pe_bl)) pss_nil)
      (pss_one (ps_ret (pe_callB (cr_all rfl) (by rfl) T.n_all (by decide +kernel) (pa_cons (pe_lc (own := [("sign", 1)]) (g := gName 1) (tt := tYes) rfl sc_is_name.nd (pi_str (pv 0)) (blkOk_by (N := ["value", "sign"]) (sc := defScope s_is_name) (by decide +kernel)) (fun _ _ _ _ _ => (pg_name (i := 1) sc_is_name.nd rfl (Or.inl rfl))) (fun _ _ _ _ _ => pts_nil) (fun _ _ _ _ _ => (pe_cmpR op_in_sign (pv 1) (pe_glob (v := .str "abcdefghijklmnopqrstuvwxyz") rfl T.g_LETTERS ⟨_, rfl⟩) (by rfl)))) pa_nil))))), ?_⟩
    by_cases hs : ∃ z, d = .str z
    · obtain ⟨z, rfl⟩ := hs
      have hl := hz z rfl
      cases hd
      refine ⟨_, rfl, _, _, _, _, true, rfl, .ty _, Dp.tyx (d := .str z) (.str z), kit_ty (a := "str") (by decide +kernel), _, rfl, iteF ?_⟩
      refine ⟨_, rfl, z, rfl, hl, _, _, rfl, rfl, _, rfl, ?_⟩
      refine ite2 (fun h1 => ?_) (fun h1 => ?_)
      · have h1' : (1 : Int) ≤ (z.length : Int) := of_decide_eq_true h1
        refine ⟨_, _, rfl, rfl, _, rfl, ?_⟩
        by_cases h6 : (z.length : Int) ≤ 6
        · rw [decide_eq_true h6]
          refine iteF ⟨_, rfl, z, rfl, fun D hD => ?_⟩
          refine lc_it (walk_str (z := z)) (fun i H' => Same H H' ∧ H' D = some (.lst (((z.cps.toList.take i).map fun c => decide (97 ≤ c) && decide (c ≤ 122)).map V.bl))) ⟨Same.laid _ hD, upd_same⟩ (fun _ _ _ _ => True.intro) ?_ ?_
          · rintro i x H1 H2 hi ⟨s1, hacc⟩ ⟨rfl, c, hc, rfl⟩
            refine ⟨rfl, _, rfl, c, _, rfl, rfl, _, hacc, ?_, Same.fresh _ s1 hD, ?_⟩
            · have : z.cps.size = z.length := rfl
              simp only [List.length_map, List.length_take]
              exact Nat.lt_of_lt_of_le (show _ < 7 by omega) (by decide)
            · have hc' : z.cps.toList[i]? = some c := by simpa using hc
              rw [upd_same, List.take_succ, hc', low_in]
              simp
          · rintro H1 ⟨s1, hacc⟩
            refine ⟨D, _, rfl, .inl (.inl hacc), ?_⟩
            have e : isNameD (.str z) = ((z.cps.toList.take z.cps.size).map fun c => decide (97 ≤ c) && decide (c ≤ 122)).all id := by
              show isNameS z = _
              unfold isNameS isLow
              rw [decide_eq_true (show 1 ≤ z.length by omega), decide_eq_true (show z.length ≤ 6 by omega), List.take_of_length_le (by simp)]
              simp [Function.comp_def]
            rw [← e]
            exact k _ s1
        · rw [decide_eq_false h6]
          have e : isNameD (.str z) = false := by
            show isNameS z = false
            unfold isNameS
            rw [decide_eq_false (show ¬ z.length ≤ 6 by omega)]; simp
          rw [e] at k
          exact iteT (k _ (Same.refl _))
      · have e : isNameD (.str z) = false := by
          show isNameS z = false
          unfold isNameS
          have : ¬ 1 ≤ z.length := fun q => h1 (decide_eq_true (by omega))
          rw [decide_eq_false this]; rfl
        rw [e] at k
        exact ⟨_, rfl, iteT (k _ (Same.refl _))⟩
    · have e : isNameD d = false := by
        cases d <;> first | rfl | exact absurd ⟨_, rfl⟩ hs
      have hk : kitB (tyN d) "str" = some false := by
        cases d with
        | str z => exact absurd ⟨_, rfl⟩ hs
        | _ => exact kitB_str _ (by simp [tyN])
      rw [e] at k
      exact ⟨_, rfl, _, _, _, _, false, rfl, .ty _, Dp.tyx hd, kit_ty hk, _, rfl, iteT (k _ (Same.refl _))⟩

end
end Ag
namespace Ag
open PySem L2
open C8 (pss_cut tCut)
section
variable {P : Program} {w : World} {K : PySem.W.Frag} {mg : Str → Option Value} {base : Heap}
def spLaw (K : PySem.W.Frag) : Sp := fun vs H Q _ => ∃ (a : Addr) (ns : List Int), vs = [.ref a] ∧ SqL K H a (ns.map V.int) ∧ ns.length ≤ 63 ∧ ∀ H', Q (.bl true) H'
theorem lens_one : ∀ l : List Nat, ((l.map fun c => SX.S [c]).map (·.length)).sum = l.length := fun l => by
  induction l with
  | nil => rfl
  | cons x l ih => rw [List.map_cons, List.map_cons, List.sum_cons, ih, List.length_cons, SX.S_len]; simp; omega
theorem joins_one (cs : List Nat) : Txt.join (Str.ofString "") (cs.map fun c => SX.S [c]) = SX.S cs := by
  rw [show Str.ofString "" = SX.S [] from by decide +kernel, show (cs.map fun c => SX.S [c]) = (cs.map fun c => [c]).map SX.S by rw [List.map_map]; rfl, SX.join_S, join_one]
theorem odd_sign {i : Nat} {x : V} (h : ([.str (Str.ofString " "), .str (Str.ofString "A"), .str (Str.ofString "0"), .str (Str.ofString "_"), .str (Str.ofString "-"), .str (Str.ofString "?"), .str (Str.ofString "."), .str (Str.ofString "Z"), .str (Str.ofString ":")] : List V)[i]? = some x) : ∃ ch, x = vS [ch] ∧ ¬ (97 ≤ ch ∧ ch ≤ 122) := by
  have e : ([.str (Str.ofString " "), .str (Str.ofString "A"), .str (Str.ofString "0"), .str (Str.ofString "_"), .str (Str.ofString "-"), .str (Str.ofString "?"), .str (Str.ofString "."), .str (Str.ofString "Z"), .str (Str.ofString ":")] : List V) = [32, 65, 48, 95, 45, 63, 46, 90, 58].map (fun ch => vS [ch]) := by decide +kernel
  rw [e, List.getElem?_map] at h
  cases q : ([32, 65, 48, 95, 45, 63, 46, 90, 58] : List Nat)[i]? with
  | none => rw [q] at h; cases h
  | some ch =>
    rw [q] at h
    injection h with h
    have m : ch ∈ ([32, 65, 48, 95, 45, 63, 46, 90, 58] : List Nat) := List.mem_of_getElem? q
    refine ⟨ch, h.symm, ?_⟩
    simp at m
    omega
theorem ok_law (T : Txt K mg) : FnOk P w K mg base CX0 5 T.f_law T.fd_law ["_law_script"] (spLaw K) := by
  have G__law_bag : FnOk P w K mg base CX0 1 T.f__law_bag T.fd__law_bag _ (spBag K) := ok_bag T
  have G__law_pull : FnOk P w K mg base CX0 1 T.f__law_pull T.fd__law_pull _ spPull := ok_pull T
  have G__law_any : FnOk P w K mg base CX0 2 T.f__law_any T.fd__law_any _ (spAny K) := ok_any T
  have G__law_names : FnOk P w K mg base CX0 3 T.f__law_names T.fd__law_names _ spNames := ok_names T
  have G__law_like : FnOk P w K mg base CX0 4 T.f__law_like T.fd__law_like _ (spLike K 4) := ok_like T 4
  have G_is_name : FnOk P w K mg base CX0 1 T.f_is_name T.fd_is_name _ (spIsName K) := ok_is_name T
  refine T.F_law.ok sc_law (fun vs H Q E h => ?_) (fun cdv A outer s H vs Q E hr h => ?_)
  · obtain ⟨a, ns, rfl, _⟩ := h
    rfl
  · obtain ⟨a, ns, rfl, hS, hl, k⟩ := h
    refine ⟨_, (pss_cons (ps_set (i := 1) sc_law.nd rfl (Or.inr rfl) (pe_call G__law_bag (hr.mono (by omega)) rfl T.g__law_bag T.F__law_bag.kp T.b__law_bag .nil pass0 (pa_cons (pv 0) pa_nil)))
      (pss_cons (ps_set (i := 2) sc_law.nd rfl (Or.inl rfl) (pe_call G__law_names (hr.mono (by omega)) rfl T.g__law_names T.F__law_names.kp T.b__law_names .nil pass0 (pa_cons (pv 1) (pa_cons pe_int pa_nil))))
      (pss_cons (ps_set (i := 3) sc_law.nd rfl (Or.inr rfl) pe_str)
      (pss_cons (ps_set (i := 4) sc_law.nd rfl (Or.inl rfl) (pe_join pe_str (pe_lc (own := [("_law_k", 9)]) (g := gName 9) (tt := tYes) rfl sc_law.nd (pi_range1 (by rfl) T.n_range (pa_cons (pe_op op_add pe_int (pe_call G__law_pull (hr.mono (by omega)) rfl T.g__law_pull T.F__law_pull.kp T.b__law_pull .nil pass0 (pa_cons (pv 1) (pa_cons pe_int pa_nil)))) pa_nil)) (blkOk_by (N := ["_law_script", "_law_bag_here", "_law_names_here", "_law_letters", "_law_long", "_law_at", "_law_bent", "_law_odd", "_law_found", "_law_k", "_law_name"]) (sc := defScope s_law) (by decide +kernel)) (fun _ _ _ _ _ => (pg_name (i := 9) sc_law.nd rfl (Or.inl rfl))) (fun _ _ _ _ _ => pts_nil) (fun _ _ _ _ _ => (pe_call G__law_any (hr.mono (by omega)) rfl T.g__law_any T.F__law_any.kp T.b__law_any .nil pass0 (pa_cons (pv 1) (pa_cons (pv 3) pa_nil)))))))
      (pss_cons (ps_set (i := 5) sc_law.nd rfl (Or.inl rfl) (pe_call G__law_pull (hr.mono (by omega)) rfl T.g__law_pull T.F__law_pull.kp T.b__law_pull .nil pass0 (pa_cons (pv 1) (pa_cons (pe_op op_add (pe_callB call_len_str (by rfl) T.n_len (by decide +kernel) (pa_cons (pv 4) pa_nil)) pe_int) pa_nil))))
      (pss_cons (ps_set (i := 6) sc_law.nd rfl (Or.inl rfl) (pe_op op_add_str (pe_op op_add_str (pe_slice C8.sl_txt (pv 4) po_none (po_some (pv 5))) (pe_call G__law_any (hr.mono (by omega)) rfl T.g__law_any T.F__law_any.kp T.b__law_any .nil pass0 (pa_cons (pv 1) (pa_cons (pe_lst (pa_cons pe_str (pa_cons pe_str (pa_cons pe_str (pa_cons pe_str (pa_cons pe_str (pa_cons pe_str (pa_cons pe_str (pa_cons pe_str (pa_cons pe_str pa_nil)))))))))) pa_nil)))) (pe_slice C8.sl_txt (pv 4) (po_some (pv 5)) po_none)))
      (pss_cons (ps_set (i := 7) sc_law.nd rfl (Or.inl rfl) (pe_call G__law_any (hr.mono (by omega)) rfl T.g__law_any T.F__law_any.kp T.b__law_any .nil pass0 (pa_cons (pv 1) (pa_cons (pe_lst (pa_cons pe_non (pa_cons pe_int (pa_cons pe_bl (pa_cons (pe_tup (pa_cons pe_str pa_nil)) (pa_cons (pe_lst (pa_cons pe_str pa_nil)) (pa_cons pe_str (pa_cons (pe_tup pa_nil) pa_nil)))))))) pa_nil))))
      (pss_cons (ps_set (i := 8) sc_law.nd rfl (Or.inl rfl) (pe_op op_cat (pe_lc (own := [("_law_name", 10)]) (g := gName 10) (tt := tYes) rfl sc_law.nd (pi_list (pv 2)) (blkOk_by (N := ["_law_script", "_law_bag_here", "_law_names_here", "_law_letters", "_law_long", "_law_at", "_law_bent", "_law_odd", "_law_found", "_law_k", "_law_name"]) (sc := defScope s_law) (by decide +kernel)) (fun _ _ _ _ _ => (pg_name (i := 10) sc_law.nd rfl (Or.inl rfl))) (fun _ _ _ _ _ => pts_nil) (fun _ _ _ _ _ => (pe_call G_is_name (hr.mono (by omega)) rfl T.g_is_name T.F_is_name.kp T.b_is_name .nil pass0 (pa_cons (pv 10) pa_nil)))) (pe_lst (pa_cons (pe_callN0 G_is_name (hr.mono (by omega)) rfl T.g_is_name T.F_is_name.kp (kb_is_name_0_value T) pass0 (pk_cons (pv 4) pk_nil)) (pa_cons (pe_call G_is_name (hr.mono (by omega)) rfl T.g_is_name T.F_is_name.kp T.b_is_name .nil pass0 (pa_cons (pv 6) pa_nil)) (pa_cons (pe_call G_is_name (hr.mono (by omega)) rfl T.g_is_name T.F_is_name.kp T.b_is_name .nil pass0 (pa_cons (pv 7) pa_nil)) pa_nil))))))
      (pss_one (ps_ret (pe_call G__law_like (hr.mono (by omega)) rfl T.g__law_like T.F__law_like.kp T.b__law_like .nil pass0 (pa_cons (pe_op op_cat (pv 8) (pe_lst (pa_cons (pe_call G_is_name (hr.mono (by omega)) rfl T.g_is_name T.F_is_name.kp T.b_is_name .nil pass0 (pa_cons pe_str pa_nil)) (pa_cons (pe_call G_is_name (hr.mono (by omega)) rfl T.g_is_name T.F_is_name.kp T.b_is_name .nil pass0 (pa_cons pe_str pa_nil)) (pa_cons (pe_call G_is_name (hr.mono (by omega)) rfl T.g_is_name T.F_is_name.kp T.b_is_name .nil pass0 (pa_cons pe_str pa_nil)) pa_nil))))) (pa_cons (pe_op op_cat (pe_op op_rep (pe_lst (pa_cons pe_bl pa_nil)) pe_int) (pe_lst (pa_cons (pe_cmpR op_lt (pe_callB call_len_str (by rfl) T.n_len (by decide +kernel) (pa_cons (pv 4) pa_nil)) pe_int (nomark _)) (pa_cons pe_bl (pa_cons pe_bl (pa_cons pe_bl (pa_cons pe_bl (pa_cons pe_bl pa_nil)))))))) pa_nil))))))))))))), ?_⟩
    refine ⟨_, rfl, a, ns, rfl, hS, hl, fun H1 b c s1 hb0 hB1 => ?_⟩
    refine ⟨_, rfl, b, c, 4, rfl, hB1, by decide, fun H2 pn zs x2 hB2 hpn0 hpn zl zok znd => ?_⟩
    have npb : pn ≠ b := (hB1.apart hpn0).1
    -- the long text
    refine ⟨⟨_, rfl⟩, _, rfl, b, c, 8, rfl, hB2, by decide, by decide, fun d Ha d0 d1 xa hB3 => ⟨_, _, rfl, rfl, _, rfl, by omega, by omega, fun D hD => ?_⟩⟩
    have nD := hB3.apart hD
    have hD2 : H2 D = none := xa.free nD.1 hD
    refine lc_range (fun i H' => ∃ cs : List Nat, cs.length = i ∧ isLow cs = true ∧ Ext b H2 H' ∧ BagAt b c H' ∧ H' D = some (.lst (cs.map fun c => vS [c]))) ⟨[], rfl, rfl, Ext.fresh _ xa hD2, hB3.ext (Same.laid _ hD), upd_same⟩ ?_ ?_
    · rintro i H3 hi ⟨cs, hl, hlow, x3, hB4, hacc⟩
      refine ⟨rfl, _, rfl, _, rfl, b, c, _, rfl, hB4, .inr ⟨_, rfl, ?_, ?_, fun j cp H4 hc xb hB5 => ⟨cs.map (fun c => vS [c]), ?_, ?_, cs ++ [cp], ?_, ?_, ?_, ?_, ?_⟩⟩⟩
      · rw [abc_eq]; decide
      · rw [abc_eq]; decide
      · exact xb _ _ nD.1 hacc
      · rw [List.length_map, hl]
        exact Nat.lt_of_lt_of_le hi (Nat.le_trans (show (1 + d).toNat ≤ 8 by omega) (by decide))
      · rw [List.length_append, hl]; rfl
      · rw [abc_eq] at hc
        rw [isLow_app, hlow]
        exact isLow_of fun c' h' => by rw [List.mem_singleton.mp h']; exact abc_mem hc
      · exact Ext.fresh _ (x3.trans xb) hD2
      · exact hB5.store _ nD
      · rw [upd_same]; simp
    · rintro H3 ⟨cs, hl, hlow, x3, hB4, hacc⟩
      have e1 : cs.map (fun c => vS [c]) = (cs.map fun c => SX.S [c]).map V.str := by rw [List.map_map]; rfl
      have hcs : cs.length ≤ 8 := by omega
      have hcs1 : 1 ≤ cs.length := by omega
      refine ⟨_, D, cs.map (fun c => SX.S [c]), rfl, rfl, .inl (.inl (.inl (by rw [← e1]; exact hacc))), ?_, ?_⟩
      · rw [lens_one, List.length_map, show (Str.ofString "").length = 0 from by decide +kernel]
        omega
      rw [joins_one]
      -- a place in it
      refine ⟨_, rfl, _, rfl, _, rfl, ?_, _, _, rfl, rfl, b, c, _, rfl, hB4, ?_, ?_, fun at_ H4 a0 a1 xb hB5 => ?_⟩
      · rw [SX.S_len]; exact Nat.le_trans hcs (by decide)
      · rw [SX.S_len]; omega
      · rw [SX.S_len]; omega
      rw [SX.S_len] at a1
      have x4 := x3.trans xb
      -- bent
      refine ⟨_, rfl, _, rfl, _, rfl, _, rfl, ?_, ?_⟩
      · rw [SX.S_len]; exact Nat.le_trans hcs (by decide)
      rw [SX.slice_to a0]
      refine ⟨_, rfl, (show 9 ≤ sizeLine by decide), fun pl hpl => ?_⟩
      have npl := hB5.apart hpl
      refine ⟨b, c, _, rfl, hB5.ext (Same.laid _ hpl), .inl ⟨pl, _, rfl, .inl ⟨npl.1, upd_same⟩, by decide, by decide, fun i x H5 hx xc hB6 => ?_⟩⟩
      obtain ⟨ch, rfl, hch⟩ := odd_sign hx
      have x5 := (x4.trans (Ext.laid _ hpl)).trans xc
      refine ⟨_, _, rfl, rfl, ?_, _, rfl, _, rfl, _, rfl, _, rfl, ?_, ?_⟩
      · rw [SX.S_len, SX.S_len, List.length_take]
        exact Nat.le_trans (show min at_.toNat cs.length + 1 ≤ 9 by omega) (by decide)
      · rw [SX.S_len]; exact Nat.le_trans hcs (by decide)
      rw [SX.slice_from a0, SX.S_cat]
      refine ⟨_, _, rfl, rfl, ?_, ?_⟩
      · rw [SX.S_len, SX.S_len]
        refine Nat.le_trans (show _ ≤ 20 from ?_) (by decide)
        simp only [List.length_append, List.length_take, List.length_drop, List.length_cons, List.length_nil]
        omega
      rw [SX.S_cat]
      have hbent : isNameD (.str (SX.S (cs.take at_.toNat ++ [ch] ++ cs.drop at_.toNat))) = false := by
        show isNameS _ = false
        unfold isNameS
        have : isLow (SX.S (cs.take at_.toNat ++ [ch] ++ cs.drop at_.toNat)).cps.toList = false := by
          cases q : isLow (SX.S (cs.take at_.toNat ++ [ch] ++ cs.drop at_.toNat)).cps.toList with
          | false => rfl
          | true => exact absurd (isLow_mem q (c := ch) (by simp)) hch
        rw [this]; simp
      have lbent : (SX.S (cs.take at_.toNat ++ [ch] ++ cs.drop at_.toNat)).length ≤ sizeLine := by
        rw [SX.S_len]
        refine Nat.le_trans (show _ ≤ 20 from ?_) (by decide)
        simp only [List.length_append, List.length_take, List.length_drop, List.length_cons, List.length_nil]
        omega
      generalize SX.S (cs.take at_.toNat ++ [ch] ++ cs.drop at_.toNat) = bent at hbent lbent ⊢
      -- odd
      refine ⟨_, rfl, (show 1 ≤ sizeLine by decide), fun t1 ht1 => ⟨(show 1 ≤ sizeLine by decide), fun l1 hl1 => ⟨Nat.zero_le _, fun t2 ht2 => ⟨(show 7 ≤ sizeLine by decide), fun pq hpq => ?_⟩⟩⟩⟩
      have y1 := Same.laid (.tup [.str (Str.ofString "a")]) ht1
      have y2 := Same.laid (.lst [.str (Str.ofString "a")]) hl1
      have y3 := Same.laid (.tup []) ht2
      have y4 := Same.laid (.lst [.non, .int 3, .bl true, .ref t1, .ref l1, .str (Str.ofString ""), .ref t2]) hpq
      have hB7 := (((hB6.ext y1).ext y2).ext y3).ext y4
      have npq := (((hB6.ext y1).ext y2).ext y3).apart hpq
      have nl1 := (hB6.ext y1).apart hl1
      refine ⟨b, c, _, rfl, hB7, .inl ⟨pq, _, rfl, .inl ⟨npq.1, upd_same⟩, (show 0 < 7 by decide), (show 7 < 1000000 by decide), fun i x H6 hx xd hB8 => ?_⟩⟩
      have x6 := ((((x5.trans (Ext.same y1)).trans (Ext.same y2)).trans (Ext.same y3)).trans (Ext.same y4)).trans xd
      have hodd : ∃ d, Dp K H6 x d ∧ isNameD d = false ∧ ∀ z, d = .str z → z.length ≤ sizeLine := by
        have q1 : H6 t1 = some (.tup [.str (Str.ofString "a")]) := xd _ _ ((hB6.apart ht1).1) (y4 _ _ (y3 _ _ (y2 _ _ upd_same)))
        have q2 : H6 l1 = some (.lst [.str (Str.ofString "a")]) := xd _ _ nl1.1 (y4 _ _ (y3 _ _ upd_same))
        have q3 : H6 t2 = some (.tup []) := xd _ _ (((hB6.ext y1).ext y2).apart ht2).1 (y4 _ _ upd_same)
        match i, hx with
        | 0, hx => cases hx; exact ⟨.none, .non, rfl, fun _ e => by cases e⟩
        | 1, hx => cases hx; exact ⟨.int 3, .int 3, rfl, fun _ e => by cases e⟩
        | 2, hx => cases hx; exact ⟨.bool true, .bl true, rfl, fun _ e => by cases e⟩
        | 3, hx => cases hx; exact ⟨.tuple [.str (Str.ofString "a")], .tup (SqT.of q1) (.cons (.str _) .nil), rfl, fun _ e => by cases e⟩
        | 4, hx => cases hx; exact ⟨.list [.str (Str.ofString "a")], .lst (SqL.of q2) (.cons (.str _) .nil), rfl, fun _ e => by cases e⟩
        | 5, hx => cases hx; exact ⟨.str (Str.ofString ""), .str _, by decide +kernel, fun z e => by cases e; decide +kernel⟩
        | 6, hx => cases hx; exact ⟨.tuple [], .tup (SqT.of q3) .nil, rfl, fun _ e => by cases e⟩
        | i + 7, hx => simp at hx
      obtain ⟨dodd, hdo, hno, hlo⟩ := hodd
      have hpn6 : H6 pn = some (.lst (zs.map vS)) := x6 _ _ npb hpn
      clear hx xd x5 x4 x3 y1 y2 y3 y4 hB6 hB5 hB4 hB3 hB2 hB7 xc xa xb hacc
      -- the four names
      refine ⟨_, rfl, pn, rfl, ⟨_, SqL.of hpn6⟩, fun D2 hD2' => ?_⟩
      refine lc_list (K := K) (a := pn) (xs := zs.map vS) (fun i H' => Same H6 H' ∧ H' D2 = some (.lst (List.replicate i (.bl true)))) ⟨Same.laid _ hD2', upd_same⟩ (fun i H' _ q => q.1.seq (SqL.of hpn6)) ?_ ?_
      · rintro i x1 H7 hx1 ⟨s7, hacc⟩
        rw [List.getElem?_map] at hx1
        cases qz : zs[i]? with
        | none => rw [qz] at hx1; cases hx1
        | some z =>
        rw [qz] at hx1
        injection hx1 with hx1
        subst hx1
        have hz := zok z (List.mem_of_getElem? qz)
        have hil : i < 4 := by rw [← zl]; exact (List.getElem?_eq_some_iff.mp qz).1
        refine ⟨rfl, _, rfl, vS z, .str (SX.S z), rfl, .str _, fun z' e => ?_, fun H8 s8 => ⟨_, s8 _ _ hacc, ?_, Same.fresh _ (s7.trans s8) hD2', ?_⟩⟩
        · cases e; rw [SX.S_len]; exact Nat.le_trans hz.2.1 (by decide)
        · rw [List.length_replicate]; exact Nat.lt_of_lt_of_le hil (by decide)
        · have e : isNameD (.str (SX.S z)) = true := by
            show isNameS _ = true
            unfold isNameS
            rw [SX.S_len, decide_eq_true hz.1, decide_eq_true (show z.length ≤ 6 from Nat.le_trans hz.2.1 (by decide))]
            simpa using hz.2.2
          rw [upd_same, e, List.replicate_succ']
      · rintro H7 ⟨s7, hacc⟩
        rw [List.length_map, zl] at hacc
        have elong : isNameD (.str (SX.S cs)) = decide (((SX.S cs).length : Int) < 7) := by
          show isNameS _ = _
          unfold isNameS
          rw [SX.S_len, decide_eq_true hcs1, show isLow (SX.S cs).cps.toList = true from hlow]
          by_cases h7 : cs.length ≤ 6
          · rw [decide_eq_true h7, decide_eq_true (show (cs.length : Int) < 7 by omega)]; rfl
          · rw [decide_eq_false h7, decide_eq_false (show ¬ (cs.length : Int) < 7 by omega)]; rfl
        have llong : (SX.S cs).length ≤ sizeLine := by rw [SX.S_len]; exact Nat.le_trans hcs (by decide)
        refine ⟨_, rfl, rfl, rfl, vS cs, .str (SX.S cs), rfl, .str _, fun z e => by cases e; exact llong, fun H8 s8 => ?_⟩
        refine ⟨_, rfl, .str bent, .str bent, rfl, .str _, fun z e => by cases e; exact lbent, fun H9 s9 => ?_⟩
        refine ⟨_, rfl, x, dodd, rfl, Dp.same ((s7.trans s8).trans s9) _ _ hdo, hlo, fun H10 s10 => ⟨(show 3 ≤ sizeLine by decide), fun q3 hq3 => ?_⟩⟩
        rw [elong, hbent, hno] at *
        have z3 := Same.laid (.lst [.bl (decide (((SX.S cs).length : Int) < 7)), .bl false, .bl false]) hq3
        refine ⟨D2, q3, _, _, rfl, rfl, (((s8.trans s9).trans s10).trans z3) _ _ hacc, upd_same, (show 7 ≤ sizeLine by decide), fun q4 hq4 => ?_⟩
        refine ⟨_, rfl, _, _, rfl, .str _, fun z e => by cases e; decide +kernel, fun H11 s11 => ?_⟩
        refine ⟨_, _, rfl, .str _, fun z e => by cases e; decide +kernel, fun H12 s12 => ?_⟩
        refine ⟨_, _, rfl, .str _, fun z e => by cases e; decide +kernel, fun H13 s13 => ⟨(show 3 ≤ sizeLine by decide), fun q5 hq5 => ?_⟩⟩
        rw [show isNameD (.str (Str.ofString "abcdef")) = true from by decide +kernel, show isNameD (.str (Str.ofString "abcdefg")) = false from by decide +kernel, show isNameD (.str (Str.ofString "a")) = true from by decide +kernel] at *
        have z5 := Same.laid (.lst [.bl true, .bl false, .bl true]) hq5
        refine ⟨q4, q5, _, _, rfl, rfl, z5 _ _ (s13 _ _ (s12 _ _ (s11 _ _ upd_same))), upd_same, (show 10 ≤ sizeLine by decide), fun q6 hq6 => ?_⟩
        refine ⟨(show 1 ≤ sizeLine by decide), fun q7 hq7 => ⟨q7, 4, _, rfl, rfl, upd_same, by decide, by decide, (show 1 * 4 ≤ sizeLine by decide), fun q8 hq8 => ?_⟩⟩
        refine ⟨_, rfl, _, rfl, llong, _, _, rfl, rfl, (show 6 ≤ sizeLine by decide), fun q9 hq9 => ?_⟩
        have z7 := Same.laid (.lst [.bl true]) hq7
        have z8 := Same.laid (.lst (List.replicate (Int.toNat 4) [V.bl true]).flatten) hq8
        have z9 := Same.laid (.lst [.bl (decide (((SX.S cs).length : Int) < 7)), .bl false, .bl false, .bl true, .bl false, .bl true]) hq9
        refine ⟨q8, q9, _, _, rfl, rfl, z9 _ _ upd_same, upd_same, (show 10 ≤ sizeLine by decide), fun qA hqA => ?_⟩
        refine ⟨.ref q6, .ref qA, .list ([true, true, true, true, decide (((SX.S cs).length : Int) < 7), false, false, true, false, true].map .bool), rfl, ?_, ?_, ?_, fun H' _ => k H'⟩
        · have zA := Same.laid (.lst ((List.replicate (Int.toNat 4) [V.bl true]).flatten ++ [.bl (decide (((SX.S cs).length : Int) < 7)), .bl false, .bl false, .bl true, .bl false, .bl true])) hqA
          exact .lst (SqL.of (zA _ _ (z9 _ _ (z8 _ _ (z7 _ _ upd_same))))) (.cons (.bl _) (.cons (.bl _) (.cons (.bl _) (.cons (.bl _) (.cons (.bl _) (.cons (.bl _) (.cons (.bl _) (.cons (.bl _) (.cons (.bl _) (.cons (.bl _) .nil))))))))))
        · exact .lst (SqL.of upd_same) (.cons (.bl _) (.cons (.bl _) (.cons (.bl _) (.cons (.bl _) (.cons (.bl _) (.cons (.bl _) (.cons (.bl _) (.cons (.bl _) (.cons (.bl _) (.cons (.bl _) .nil))))))))))
        · rfl

end
end Ag
namespace Ag
open PySem L2
theorem txt_mk {K : PySem.W.Frag} {h : Heap} {mg : Str → Option Value} {t_LETTERS : Tok}
    {t_MOST_LETTERS : Tok}
    {f_is_name : Addr} {od_is_name an_is_name : Option Addr} {sl_is_name : Array (Option Value)} {oc_is_name kV_is_name dc_is_name pm_is_name cd_is_name ct_is_name : Value}
    {f__law_bag : Addr} {od__law_bag an__law_bag : Option Addr} {sl__law_bag : Array (Option Value)} {oc__law_bag kV__law_bag dc__law_bag pm__law_bag cd__law_bag ct__law_bag : Value}
    {f__law_pull : Addr} {od__law_pull an__law_pull : Option Addr} {sl__law_pull : Array (Option Value)} {oc__law_pull kV__law_pull dc__law_pull pm__law_pull cd__law_pull ct__law_pull : Value}
    {f__law_any : Addr} {od__law_any an__law_any : Option Addr} {sl__law_any : Array (Option Value)} {oc__law_any kV__law_any dc__law_any pm__law_any cd__law_any ct__law_any : Value}
    {f__law_like : Addr} {od__law_like an__law_like : Option Addr} {sl__law_like : Array (Option Value)} {oc__law_like kV__law_like dc__law_like pm__law_like cd__law_like ct__law_like : Value}
    {f__law_names : Addr} {od__law_names an__law_names : Option Addr} {sl__law_names : Array (Option Value)} {oc__law_names kV__law_names dc__law_names pm__law_names cd__law_names ct__law_names : Value}
    {f_law : Addr} {od_law an_law : Option Addr} {sl_law : Array (Option Value)} {oc_law kV_law dc_law pm_law cd_law ct_law : Value}
    (X : K.In h) (G : h.Ns mainGlobals mg)
    (z_all : PySem.W.nsIn K mainGlobals "all" = some none)
    (z_bool : PySem.W.nsIn K mainGlobals "bool" = some none)
    (z_dict : PySem.W.nsIn K mainGlobals "dict" = some none)
    (z_int : PySem.W.nsIn K mainGlobals "int" = some none)
    (z_isinstance : PySem.W.nsIn K mainGlobals "isinstance" = some none)
    (z_len : PySem.W.nsIn K mainGlobals "len" = some none)
    (z_list : PySem.W.nsIn K mainGlobals "list" = some none)
    (z_range : PySem.W.nsIn K mainGlobals "range" = some none)
    (z_sorted : PySem.W.nsIn K mainGlobals "sorted" = some none)
    (z_str : PySem.W.nsIn K mainGlobals "str" = some none)
    (z_tuple : PySem.W.nsIn K mainGlobals "tuple" = some none)
    (z_zip : PySem.W.nsIn K mainGlobals "zip" = some none)
    (a_LETTERS : PySem.W.nsIn K mainGlobals "LETTERS" = some (some (.str "abcdefghijklmnopqrstuvwxyz" t_LETTERS)))
    (a_MOST_LETTERS : PySem.W.nsIn K mainGlobals "MOST_LETTERS" = some (some (.int 6 t_MOST_LETTERS)))
    (a_is_name : PySem.W.nsIn K mainGlobals "is_name" = some (some (.ref f_is_name)))
    (l_is_name : K.lookup f_is_name = some ⟨oc_is_name, od_is_name, .func (PySem.W.fnOf "is_name" "is_name" (defArgs s_is_name) (defBody s_is_name) (defScope s_is_name) .none kV_is_name dc_is_name pm_is_name an_is_name cd_is_name ct_is_name), sl_is_name⟩)
    (c_is_name : PySem.W.codeIn K cd_is_name "is_name" = true) (k_is_name : PySem.W.keepIn K (.ref f_is_name) = true)
    (a__law_bag : PySem.W.nsIn K mainGlobals "_law_bag" = some (some (.ref f__law_bag)))
    (l__law_bag : K.lookup f__law_bag = some ⟨oc__law_bag, od__law_bag, .func (PySem.W.fnOf "_law_bag" "_law_bag" (defArgs s__law_bag) (defBody s__law_bag) (defScope s__law_bag) .none kV__law_bag dc__law_bag pm__law_bag an__law_bag cd__law_bag ct__law_bag), sl__law_bag⟩)
    (c__law_bag : PySem.W.codeIn K cd__law_bag "_law_bag" = true) (k__law_bag : PySem.W.keepIn K (.ref f__law_bag) = true)
    (a__law_pull : PySem.W.nsIn K mainGlobals "_law_pull" = some (some (.ref f__law_pull)))
    (l__law_pull : K.lookup f__law_pull = some ⟨oc__law_pull, od__law_pull, .func (PySem.W.fnOf "_law_pull" "_law_pull" (defArgs s__law_pull) (defBody s__law_pull) (defScope s__law_pull) .none kV__law_pull dc__law_pull pm__law_pull an__law_pull cd__law_pull ct__law_pull), sl__law_pull⟩)
    (c__law_pull : PySem.W.codeIn K cd__law_pull "_law_pull" = true) (k__law_pull : PySem.W.keepIn K (.ref f__law_pull) = true)
    (a__law_any : PySem.W.nsIn K mainGlobals "_law_any" = some (some (.ref f__law_any)))
    (l__law_any : K.lookup f__law_any = some ⟨oc__law_any, od__law_any, .func (PySem.W.fnOf "_law_any" "_law_any" (defArgs s__law_any) (defBody s__law_any) (defScope s__law_any) .none kV__law_any dc__law_any pm__law_any an__law_any cd__law_any ct__law_any), sl__law_any⟩)
    (c__law_any : PySem.W.codeIn K cd__law_any "_law_any" = true) (k__law_any : PySem.W.keepIn K (.ref f__law_any) = true)
    (a__law_like : PySem.W.nsIn K mainGlobals "_law_like" = some (some (.ref f__law_like)))
    (l__law_like : K.lookup f__law_like = some ⟨oc__law_like, od__law_like, .func (PySem.W.fnOf "_law_like" "_law_like" (defArgs s__law_like) (defBody s__law_like) (defScope s__law_like) .none kV__law_like dc__law_like pm__law_like an__law_like cd__law_like ct__law_like), sl__law_like⟩)
    (c__law_like : PySem.W.codeIn K cd__law_like "_law_like" = true) (k__law_like : PySem.W.keepIn K (.ref f__law_like) = true)
    (a__law_names : PySem.W.nsIn K mainGlobals "_law_names" = some (some (.ref f__law_names)))
    (l__law_names : K.lookup f__law_names = some ⟨oc__law_names, od__law_names, .func (PySem.W.fnOf "_law_names" "_law_names" (defArgs s__law_names) (defBody s__law_names) (defScope s__law_names) .none kV__law_names dc__law_names pm__law_names an__law_names cd__law_names ct__law_names), sl__law_names⟩)
    (c__law_names : PySem.W.codeIn K cd__law_names "_law_names" = true) (k__law_names : PySem.W.keepIn K (.ref f__law_names) = true)
    (a_law : PySem.W.nsIn K mainGlobals "law" = some (some (.ref f_law)))
    (l_law : K.lookup f_law = some ⟨oc_law, od_law, .func (PySem.W.fnOf "law" "law" (defArgs s_law) (defBody s_law) (defScope s_law) .none kV_law dc_law pm_law an_law cd_law ct_law), sl_law⟩)
    (c_law : PySem.W.codeIn K cd_law "law" = true) (k_law : PySem.W.keepIn K (.ref f_law) = true) : ∃ _ : Txt K mg, True :=
  ⟨{ n_all := PySem.W.mg_none_of X G z_all,
     n_bool := PySem.W.mg_none_of X G z_bool,
     n_dict := PySem.W.mg_none_of X G z_dict,
     n_int := PySem.W.mg_none_of X G z_int,
     n_isinstance := PySem.W.mg_none_of X G z_isinstance,
     n_len := PySem.W.mg_none_of X G z_len,
     n_list := PySem.W.mg_none_of X G z_list,
     n_range := PySem.W.mg_none_of X G z_range,
     n_sorted := PySem.W.mg_none_of X G z_sorted,
     n_str := PySem.W.mg_none_of X G z_str,
     n_tuple := PySem.W.mg_none_of X G z_tuple,
     n_zip := PySem.W.mg_none_of X G z_zip,
     k_LETTERS := t_LETTERS,
     g_LETTERS := PySem.W.mg_of X G a_LETTERS,
     k_MOST_LETTERS := t_MOST_LETTERS,
     g_MOST_LETTERS := PySem.W.mg_of X G a_MOST_LETTERS,
     f_is_name := f_is_name,
     fd_is_name := _,
     F_is_name := fun_mk (st := s_is_name) l_is_name c_is_name k_is_name,
     g_is_name := PySem.W.mg_of X G a_is_name,
     b_is_name := (fun_mk (st := s_is_name) l_is_name c_is_name k_is_name).binds (ps := ["value"]) fun _ _ _ _ _ _ us hl => match us, hl with | [_], _ => rfl,
     f__law_bag := f__law_bag,
     fd__law_bag := _,
     F__law_bag := fun_mk (st := s__law_bag) l__law_bag c__law_bag k__law_bag,
     g__law_bag := PySem.W.mg_of X G a__law_bag,
     b__law_bag := (fun_mk (st := s__law_bag) l__law_bag c__law_bag k__law_bag).binds (ps := ["_law_script"]) fun _ _ _ _ _ _ us hl => match us, hl with | [_], _ => rfl,
     f__law_pull := f__law_pull,
     fd__law_pull := _,
     F__law_pull := fun_mk (st := s__law_pull) l__law_pull c__law_pull k__law_pull,
     g__law_pull := PySem.W.mg_of X G a__law_pull,
     b__law_pull := (fun_mk (st := s__law_pull) l__law_pull c__law_pull k__law_pull).binds (ps := ["_law_bag_here", "_law_many"]) fun _ _ _ _ _ _ us hl => match us, hl with | [_, _], _ => rfl,
     f__law_any := f__law_any,
     fd__law_any := _,
     F__law_any := fun_mk (st := s__law_any) l__law_any c__law_any k__law_any,
     g__law_any := PySem.W.mg_of X G a__law_any,
     b__law_any := (fun_mk (st := s__law_any) l__law_any c__law_any k__law_any).binds (ps := ["_law_bag_here", "_law_things"]) fun _ _ _ _ _ _ us hl => match us, hl with | [_, _], _ => rfl,
     f__law_like := f__law_like,
     fd__law_like := _,
     F__law_like := fun_mk (st := s__law_like) l__law_like c__law_like k__law_like,
     g__law_like := PySem.W.mg_of X G a__law_like,
     b__law_like := (fun_mk (st := s__law_like) l__law_like c__law_like k__law_like).binds (ps := ["_law_found", "_law_due"]) fun _ _ _ _ _ _ us hl => match us, hl with | [_, _], _ => rfl,
     f__law_names := f__law_names,
     fd__law_names := _,
     F__law_names := fun_mk (st := s__law_names) l__law_names c__law_names k__law_names,
     g__law_names := PySem.W.mg_of X G a__law_names,
     b__law_names := (fun_mk (st := s__law_names) l__law_names c__law_names k__law_names).binds (ps := ["_law_bag_here", "_law_many"]) fun _ _ _ _ _ _ us hl => match us, hl with | [_, _], _ => rfl,
     f_law := f_law,
     fd_law := _,
     F_law := fun_mk (st := s_law) l_law c_law k_law,
     g_law := PySem.W.mg_of X G a_law,
     b_law := (fun_mk (st := s_law) l_law c_law k_law).binds (ps := ["_law_script"]) fun _ _ _ _ _ _ us hl => match us, hl with | [_], _ => rfl,
     b_law_all := fun s v => .of_eq rfl }, trivial⟩
theorem law_walk {l : PySem.W.OpenLaw} {q : Program} {loose : List Str} {XP : (Str → Option Value) → Heap → Prop} {YP : World → Heap → Prop} {d : DefRec} {K : Params → PySem.W.Frag}
    (hn : l.most = some 63) (hdf : d.params.defaults = []) (hd : d.name = "law") (hY : ∀ (w : World) (h : Heap), YP w h → (K w.params).In h)
    (F : ∀ (w : World) (mg : Str → Option Value) (h : Heap), (K w.params).In h → h.Ns mainGlobals mg → ∃ _ : Txt (K w.params) mg, True) :
    PySem.W.WalkO q loose XP YP l.row.toRowW d [] (fun f vs => PySem.call f vs) := by
  refine L2.walk_of (n := 63) (k := 5) (x := "_law_script") (CX := fun _ => CX0) (sp := fun w => spLaw (K w.params)) hn (by decide) hdf ⟨rfl, by decide, by decide⟩ hY ?_ (fun _ _ a ns hl _ hS => ⟨a, ns, rfl, hS, hl, fun _ => rfl⟩) fun _ _ _ _ _ z => z
  intro w mg fa h KX G hfa
  obtain ⟨T, _⟩ := F w mg h KX G
  have e := hfa.symm.trans (hd ▸ T.g_law)
  cases e
  exact ⟨T.fd_law, fun s v => T.b_law_all s v, fun base _ _ => ok_law T⟩
end Ag

open PySem PySem.W PyProof.Rows in
set_option maxRecDepth 100000 in
set_option maxHeartbeats 0 in
theorem PySem.Challenge.cw_addedgrounds_k02_names_holds : PySem.Challenge.rw_addedgrounds_k02_names.Holds := by
  w_on; o_law; k_head; (case hw => w_witness2)
  k_fill
  refine Ag.law_walk (l := PySem.Challenge.rw_addedgrounds_k02_names) rfl rfl rfl (fun w h Y => PySem.W.kIn_of Y) ?F
  case F =>
    intro w mg h KX G
    refine' Ag.txt_mk KX G ?z_all ?z_bool ?z_dict ?z_int ?z_isinstance ?z_len ?z_list ?z_range ?z_sorted ?z_str ?z_tuple ?z_zip ?a_LETTERS ?a_MOST_LETTERS ?a_is_name ?l_is_name ?c_is_name ?k_is_name ?a__law_bag ?l__law_bag ?c__law_bag ?k__law_bag ?a__law_pull ?l__law_pull ?c__law_pull ?k__law_pull ?a__law_any ?l__law_any ?c__law_any ?k__law_any ?a__law_like ?l__law_like ?c__law_like ?k__law_like ?a__law_names ?l__law_names ?c__law_names ?k__law_names ?a_law ?l_law ?c_law ?k_law
    (case z_all => k_is)
    (case z_bool => k_is)
    (case z_dict => k_is)
    (case z_int => k_is)
    (case z_isinstance => k_is)
    (case z_len => k_is)
    (case z_list => k_is)
    (case z_range => k_is)
    (case z_sorted => k_is)
    (case z_str => k_is)
    (case z_tuple => k_is)
    (case z_zip => k_is)
    (case a_LETTERS => k_is)
    (case a_MOST_LETTERS => k_is)
    (case a_is_name => k_is)
    (case l_is_name => k_is)
    (case c_is_name => k_is)
    (case k_is_name => k_is)
    (case a__law_bag => k_is)
    (case l__law_bag => k_is)
    (case c__law_bag => k_is)
    (case k__law_bag => k_is)
    (case a__law_pull => k_is)
    (case l__law_pull => k_is)
    (case c__law_pull => k_is)
    (case k__law_pull => k_is)
    (case a__law_any => k_is)
    (case l__law_any => k_is)
    (case c__law_any => k_is)
    (case k__law_any => k_is)
    (case a__law_like => k_is)
    (case l__law_like => k_is)
    (case c__law_like => k_is)
    (case k__law_like => k_is)
    (case a__law_names => k_is)
    (case l__law_names => k_is)
    (case c__law_names => k_is)
    (case k__law_names => k_is)
    (case a_law => k_is)
    (case l_law => k_is)
    (case c_law => k_is)
    (case k_law => k_is)

