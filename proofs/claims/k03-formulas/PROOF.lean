import PyProof.Rows.All
import Wide.All
import OpenK.AllK
import Wide.FinOn
import HandS.Nested
import KE.KDflt
import HandS.ForMost
import HandS.Wide
import HandS.IsInst
import HandS.Zip
import HandS.Deep
import HandS.TupAny
import HandS.Codes
import HandS.Walk
import HandS.Defaults
import HandS.More
import HandS.SetKeys
import KE.KExcSuper
import KE.KDflt
import HandS.HotCalls
import HandS.EndTab
import HandS.ExcInit
import HandS.Nested
import HandS.Lambda
import HandS.TryOnly
import HandS.TryMany
import HandS.ExcField
import HandS.MakeKw
import HandS.MakeKwOnly
import HandS.Star
import HandS.MethStar
import KE.GoesMore
import HandS.FStr
import HandS.Style
import KE.DatumOrd
import HandS.SetTxt0
import HandS.SetBool
import HandS.Strs
import PySem.Challenge.RW_addedgrounds_k03_formulas_and_their_text
set_option Elab.async false
set_option linter.all false
set_option maxRecDepth 100000
set_option maxHeartbeats 4000000
namespace Ag
open PySem L2
open C8 (pss_cut tCut)
section
variable {P : Program} {w : World} {K : PySem.W.Frag} {mg : Str → Option Value} {base : Heap} {cs : List (Str × Addr)}
/-! sets of texts: members l, in no order -/
open PySem.Froz (SD sObj addTx tailTx TxOk)
def SetT (P : Program) (w : World) (h : Heap) (a : Addr) (l : List Str) : Prop :=
  ∃ D : SD, h.get? a = some (sObj "set" D) ∧ (l.Nodup ∧ TxOk P w D l) ∧ Ris D.2.2.place.toList ∧ (w.params.followText "set-order" = true ∨ D.2.2.led = true)
section
variable {P : Program} {w : World} {A : Around} {E : Value → Shared → Prop} {s : Shared} {h h' : Heap} {a : Addr} {l : List Str}
theorem SetT.keep (R : SetT P w h a l) (k : ∀ o, h.get? a = some o → h'.get? a = some o) : SetT P w h' a l := by
  obtain ⟨D, e, q⟩ := R
  exact ⟨D, k _ e, q⟩
theorem SetT.fresh (P : Program) (w : World) (h : Heap) : SetT P w (h.push { cls := .type "set", dict := none, data := .set #[] 0 (.fresh 0 0 (!w.params.followText "set-order")) }) h.objs.size [] := by
  refine ⟨(#[], 0, .fresh 0 0 (!w.params.followText "set-order")), Heap.get?_push_size _ rfl, ⟨List.nodup_nil, .nil (by rfl)⟩, List.Pairwise.nil, ?_⟩
  show _ ∨ (!w.params.followText "set-order") = true
  cases w.params.followText "set-order" with
  | true => exact .inl rfl
  | false => exact .inr rfl
/-- the table behind an add -/
theorem addTx_ris {D : SD} {x : Int} {v : Value} (r : Ris D.2.2.place.toList) : Ris (addTx x v D).2.2.place.toList ∧ (addTx x v D).2.2.led = D.2.2.led := by
  obtain ⟨es, ep, t⟩ := D
  have r1 := layNew_ris t es x v r
  have l1 := layNew_led t es x v
  unfold addTx tailTx
  dsimp only at r1 l1 ⊢
  generalize layNew t es x v = Z at r1 l1 ⊢
  obtain ⟨es1, t1, wd, gv⟩ := Z
  dsimp only at r1 l1 ⊢
  have r2 : Ris (if t1.plain = true then { t1 with plain := false } else t1).place.toList := by split <;> exact r1
  have l2 : (if t1.plain = true then { t1 with plain := false } else t1).led = t.led := by split <;> exact l1
  generalize (if t1.plain = true then { t1 with plain := false } else t1) = t2 at r2 l2 ⊢
  split
  · exact ⟨relayAll_ris t2 es1 _, (relayAll_led t2 es1 _).trans l2⟩
  · exact ⟨r2, l2⟩
theorem found_x {D : SD} {x : Str} {tk : Tok} {Q : Bool → Shared → Prop} (hO : s.heap.get? a = some (sObj "set" D)) (F : TxOk P w D l) (hx : x ∈ l) (hb : l.length < scanBound) (hQ : Q false s) :
    wpAny (model P w) A (setAddHashed a (.str x tk) (hashStr w x)) Q E s := by
  obtain ⟨es, ep, t⟩ := D
  have hD : (sObj "set" (es, ep, t)).data = .set es ep t := rfl
  have fits : t.fits es.size = true := F.fit
  have els : ElemsOf (PySem.strKind P w) es.toList := F.el
  have few : es.size < scanBound := by rw [show es.size = l.length from F.sz]; exact hb
  have key : (PySem.strKind P w).is x (.str x tk) = true := PySem.Froz.is_str x tk
  unfold setAddHashed setAddHashedIn
  refine wpAny_holding (wpAny_bind (wpAny_setState_of hO hD fits ?_))
  dsimp only
  rw [byScan_of (x := Value.str x tk) rfl few els, if_pos rfl]
  unfold setAddByScan
  refine wpAny_bind (wpAny_bind (wpAny_rule (wpAny_bind (wpAny_setScan_of (knd := PySem.strKind P w) (k := x) key hO hD fits els ?_))))
  cases q : List.findIdx? (fun e => (PySem.strKind P w).is x e.2) es.toList with
  | some j => exact wpAny_pure (wpAny_pure hQ)
  | none =>
    obtain ⟨e, he, z⟩ := (F.mem x).mp hx
    have c := List.findIdx?_eq_none_iff.mp q e he
    rw [z] at c
    cases c
theorem setT_addH {x : Str} {tk : Tok} {Q : Bool → Shared → Prop} (R : SetT P w s.heap a l) (hb : l.length + 1 < scanBound)
    (hQ : ∀ b h', Heap.SameBut a s.heap h' → SetT P w h' a (if x ∈ l then l else x :: l) → Q b { s with heap := h' }) : wpAny (model P w) A (setAddHashed a (.str x tk) (hashStr w x)) Q E s := by
  obtain ⟨D, e, ⟨nd, F⟩, r, ld⟩ := R
  by_cases hx : x ∈ l
  · refine found_x e F hx (by omega) ?_
    have := hQ false s.heap (Heap.SameBut.refl a s.heap)
    rw [if_pos hx] at this
    exact this ⟨D, e, ⟨nd, F⟩, r, ld⟩
  · refine PySem.Froz.add_x e F hx hb ?_
    have := hQ true (s.heap.update a fun _ => sObj "set" (addTx (hashStr w x) (.str x tk) D)) (Heap.SameBut.update s.heap a _)
    rw [if_neg hx] at this
    obtain ⟨r1, l1⟩ := addTx_ris (x := hashStr w x) (v := .str x tk) r
    exact this ⟨_, PySem.Froz.get_upd _ e rfl, ⟨List.nodup_cons.mpr ⟨hx, nd⟩, PySem.Froz.add_ok tk F⟩, r1, ld.imp id fun z => by rw [l1]; exact z⟩
theorem SetT.typ (R : SetT P w s.heap a l) : s.TypeIs (.ref a) "set" := by
  obtain ⟨D, e, _⟩ := R
  exact ⟨_, e, rfl⟩
/-- a.add(x) -/
theorem setT_add {x : Str} {tk : Tok} {Q : Value → Shared → Prop} (R : SetT P w s.heap a l) (hb : l.length + 1 < scanBound)
    (hQ : ∀ h', Heap.SameBut a s.heap h' → SetT P w h' a (if x ∈ l then l else x :: l) → Q .none { s with heap := h', toks := s.toks + 1 }) : wpAny (model P w) A (call (.builtin "set.add") [.ref a, .str x tk]) Q E s := by
  refine wpAny_call_entry PySem.F.slot_set_add R.typ PySem.F.entry_set_add ?_ (PySem.F.args_set_add_2 _ _)
  unfold Builtin.«set.add» Builtin.Frozenset.oneOther
  simp only [List.isEmpty_nil, bind_assoc]
  unfold Builtin.Frozenset.addrOf setAdd
  refine wpAny_bind (wpAny_pure ?_)
  try dsimp only
  refine wpAny_bind (wpAny_pure ?_)
  try dsimp only
  refine wpAny_bind (wpAny_holding (wpAny_bind ((PySem.strKind P w).pyHash (PySem.Froz.is_str x tk) ?_)))
  refine setT_addH (s := { s with toks := s.toks + 1 }) R hb fun b h' sb new => ?_
  exact wpAny_pure ⟨_, rfl, hQ h' sb new⟩
/-- sorted(a) -/
theorem strs_of : ∀ (vs : List Value), (∀ v ∈ vs, ∃ x tk, v = Value.str x tk) → ∃ ss, PyProof.Rows.StrsAre vs ss ∧ ∀ k, k ∈ ss ↔ ∃ v ∈ vs, Value.isStrOf k v = true
  | [], _ => ⟨[], .nil, fun k => by simp⟩
  | v :: vs, hv => by
    obtain ⟨x, tk, rfl⟩ := hv v List.mem_cons_self
    obtain ⟨ss, z, m⟩ := strs_of vs fun u hu => hv u (List.mem_cons_of_mem _ hu)
    refine ⟨x :: ss, .cons x tk z, fun k => ?_⟩
    rw [List.mem_cons, m k]
    constructor
    · rintro (rfl | ⟨u, hu, q⟩)
      · exact ⟨_, List.mem_cons_self, by simp [Value.isStrOf]⟩
      · exact ⟨u, List.mem_cons_of_mem _ hu, q⟩
    · rintro ⟨u, hu, q⟩
      rcases List.mem_cons.mp hu with rfl | hu
      · obtain ⟨t, e⟩ := Value.isStrOf_shape q
        injection e with e1 _
        exact .inl e1.symm
      · exact .inr ⟨u, hu, q⟩
theorem perm_of_sub {α : Type} [DecidableEq α] : ∀ {l m : List α}, l.Nodup → (∀ x ∈ l, x ∈ m) → m.length ≤ l.length → l.Perm m
  | [], m, _, _, h => by
    cases m with
    | nil => exact .refl _
    | cons _ _ => simp at h
  | x :: l, m, nd, hs, h => by
    obtain ⟨n1, n2⟩ := List.nodup_cons.mp nd
    have pm := List.perm_cons_erase (hs x List.mem_cons_self)
    refine .trans (.cons x (perm_of_sub n2 (fun y hy => ?_) ?_)) pm.symm
    · rw [List.mem_erase_of_ne (a := y) (b := x) (fun e : y = x => n1 (e ▸ hy))]
      exact hs y (List.mem_cons_of_mem _ hy)
    · have := pm.length_eq
      rw [List.length_cons] at this h
      omega
theorem setT_sorted {Q : Value → Shared → Prop} (R : SetT P w s.heap a l) (hh : A.handled = none) (h64 : l.length < 64)
    (hQ : ∀ (s' : Shared) (p : Addr) (out : Array Value) (c : Nat) (ys : List Str), (∀ b o, s.heap.get? b = some o → s'.heap.get? b = some o) → s'.gens = s.gens → s'.os = s.os → s.heap.objs.size ≤ p →
      s'.heap.get? p = some (PyProof.Rows.seqObj "list" out c) → PyProof.Rows.StrsAre out.toList ys → ys.Perm l → PyProof.Rows.sortedS ys = true → Q (.ref p) s') :
    wpAny (model P w) A (call (.builtin "sorted") [.ref a]) Q E s := by
  obtain ⟨⟨es, ep, t⟩, e, ⟨nd, F⟩, r, ld⟩ := R
  have szE : es.size = l.length := F.sz
  refine Calls.call_function_entry PyProof.Rows.kind_sorted PyProof.Rows.plain_sorted PyProof.Rows.entry_sorted (PyProof.Rows.args_sorted1 _) ?_
  unfold Builtin.«sorted»
  refine wpAny_bind (m := checkCount "sorted" 1 1 _) (wpAny_pure (wpAny_bind ?_))
  refine collect_set (A := A.in1) (ep := ep) hh ⟨_, e, rfl, rfl⟩ F.fit (by rw [szE]; unfold scanBound; omega) r ld fun s1 vs k1 z1 g1 o1 pm => ?_
  have lenV : vs.length = l.length := by rw [pm.length_eq, List.length_map, Array.length_toList, szE]
  have txt : ∀ v ∈ vs, ∃ x tk, v = Value.str x tk := fun v hv => by
    obtain ⟨u, hu, rfl⟩ := List.mem_map.mp (pm.mem_iff.mp hv)
    obtain ⟨⟨k, hk, _⟩, _⟩ := F.el u hu
    obtain ⟨tk, q⟩ := Value.isStrOf_shape hk
    exact ⟨k, tk, q⟩
  obtain ⟨ss, hS, hM⟩ := strs_of vs txt
  have lenS : ss.length = l.length := by rw [← lenV]; exact (PyProof.Rows.StrsAre.length hS).symm
  have pl : l.Perm ss := perm_of_sub nd (fun x hx => by
    obtain ⟨u, hu, q⟩ := (F.mem x).mp hx
    exact (hM x).mpr ⟨u.2, pm.mem_iff.mpr (List.mem_map.mpr ⟨u, hu, rfl⟩), q⟩) (by omega)
  refine wpAny_bind (wpAny_newList ?_ (by rw [lenV, sizeLine_eq]; omega))
  have atL : (s1.heap.push (PyProof.Rows.seqObj "list" vs.toArray 0)).get? s1.heap.objs.size = some (PyProof.Rows.seqObj "list" vs.toArray 0) := Heap.get?_push_size _ rfl
  refine wpAny_bind (wpAny_holding (wpAny_call_entry PyProof.Rows.slot_list_sort ⟨_, atL, rfl⟩ PyProof.Rows.entry_list_sort ?_ (PyProof.Rows.args_list_sort _)))
  refine PyProof.Rows.list_sort_treeK PyProof.Rows.strKind_oneLt (s := { s1 with heap := s1.heap.push (PyProof.Rows.seqObj "list" vs.toArray 0) }) atL hS.keysOf (fun v₁ v₂ rest q => PyProof.Rows.keyKind_strs (by rw [← q]; exact hS)) (by rw [lenV]; exact h64) fun st hp hs => ⟨_, rfl, ?_⟩
  obtain ⟨ys, y1, y2, y3⟩ := PyProof.Rows.sorted_out_str hS hp hs
  obtain ⟨c, hc⟩ := PyProof.Rows.sortedHeap_at (vs := vs) (out := (PyProof.Rows.arrOf st).map (·.2)) atL
  refine wpAny_pure ⟨_, rfl, hQ _ s1.heap.objs.size _ c ys (fun b u q => ?_) g1 o1 z1 hc y1 (y2.trans pl.symm) y3⟩
  have q1 := k1 b u q
  have lt := Heap.lt_size q1
  show (PyProof.Rows.sortedHeap (s1.heap.push (PyProof.Rows.seqObj "list" vs.toArray 0)) s1.heap.objs.size vs _).get? b = some u
  rw [PyProof.Rows.sortedHeap_old (Nat.ne_of_lt lt) (by rw [PyProof.Rows.size_push']; exact Nat.lt_succ_of_lt lt)]
  exact Heap.get?_push_of_some _ q1
end

end
end Ag
namespace Ag
open PySem L2
open C8 (pss_cut tCut)
section
variable {P : Program} {w : World} {K : PySem.W.Frag} {mg : Str → Option Value} {base : Heap} {cs : List (Str × Addr)}
/-! set(xs) of a list of texts -/
def ins1 (l : List Str) (x : Str) : List Str := if x ∈ l then l else x :: l
def ded (xs : List Str) : List Str := xs.foldl ins1 []
theorem ins1_len (l : List Str) (x : Str) : (ins1 l x).length ≤ l.length + 1 := by unfold ins1; split <;> simp
theorem ins_len : ∀ (xs l : List Str), (xs.foldl ins1 l).length ≤ l.length + xs.length
  | [], l => by simp
  | x :: xs, l => by
    have h1 := ins_len xs (ins1 l x)
    have h2 := ins1_len l x
    rw [List.foldl_cons, List.length_cons]
    omega
theorem ded_len (xs : List Str) : (ded xs).length ≤ xs.length := by have := ins_len xs []; simpa [ded] using this
theorem ded_snoc (xs : List Str) (x : Str) : ded (xs ++ [x]) = ins1 (ded xs) x := by unfold ded; rw [List.foldl_append]; rfl
theorem strs_get : ∀ {us : List Value} {xs : List Str}, PyProof.Rows.StrsAre us xs → ∀ (i : Nat) (v : Value), us[i]? = some v → ∃ tk, v = .str (xs.getD i Str.empty) tk
  | _, _, .nil, _, _, e => by simp at e
  | _, _, .cons x tk z, 0, v, e => ⟨tk, by simpa using e.symm⟩
  | _, _, .cons x tk z, i + 1, v, e => by
    obtain ⟨t, q⟩ := strs_get z i v (by simpa using e)
    exact ⟨t, by simpa using q⟩
section
variable {P : Program} {w : World} {A : Around} {E : Value → Shared → Prop} {s : Shared}
section
variable {R : Result → Shared → Prop} {I : Addr} {fp wr : List Addr} {G : Array GenState → Array GenState → Prop} {n : Nat} {Pv : Nat → Value → Prop} {Sx : Nat → Shared → Prop}
open PyProof.Rows in
theorem loopT (W : WalksS P w A.in1 I fp wr G n Pv Sx) (a : Addr) (nf : a ∉ fp) (xs : List Str) (sz : xs.length = n) (few : n ≤ 1000) (val : ∀ i v, Pv i v → ∃ tk, v = .str (xs.getD i Str.empty) tk) :
    ∀ (k i : Nat) (s : Shared), n - i = k → i ≤ n → Sx i s → SetT P w s.heap a (ded (xs.take i)) → (∀ s', Moved (a :: wr) G s s' → SetT P w s'.heap a (ded xs) → R (.ok (.ret .none)) s') →
      codeAny (model P w) A (.builtin "set.update.loop" ⟨[.ref a, .ref I], []⟩) R s
  | 0, i, s, hk, hi, st, hS, hR => by
    have e : i = n := by omega
    subst e
    have nw : a ∉ wr := fun z => nf (W.sub _ z)
    refine codeAny_builtin PyProof.Rows.F.entry_set_update_loop ?_
    rw [Around.under_plainId PyProof.Rows.F.plain_set_update_loop _]
    show wpAny _ A.in1 (pyNext (.ref I) >>= _) _ _ s
    refine wpAny_bind (W.done s _ _ st fun s' m => ?_)
    refine wpAny_pure (hR s' (m.mono fun b hb => List.mem_cons_of_mem _ hb) ?_)
    rw [← sz, List.take_length] at hS
    exact hS.keep fun o q => m.heap a _ nw q
  | k + 1, i, s, hk, hi, st, hS, hR => by
    have lt : i < n := by omega
    have nw : a ∉ wr := fun z => nf (W.sub _ z)
    refine codeAny_builtin PyProof.Rows.F.entry_set_update_loop ?_
    rw [Around.under_plainId PyProof.Rows.F.plain_set_update_loop _]
    show wpAny _ A.in1 (pyNext (.ref I) >>= _) _ _ s
    refine wpAny_bind (W.item i s _ _ lt st fun v s' hP st' m => ?_)
    obtain ⟨tk, rfl⟩ := val i v hP
    have hS1 : SetT P w s'.heap a (ded (xs.take i)) := hS.keep fun o q => m.heap a _ nw q
    show wpAny _ A.in1 (holding [Value.str (xs.getD i Str.empty) tk] (setAdd a (.str (xs.getD i Str.empty) tk)) >>= _) _ _ s'
    unfold setAdd
    refine wpAny_bind (wpAny_holding (wpAny_holding (wpAny_bind ((PySem.strKind P w).pyHash (PySem.Froz.is_str (xs.getD i Str.empty) tk) ?_))))
    have len := ded_len (xs.take i)
    rw [List.length_take] at len
    refine setT_addH (s := { s' with toks := s'.toks + 1 }) hS1 (by unfold scanBound; omega) fun b h' sb new => ?_
    have eT : (if xs.getD i Str.empty ∈ ded (xs.take i) then ded (xs.take i) else xs.getD i Str.empty :: ded (xs.take i)) = ded (xs.take (i + 1)) := by
      have il : i < xs.length := by omega
      rw [List.take_succ_eq_append_getElem il, ded_snoc, List.getD_eq_getElem?_getD, List.getElem?_eq_getElem il]
      rfl
    rw [eT] at new
    have oth : ∀ b o, b ≠ a → s'.heap.get? b = some o → h'.get? b = some o := fun b o hb q => (sb.2 b hb).trans q
    refine wpAny_pure ⟨plainId_quiet PyProof.Rows.F.plain_set_update_loop _, loopT W a nf xs sz few val k (i + 1) _ (by omega) lt (W.frame _ s' _ _ st' (Nat.le_succ _) fun b hb o q => oth b o (fun z => nf (z ▸ hb)) q) new fun s2 m2 hS2 => ?_⟩
    exact hR s2 (Moved.trans W.gtrans ((m.mono fun b hb => List.mem_cons_of_mem _ hb).then_heap (Nat.le_succ _) fun b o hb q => oth b o (fun z => hb (z ▸ List.mem_cons_self)) q) m2) hS2
end
abbrev nilSet (w : World) : Obj := { cls := .type "set", dict := none, data := .set #[] 0 (.fresh 0 0 (!w.params.followText "set-order")) }
theorem code_setL (v : Value) {Q₁ : Value → Shared → Prop} (q : Q₁ (.ref s.heap.objs.size) { s with heap := s.heap.push (nilSet w) }) :
    codeAny (model P w) A (.call (.builtin "set.__new__") ⟨[.type "set", v], []⟩) (wants Q₁ E) s := by
  refine codeAny_of_tree ?_
  show wpAny _ A.in1 (do checkBuiltinCall "set.__new__" ⟨[.type "set", v], []⟩; again (.builtin "set.__new__" ⟨[.type "set", v], []⟩)) _ _ s
  refine wpAny_bind (wpAny_of_eq (PySem.F.newCall_set_1 v) (wpAny_pure ⟨plainId_quiet PySem.F.plain_set_new _, codeAny_builtin PySem.F.entry_set_new ?_⟩))
  rw [Around.under_plainId PySem.F.plain_set_new _]
  unfold Builtin.«set.__new__» Builtin.Frozenset.newClass
  have hsub := sub_set_self
  obtain ⟨hp, g, d, tk, os⟩ := s
  dsimp only
  wp_walk
  refine wpAny_askSetting (wpAny_pure ?_)
  dsimp only
  simp only [newObj]
  exact wpAny_bind (wpAny_alloc (wpAny_pure (wpAny_pure q)))
open PyProof.Rows in
set_option maxHeartbeats 3200000 in
theorem call_setT {b : Addr} {its : Array Value} {xs : List Str} {Q : Value → Shared → Prop} (hh : A.handled = none) (hl : s.heap.IsList b its) (hi : StrsAre its.toList xs) (few : xs.length ≤ 1000)
    (q : ∀ (h' : Heap) (tk : Nat), SetT P w h' s.heap.objs.size (ded xs) → (∀ c o, s.heap.get? c = some o → h'.get? c = some o) → Q (.ref s.heap.objs.size) { s with heap := h', toks := tk }) :
    wpAny (model P w) A (call (.type "set") [.ref b]) Q E s := by
  obtain ⟨c, tl, hmro⟩ := PySem.F.called_set.mro
  have hmade := PySem.F.called_set.made
  have hsub := PySem.F.called_set.sub
  refine wpAny_call (codeAny_of_tree ?_)
  show wpAny _ _ (callAny (.type "set") _) _ _ _
  refine wpAny_pure ⟨Code.quiet_builtin _ (by decide +kernel), codeAny_builtin PySem.F.entry_type_call ?_⟩
  rw [Around.under_plain (weight_type_call_type "set" [.ref b] []) rfl]
  have h1 := PySem.F.called_set.notType
  have h2 := PySem.F.called_set.canCreate
  have hct := PySem.F.typeCall_set_1 (.ref b)
  repeat (any_goals (first | assumption | wp_step))
  refine codeAny_mono (code_setL (.ref b) (E := E) (Q₁ := fun obj s₁ => obj = .ref s.heap.objs.size ∧ s₁ = { s with heap := s.heap.push (nilSet w) }) ⟨rfl, rfl⟩) fun r s₁ hr => ?_
  cases r with
  | error e => exact hr
  | ok fl =>
    cases fl with
    | ret obj =>
      obtain ⟨rfl, rfl⟩ := hr
      have hS : (s.heap.push (nilSet w)).get? s.heap.objs.size = some (nilSet w) := Heap.get?_push_size _ rfl
      have hT : Shared.TypeIs { s with heap := s.heap.push (nilSet w) } (.ref s.heap.objs.size) "set" := ⟨_, hS, rfl⟩
      have hli := PySem.F.called_set.init.lookup
      have hbi := PySem.F.called_set.init.bind (.ref s.heap.objs.size)
      repeat (any_goals (first | assumption | wp_step))
      refine codeAny_mono (codeAny_call_builtin (R := wants (fun r s₂ => r = .none ∧ ∃ h' tk, s₂ = { s with heap := h', toks := tk } ∧ SetT P w h' s.heap.objs.size (ded xs) ∧
          (∀ c o, s.heap.get? c = some o → h'.get? c = some o)) E) PySem.F.called_set.init.plain PySem.F.entry_set_init (check_set_init_1 hT ?_)) fun r₂ s₂ hr₂ => ?_
      · obtain ⟨ol, hol, hcl, nl, hdl⟩ := hl
        obtain ⟨ocls, odict, odata, oslots⟩ := ol
        simp only at hcl hdl
        subst hcl; subst hdl
        have hol' : (s.heap.push (nilSet w)).get? b = some { cls := .type "list", dict := odict, data := .seq its nl, slots := oslots } := Heap.get?_push_of_some _ hol
        have hsls := PySem.F.sub_list_set
        have hslf := PySem.F.sub_list_frozenset
        have hne : (Value.type "list" == Value.type "dict") = false := by decide
        have isl : (s.heap.push (nilSet w)).IsList b its := ⟨_, hol', rfl, nl, rfl⟩
        unfold Builtin.«set.__init__» noKeywords Builtin.Frozenset.updateFrom
        generalize hPI : pyIter = PI
        wp_walk
        subst hPI
        refine wpAny_pyIter_list isl (wpAny_bind (wpAny_runValue ?_))
        have bS : b < s.heap.objs.size := Heap.lt_size hol
        have h3 : A.in1.in1.in1.handled = none := by simp [hh]
        have s1 : (s.heap.push (nilSet w)).objs.size = s.heap.objs.size + 1 := Heap.size_push ..
        have bI : b ≠ (s.heap.push (nilSet w)).objs.size := by rw [s1]; exact Nat.ne_of_lt (Nat.lt_succ_of_lt bS)
        have sf : s.heap.objs.size ∉ [(s.heap.push (nilSet w)).objs.size, b] := by
          rw [s1]
          simp only [List.mem_cons, List.mem_singleton, List.not_mem_nil, or_false, not_or]
          exact ⟨Nat.ne_of_lt (Nat.lt_succ_self _), Nat.ne_of_gt bS⟩
        have sz : xs.length = its.size := by rw [← StrsAre.len_eq hi, Array.length_toList]
        refine loopT ((Walks.list h3 _ b bI its).toS) s.heap.objs.size sf xs sz (by omega) (fun i v hv => strs_get hi i v (by rw [Array.getElem?_toList]; exact hv)) (its.size - 0) 0 _ rfl (Nat.zero_le _)
          ⟨⟨_, Heap.get?_push_size _ rfl, rfl, rfl⟩, (isl.push _)⟩ ((SetT.fresh P w s.heap).keep fun o z => Heap.get?_push_of_some _ z) fun s' m hS' => ?_
        obtain ⟨h', g', d', tk', os'⟩ := s'
        have eg : g' = s.gens := m.gens
        have ed : d' = s.drawn := m.drawn
        have eo : os' = s.os := m.os
        subst eg; subst ed; subst eo
        refine wpAny_pure (wpAny_pure ⟨rfl, h', tk', rfl, hS', fun c o e => ?_⟩)
        have lt := Heap.lt_size e
        refine m.heap c o (fun z => ?_) (Heap.get?_push_of_some _ (Heap.get?_push_of_some _ e))
        rcases List.mem_cons.mp z with z | z
        · exact absurd lt (by rw [z]; exact Nat.lt_irrefl _)
        · have z1 := List.mem_singleton.mp z
          rw [s1] at z1
          exact absurd lt (by rw [z1]; exact Nat.not_lt_of_le (Nat.le_succ _))
      · cases r₂ with
        | error e => exact hr₂
        | ok fl₂ =>
          cases fl₂ with
          | ret r =>
            obtain ⟨rfl, h', tk, rfl, hS', hk'⟩ := hr₂
            repeat (any_goals (first | assumption | wp_step))
            exact q _ _ hS' hk'
          | _ => exact hr₂.elim
    | _ => exact hr.elim
end

end
end Ag
namespace Ag
open PySem L2
open C8 (pss_cut tCut)
section
variable {P : Program} {w : World} {K : PySem.W.Frag} {mg : Str → Option Value} {base : Heap} {cs : List (Str × Addr)}
/-! heaps: all but the bag at b stays -/
def Ext (b : Addr) (H H' : Hp) : Prop := ∀ a o, a ≠ b → H a = some o → H' a = some o
theorem Ext.refl (b : Addr) (H : Hp) : Ext b H H := fun _ _ _ h => h
theorem Ext.trans {b : Addr} {H H1 H2 : Hp} (x : Ext b H H1) (y : Ext b H1 H2) : Ext b H H2 := fun a o n h => y a o n (x a o n h)
theorem Ext.upd (b : Addr) (H : Hp) (o : HO) : Ext b H (L2.upd H b o) := fun a u n h => by rw [upd_ne n]; exact h
theorem Ext.laid {b p : Addr} {H : Hp} (o : HO) (hp : H p = none) : Ext b H (L2.upd H p o) := fun a u n h => by
  rw [upd_ne (ne_of_none h hp)]; exact h
theorem Ext.same {b : Addr} {H H' : Hp} (s : Same H H') : Ext b H H' := fun a o _ h => s a o h
theorem Ext.free {b p : Addr} {H H' : Hp} (x : Ext b H H') (n : p ≠ b) (h : H' p = none) : H p = none := by
  cases q : H p with
  | none => rfl
  | some o => rw [x p o n q] at h; cases h
theorem Same.laid {p : Addr} {H : Hp} (o : HO) (hp : H p = none) : Same H (L2.upd H p o) := fun a u h => by
  rw [upd_ne (ne_of_none h hp)]; exact h
/-- a store at what is new -/
theorem Same.fresh {p : Addr} {H H' : Hp} (o : HO) (s : Same H H') (hp : H p = none) : Same H (L2.upd H' p o) := fun a u h => by
  rw [upd_ne (ne_of_none h hp)]; exact s a u h
theorem Ext.fresh {b p : Addr} {H H' : Hp} (o : HO) (s : Ext b H H') (hp : H p = none) : Ext b H (L2.upd H' p o) := fun a u n h => by
  rw [upd_ne (ne_of_none h hp)]; exact s a u n h

/-! the bag of drawn numbers: its list at b, its cells at c -/
def BagAt (b c : Addr) (H : Hp) : Prop := ∃ (ns : List Int) (i : Nat) (big seed cnt : Int),
  H b = some (.lst [.ref c, .int i, .int big, .int seed, .int cnt]) ∧ H c = some (.lst (ns.map V.int)) ∧ i ≤ ns.length ∧ ns.length ≤ 63 ∧ 0 ≤ big ∧ 0 ≤ seed ∧ seed < 2147483629
theorem BagAt.lst {b c : Addr} {H : Hp} (h : BagAt b c H) : ∃ xs, H b = some (.lst xs) := by
  obtain ⟨ns, i, big, seed, cnt, h, _⟩ := h
  exact ⟨_, h⟩
theorem bag_ne {b c : Addr} {H : Hp} {xs : List V} {ns : List Int} (h : H b = some (.lst (.ref c :: xs))) (h' : H c = some (.lst (ns.map V.int))) : c ≠ b := fun e => by
  rw [e, h] at h'
  cases ns with
  | nil => injection h' with q; injection q with q; cases q
  | cons n ns => injection h' with q; injection q with q; injection q with q; cases q
theorem BagAt.ext {b c : Addr} {H H' : Hp} (h : BagAt b c H) (e : Same H H') : BagAt b c H' := by
  obtain ⟨ns, i, big, seed, cnt, h1, h2, r⟩ := h
  exact ⟨ns, i, big, seed, cnt, e _ _ h1, e _ _ h2, r⟩
/-- a new address is neither -/
theorem BagAt.apart {b c p : Addr} {H : Hp} (h : BagAt b c H) (hp : H p = none) : p ≠ b ∧ p ≠ c := by
  obtain ⟨ns, i, big, seed, cnt, h1, h2, r⟩ := h
  exact ⟨fun e => (by rw [e, h1] at hp; cases hp), fun e => (by rw [e, h2] at hp; cases hp)⟩
theorem BagAt.store {b c p : Addr} {H : Hp} (o : HO) (h : BagAt b c H) (n : p ≠ b ∧ p ≠ c) : BagAt b c (L2.upd H p o) := by
  obtain ⟨ns, i, big, seed, cnt, h1, h2, r⟩ := h
  exact ⟨ns, i, big, seed, cnt, by rw [upd_ne n.1.symm]; exact h1, by rw [upd_ne n.2.symm]; exact h2, r⟩
/-! data -/
def tyN : PyData → String
  | .none => "NoneType" | .bool _ => "bool" | .int _ => "int" | .str _ => "str" | .list _ => "list" | .tuple _ => "tuple" | .dict _ => "dict"
theorem SqL.tyx {K : PySem.W.Frag} {H : Hp} {a : Addr} {xs : List V} (h : SqL K H a xs) : TyX K H (.ref a) (.type "list") := by
  rcases h with (h | ⟨o, h⟩) | h
  · exact .base (.lst h)
  · exact .base (.frz h)
  · obtain ⟨o, its, n, h1, h2, _⟩ := h
    exact .kList h1 h2
theorem SqT.tyx {K : PySem.W.Frag} {H : Hp} {a : Addr} {xs : List V} (h : SqT K H a xs) : TyX K H (.ref a) (.type "tuple") := by
  rcases h with (h | ⟨o, h⟩) | h
  · exact .base (.tup h)
  · exact .fTuple h
  · obtain ⟨o, its, n, h1, h2, _⟩ := h
    exact .kTuple h1 h2
theorem Dp.tyx {K : PySem.W.Frag} {H : Hp} {v : V} {d : PyData} (h : Dp K H v d) : TyX K H v (.type (tyN d)) := by
  cases h with
  | non => exact .base .non
  | bl b => exact .base (.bl b)
  | int i => exact .base (.int i)
  | str x => exact .base (.str x)
  | lst h _ => exact SqL.tyx h
  | tup h _ => exact SqT.tyx h
theorem Same.sqT {K : PySem.W.Frag} {H H' : Hp} {a : Addr} {xs : List V} (s : Same H H') (h : SqT K H a xs) : SqT K H' a xs := by
  rcases h with (h | ⟨o, h⟩) | h
  · exact .inl (.inl (s _ _ h))
  · exact .inl (.inr ⟨o, s _ _ h⟩)
  · exact .inr h
mutual
theorem Dp.same {K : PySem.W.Frag} {H H' : Hp} (s : Same H H') : ∀ (d : PyData) (v : V), Dp K H v d → Dp K H' v d
  | .none, _, h => by cases h; exact .non
  | .bool b, _, h => by cases h; exact .bl b
  | .int i, _, h => by cases h; exact .int i
  | .str x, _, h => by cases h; exact .str x
  | .list ds, _, h => by
    cases h with
    | lst h1 h2 => exact .lst (s.seq h1) (DpAll.same s ds _ h2)
  | .tuple ds, _, h => by
    cases h with
    | tup h1 h2 => exact .tup (Same.sqT s h1) (DpAll.same s ds _ h2)
  | .dict _, _, h => by cases h
theorem DpAll.same {K : PySem.W.Frag} {H H' : Hp} (s : Same H H') : ∀ (ds : List PyData) (vs : List V), DpAll K H vs ds → DpAll K H' vs ds
  | [], _, h => by cases h; exact .nil
  | d :: ds, _, h => by
    cases h with
    | cons h1 h2 => exact .cons (Dp.same s d _ h1) (DpAll.same s ds _ h2)
end
mutual
/-- no list stands in it -/
def tupOnly : PyData → Bool
  | .list _ => false | .dict _ => false | .tuple ds => tupAll ds | _ => true
def tupAll : List PyData → Bool
  | [] => true | d :: ds => tupOnly d && tupAll ds
end
theorem Ext.sqT {K : PySem.W.Frag} {b : Addr} {H H' : Hp} {a : Addr} {xs ys : List V} (e : Ext b H H') (hb : H b = some (.lst ys)) (h : SqT K H a xs) : SqT K H' a xs := by
  rcases h with (h | ⟨o, h⟩) | h
  · exact .inl (.inl (e _ _ (ne_of h hb (by intro q; cases q)) h))
  · exact .inl (.inr ⟨o, e _ _ (ne_of h hb (by intro q; cases q)) h⟩)
  · exact .inr h
mutual
theorem Dp.ext {K : PySem.W.Frag} {b : Addr} {H H' : Hp} {ys : List V} (e : Ext b H H') (hb : H b = some (.lst ys)) : ∀ (d : PyData) (v : V), tupOnly d = true → Dp K H v d → Dp K H' v d
  | .none, _, _, h => by cases h; exact .non
  | .bool b, _, _, h => by cases h; exact .bl b
  | .int i, _, _, h => by cases h; exact .int i
  | .str x, _, _, h => by cases h; exact .str x
  | .list ds, _, t, h => by cases t
  | .tuple ds, _, t, h => by
    cases h with
    | tup h1 h2 => exact .tup (Ext.sqT e hb h1) (DpAll.ext e hb ds _ t h2)
  | .dict _, _, _, h => by cases h
theorem DpAll.ext {K : PySem.W.Frag} {b : Addr} {H H' : Hp} {ys : List V} (e : Ext b H H') (hb : H b = some (.lst ys)) : ∀ (ds : List PyData) (vs : List V), tupAll ds = true → DpAll K H vs ds → DpAll K H' vs ds
  | [], _, _, h => by cases h; exact .nil
  | d :: ds, _, t, h => by
    have t' : tupOnly d = true ∧ tupAll ds = true := by
      unfold tupAll at t
      exact Bool.and_eq_true_iff.mp t
    cases h with
    | cons h1 h2 => exact .cons (Dp.ext e hb d _ t'.1 h1) (DpAll.ext e hb ds _ t'.2 h2)
end
theorem DpAll.length {K : PySem.W.Frag} {H : Hp} : ∀ {vs : List V} {ds : List PyData}, DpAll K H vs ds → vs.length = ds.length
  | _, _, .nil => rfl
  | _, _, .cons _ h => by rw [List.length_cons, List.length_cons, DpAll.length h]
theorem DpAll.get {K : PySem.W.Frag} {H : Hp} : ∀ {vs : List V} {ds : List PyData} {i : Nat} {v : V}, DpAll K H vs ds → vs[i]? = some v → ∃ d, ds[i]? = some d ∧ Dp K H v d
  | _, _, _, _, .nil, e => by simp at e
  | _, _, 0, _, .cons (d := d) h1 _, e => by simp at e; subst e; exact ⟨d, rfl, h1⟩
  | _, _, i + 1, v, .cons _ h2, e => by
    obtain ⟨d, e1, e2⟩ := DpAll.get (i := i) (v := v) h2 (by simpa using e)
    exact ⟨d, by simpa using e1, e2⟩
theorem walk_zipT {K : PySem.W.Frag} {a b : Addr} {xs ys : List V} {n : Nat} (hn : n = min xs.length ys.length) : Walk (RZ.ItzT K a b) n (fun H => SqT K H a xs ∧ SqT K H b ys) (YPair (fun i => xs[i]?) (fun i => ys[i]?)) := by
  subst hn
  constructor
  · intro i H hi q
    exact ⟨xs, ys, xs[i]'(by omega), ys[i]'(by omega), q.1, q.2, by simp, by simp⟩
  · intro H q
    exact ⟨xs, ys, q.1, q.2, by omega⟩
  · rintro i H v H' _ q ⟨T, x, z, h1, h2, h3, h4, h5⟩
    exact ⟨T, x, z, h1, h2, h3, h4 xs q.1, h5 ys q.2⟩
theorem upd_self {H : Hp} {a : Addr} {o : HO} (h : H a = some o) : upd H a o = H := by
  funext x
  unfold upd
  split
  · rename_i e; rw [e, h]
  · rfl

def spPull : Sp := fun vs H Q _ => ∃ (b c : Addr) (m : Int), vs = [.ref b, .int m] ∧ BagAt b c H ∧ 0 < m ∧ m < 1099511627776 ∧
  ∀ (d : Int) (H' : Hp), 0 ≤ d → d < m → Ext b H H' → BagAt b c H' → Q (.int d) H'
def spBag (K : PySem.W.Frag) : Sp := fun vs H Q _ => ∃ (a : Addr) (ns : List Int), vs = [.ref a] ∧ SqL K H a (ns.map V.int) ∧ ns.length ≤ 63 ∧
  ∀ H' b c, Same H H' → H b = none → BagAt b c H' → Q (.ref b) H'
theorem atI_int {α : Type} {xs : List α} {d : Int} {v : α} (h0 : 0 ≤ d) (h : xs[d.toNat]? = some v) : atI xs d = some v := by
  obtain ⟨n, rfl⟩ := Int.eq_ofNat_of_zero_le h0
  exact atI_nat h

/-- f(k = v, ..), no positional value -/
theorem pe_callN0 {X : Cx} {CX : CXT} {k : Nat} {f : Addr} {fd : FuncData} {ps ks : List Str} {sp : Sp} {E : XK} {x : Str} {p pos : Pos} {kws : List Keyword} {tk : TA}
    {g : List Value → List Value → List Value} {gV : List V → List V → List V} (F : FnOk X.prog X.w X.K X.mg X.base CX k f fd ps sp) (hr : Room k X.A) (hg : Gl X x)
    (hm : X.mg x = some (.ref f)) (hk : PySem.W.keepIn X.K (.ref f) = true) (hb : KBn X.K fd ps 0 ks g gV) (hx : Passes CX X E) (hkw : PK X kws tk)
    (hall : (backToKw pos (keywordEach kws X.env)).all (·.1.isSome) = true := by rfl)
    (hks : (backToKw pos (keywordEach kws X.env)).filterMap (·.1) = ks := by rfl)
    (hdb : (x == ("__debug__" : Str)) = false := by decide)
    (hpl : ((backTo pos (starEach [] X.env)).any (·.1) || (backToKw pos (keywordEach kws X.env)).any (·.1.isNone)) = false := by rfl) :
    PE X (.Call (.Name x p) [] kws pos) (tCallN 0 ks.length sp gV E tNil tk) := by
  constructor
  intro pins s σ H Q I h
  refine PySem.wpAny_Call_Name_kw (ld_glob I hg hm ?_ hdb)
  refine PySem.W.callWith_KW0 (h₀ := X.base) I.ok.mod.kin hk hall ?_ hpl
  refine thn (hkw.run pos pins s σ H _ I h) ?_
  rintro ws s2 ⟨zs, H2, I2, rz, l1, l2, q2⟩
  refine ⟨I2.kIn, ?_⟩
  rw [hks]
  exact run_fnN (us := []) (vs := []) F hr hb hx I2 .nil rz rfl l2 q2
theorem hu64 {A : Around} {k : Nat} (hr : Room k A) : A.units + 64 < cLine := by
  have := hr.un
  omega
/-! what was a tuple is that tuple -/
def TS (K : PySem.W.Frag) (H H' : Hp) : Prop := ∀ a xs, SqT K H a xs → SqT K H' a xs
theorem TS.refl {K : PySem.W.Frag} (H : Hp) : TS K H H := fun _ _ h => h
theorem TS.trans {K : PySem.W.Frag} {H H1 H2 : Hp} (a : TS K H H1) (b : TS K H1 H2) : TS K H H2 := fun x xs h => b x xs (a x xs h)
theorem TS.same {K : PySem.W.Frag} {H H' : Hp} (s : Same H H') : TS K H H' := fun _ _ h => Same.sqT s h
theorem TS.at_ {K : PySem.W.Frag} {H : Hp} {a : Addr} {u : HO} (o : HO) (h : H a = some u) (n1 : ∀ xs, u ≠ .tup xs) (n2 : ∀ ob xs, u ≠ .frz ob (.tup xs)) : TS K H (L2.upd H a o) := fun b xs q => by
  rcases q with (q | ⟨ob, q⟩) | q
  · exact .inl (.inl (by rw [upd_ne (ne_of q h (Ne.symm (n1 _)))]; exact q))
  · exact .inl (.inr ⟨ob, by rw [upd_ne (ne_of q h (Ne.symm (n2 _ _)))]; exact q⟩)
  · exact .inr q
theorem TS.lst {K : PySem.W.Frag} {H : Hp} {a : Addr} {xs : List V} (o : HO) (h : H a = some (.lst xs)) : TS K H (L2.upd H a o) := TS.at_ o h (fun _ q => nomatch q) (fun _ _ q => nomatch q)
theorem TS.dct {K : PySem.W.Frag} {H : Hp} {a : Addr} {kvs : List (Key × V)} (o : HO) (h : H a = some (.dK kvs)) : TS K H (L2.upd H a o) := TS.at_ o h (fun _ q => nomatch q) (fun _ _ q => nomatch q)
theorem TS.laid {K : PySem.W.Frag} {H : Hp} {p : Addr} (o : HO) (hp : H p = none) : TS K H (L2.upd H p o) := TS.same (Same.laid o hp)
theorem TS.ext {K : PySem.W.Frag} {b : Addr} {H H' : Hp} {ys : List V} (e : Ext b H H') (hb : H b = some (.lst ys)) : TS K H H' := fun _ _ h => Ext.sqT e hb h
mutual
theorem Dp.ts {K : PySem.W.Frag} {H H' : Hp} (e : TS K H H') : ∀ (d : PyData) (v : V), tupOnly d = true → Dp K H v d → Dp K H' v d
  | .none, _, _, h => by cases h; exact .non
  | .bool b, _, _, h => by cases h; exact .bl b
  | .int i, _, _, h => by cases h; exact .int i
  | .str x, _, _, h => by cases h; exact .str x
  | .list ds, _, t, h => by cases t
  | .tuple ds, _, t, h => by
    cases h with
    | tup h1 h2 => exact .tup (e _ _ h1) (DpAll.ts e ds _ t h2)
  | .dict _, _, _, h => by cases h
theorem DpAll.ts {K : PySem.W.Frag} {H H' : Hp} (e : TS K H H') : ∀ (ds : List PyData) (vs : List V), tupAll ds = true → DpAll K H vs ds → DpAll K H' vs ds
  | [], _, _, h => by cases h; exact .nil
  | d :: ds, _, t, h => by
    have t' : tupOnly d = true ∧ tupAll ds = true := by
      unfold tupAll at t
      exact Bool.and_eq_true_iff.mp t
    cases h with
    | cons h1 h2 => exact .cons (Dp.ts e d _ t'.1 h1) (DpAll.ts e ds _ t'.2 h2)
end

end
end Ag
namespace Ag
open PySem L2
open C8 (pss_cut tCut)
section
variable {P : Program} {w : World} {K : PySem.W.Frag} {mg : Str → Option Value} {base : Heap} {cs : List (Str × Addr)}
/-! dicts of the module, texts to texts: what the text says -/
def kvOf (e : DictEntry) : Option (Str × Str) := match e.key, e.val with
  | .str k _, .str v _ => some (k, v)
  | _, _ => none
def kvT (tab : List (String × String)) : List (Option (Str × Str)) := tab.map fun p => some (Str.ofString p.1, Str.ofString p.2)
def KdT (K : PySem.W.Frag) (w : World) (a : Addr) (tab : List (String × String)) : Prop := ∃ es n, KDict K w a es n ∧ es.toList.map kvOf = kvT tab

end
end Ag
namespace Ag
open PySem L2
open C8 (pss_cut tCut)
section
variable {P : Program} {w : World} {K : PySem.W.Frag} {mg : Str → Option Value} {base : Heap} {cs : List (Str × Addr)}
/-! what the text says of static methods and class constants -/
structure SMet (K : PySem.W.Frag) (C : Addr) (mc : Value) (m : Str) (p g : Addr) : Prop where
  at_ : PySem.W.findCls K (.ref C) mc m = some (.get (.builtin "staticmethod.__get__") (.ref p) .none (.ref C))
  rc : ∃ rest, PySem.W.recIn K p "staticmethod" = some (.ref g :: rest)
  kp : PySem.W.keepIn K (.ref g) = true
structure CRd (K : PySem.W.Frag) (C : Addr) (mc : Value) : Prop where
  rd : PySem.W.readsIn K C mc = true
  ga : PySem.W.specialIn K (.ref C) "__getattribute__" = some (some (.builtin "type.__getattribute__"))
structure CNum (K : PySem.W.Frag) (C : Addr) (mc : Value) (f : Str) (i : Int) : Prop where
  at_ : ∃ t, PySem.W.findCls K (.ref C) mc f = some (.val (.int i t))
/-- the type of an instance is asked -/
structure InsT (K : PySem.W.Frag) (C : Addr) : Prop where
  k1 : PySem.W.findIn K (.ref C) "__class__" = some (some (.builtin "object.__class__"))
  k2 : PySem.W.specialIn K (.builtin "object.__class__") "__get__" = some (some (.builtin "getset_descriptor.__get__"))
  k3 : PySem.W.takesIn K (.builtin "object.__class__") = some true
  k4 : PySem.W.mroIn K C (.type "object") = some true
theorem kl_of {K : PySem.W.Frag} {C : Addr} (h1 : PySem.W.isClsIn K C = true) (h2 : PySem.W.typeIn K (.ref C) = some (.type "type")) (h3 : PySem.W.subIn K (.type "list") (.ref C) = some false) : PySem.W.kitOne K (.type "list") (.ref C) = some false := by
  have e : ((Value.type "list") == (Value.ref C)) = false := rfl
  unfold PySem.W.kitOne PySem.W.kitCls
  unfold PySem.W.isClsIn at h1
  rw [e]
  simp only [Bool.false_eq_true, if_false, h1, h2, beq_self_eq_true, Bool.and_self, if_true]
  exact h3

end
end Ag
namespace Ag
open PySem L2
open C8 (pss_cut tCut)
section
variable {P : Program} {w : World} {K : PySem.W.Frag} {mg : Str → Option Value} {base : Heap} {cs : List (Str × Addr)}
/-! an own exception over ValueError whose __init__ begins with super().__init__(text) -/
open NdefX (NF ncx envF NScope CellsAt startF inv_startN)
/-- what the text says of the class C and of its __init__ f (its code object at cd, the cell of __class__ at cc, its first parameter x) -/
structure SupF (P : Program) (K : PySem.W.Frag) (C f cc cd : Addr) (x : Str) : Prop where
  fn : ∃ o fd ar, K.lookup f = some o ∧ o.data = .func fd ∧ (fd.params.posonlyargs ++ fd.params.args).head? = some ar ∧ ar.arg = x
  code : ∃ o vs file tf, K.lookup cd = some o ∧ o.data = .fields vs ∧ vs[2]? = some (.str file tf) ∧ ((P.main.file : Str) == file) = true
  cell : ∃ o, K.lookup cc = some o ∧ o.data = .cell (some (.ref C))
  cls : ∃ o kd, K.lookup C = some o ∧ o.data = .cls kd
  sub : PySem.W.mroIn K C (.ref C) = some true
  isv : PySem.W.subIn K (.ref C) (.type "ValueError") = some true
  ini : PySem.W.ks_superIn K C C "__init__" = some (some (.builtin "ValueError.__init__"))
  opq : PySem.W.nsIn K cStatics "thirdparty.any" = some none
  top : (P.main.scope.names.lookup ("super" : Str)).isSome = false
  oex : OexC K C
section
variable {X : Cx} {pins : List (Addr × Obj)} {σ : L2.St} {H : Hp} {s : Shared} {A : Around} {Er : Value → Shared → Prop} {C f cc cd a : Addr} {x : Str}
/-- the object that super() gives -/
abbrev supO (C a : Addr) : Obj := { cls := .type "super", dict := none, data := .fields #[.ref C, .ref a, .ref C], slots := #[] }
theorem sup_base {body : List Stmt} {p0 p1 : Pos} {whole : Sem Value} {t : Addr} {d : Option Addr} {Q : Value → Shared → Prop} (SF : SupF X.prog X.K C f cc cd x) (I : Inv X pins σ H s) (hf : X.env.func = some f) (hc : X.env.code = .ref cd) (hg : Gl X "super") (hm : X.mg "super" = none)
    (hk : X.env.kindOf "__class__" = some .free) (hcl : X.env.cells.lookup ("__class__" : Str) = some cc) (hN : X.N[0]? = some x) (hx : X.env.kindOf x = some .local) (hσ : σ[0]? = some (some (.ref a)))
    (ha : s.heap.get? a = some ({ cls := .ref C, dict := d, data := .fields #[.ref t, .none, .none, .none, .bool false, .none] } : Obj))
    (h : ∀ h', h'.get? s.heap.objs.size = some (supO C a) → (∀ y o, s.heap.get? y = some o → h'.get? y = some o) → Q (.ref s.heap.objs.size) { s with heap := h' }) :
    wpAt (model X.prog X.w) A (.func body X.env) (attributeBase (.Call (.Name "super" p0) [] [] p1) "__init__" X.env whole) Q Er s := by
  obtain ⟨fo, fd, ar, f1, f2, f3, rfl⟩ := SF.fn
  obtain ⟨co, vs, file, tf, c1, c2, c3, c4⟩ := SF.code
  obtain ⟨cel, l1, l2⟩ := SF.cell
  obtain ⟨oC, kd, k1, k2⟩ := SF.cls
  obtain ⟨mb, b1, b2⟩ := I.mod.blt
  obtain ⟨m, hn, hl⟩ := I.loc
  obtain ⟨u, ru, lu⟩ := hl 0 _ (.ref a) hN hσ (.inl hx)
  obtain rfl : u = Value.ref a := ru
  have hv : m ar.arg = some (.ref a) := by
    rcases lu with ⟨_, q⟩ | ⟨q, _⟩
    · exact q
    · rcases q with q | q <;> rw [hx] at q <;> cases q
  have Y := I.kIn
  have G := I.mod.glob.keeps I.bk
  have B := b1.keeps I.bk
  have kf := I.ok.kind
  have gl := I.ok.glob
  have bl := I.ok.blt
  refine ks_wpAt_super_base hg hk (by decide) hf (Y _ _ f1) f2 f3 hc (Y _ _ c1) c2 c3 c4 SF.top ?_
  refine PySem.W.ks_loadName_global kf hg (Calls.loadGlobal_builtin (by rw [gl]; exact G) hm (by rw [bl]; exact B) ((b2 "super" (by decide)).trans PyProof.Rows.Boot.«super») ⟨rfl, ?_⟩)
  refine wpAny_loadName_free kf hk hcl ⟨_, Y _ _ l1, l2⟩ ?_
  refine wpAny_loadName_local kf hx hn hv ?_
  refine ks_wpAny_isType_cls (Y _ _ k1) k2 ⟨rfl, ?_⟩
  exact ks_wpAny_call_super (Y _ _ k1) k2 ha rfl (fun c e => by cases e) (PySem.W.looks_mroIn Y SF.sub) h
/-- the bound __init__ of ValueError called -/
theorem sup_call {u t : Addr} {us : List Value} {Q : Value → Shared → Prop} (SF : SupF X.prog X.K C f cc cd x) (Y : X.K.In s.heap) (he : s.heap.get? a = some (PySem.HandSPX.excO C t)) (hu : s.heap.get? u = some (PySem.W.kxs_mw "ValueError.__init__" a)) (hz : us.length ≤ sizeLine)
    (h : ∀ h' t', (∀ b o, b ≠ a → s.heap.get? b = some o → h'.get? b = some o) → h'.get? a = some (PySem.HandSPX.excO C t') → Q .none { s with heap := h' }) :
    wpAny (model X.prog X.w) A (call (.ref u) us) Q Er s := by
  obtain ⟨nm, q, N, bs, bm, sn, sub, ab, col, dd, k0, k1, k2, k3, k5, hC, _⟩ := SF.oex.cls
  have B := PySem.F.excBase_ValueError
  obtain ⟨hp, g, d, tk, os⟩ := s
  refine wpAny_call (codeAny_of_tree ?_)
  show wpAny _ A.in1 (callAny (.ref u) ⟨us, []⟩) _ _ _
  unfold callAny
  refine wpAny_bind (wpAny_load hu ?_)
  dsimp only [PySem.W.kxs_mw]
  refine PySem.W.KFB.if_so (by decide) ?_
  refine wpAny_bind (PySem.W.check_bound_init B.toExcCallFacts (Y _ _ hC) he rfl (wpAny_bind (wpAny_pure (wpAny_pure ?_))))
  refine ⟨plainId_quiet B.init.plain _, codeAny_builtin B.initEntry ?_⟩
  exact PySem.W.exc_init_tree he hz fun h' k1 k2 _ => h h' _ k1 k2
/-- super().__init__(e): of the heap nothing is told anew -/
theorem sup_first {body : List Stmt} {e : Expr} {te : TE} {p0 p1 p2 p3 p4 : Pos} (SF : SupF X.prog X.K C f cc cd x) (I : Inv X [] σ H s) (hf : X.env.func = some f) (hc : X.env.code = .ref cd) (hg : Gl X "super") (hm : X.mg "super" = none)
    (hk : X.env.kindOf "__class__" = some .free) (hcl : X.env.cells.lookup ("__class__" : Str) = some cc) (hN : X.N[0]? = some x) (hx : X.env.kindOf x = some .local) (hσ : σ[0]? = some (some (.ref a))) (ha : H a = some (exo a C none))
    (he : PE X e te) (ht : ∀ Q : VK, (∀ v, Q v H) → te σ H Q) {Q : Flow → Shared → Prop} (hA : X.A = A) (hE : X.xe = Er) (h : ∀ s', Inv X [] σ H s' → Q .next s')
    (hst : starEach [e] X.env = (false, eval e X.env) :: starEach [] X.env := by rfl) (hin : interactive X.env = false := by rfl) 
    (hsw : swapsWith (.Call (.Attribute (.Call (.Name "super" p0) [] [] p1) "__init__" p2) [e] [] p3) none p4.line X.env = pure false := by rfl) {pl : Sem Bool}
    (hcall : eval (.Call (.Attribute (.Call (.Name "super" p0) [] [] p1) "__init__" p2) [e] [] p3) X.env = (do
      let ov ← attributeBase (.Call (.Name "super" p0) [] [] p1) "__init__" X.env (eval (.Call (.Name "super" p0) [] [] p1) X.env)
      standAt p2.atName
      let (f, first) ← holding [ov] (getMethod ov "__init__" pl)
      callWith p3 f first (backTo p3 (starEach [e] X.env)) []) := by rfl) :
    wpAt (model X.prog X.w) A (.func body X.env) (exec (.Expr (.Call (.Attribute (.Call (.Name "super" p0) [] [] p1) "__init__" p2) [e] [] p3) p4) X.env) Q Er s := by
  subst hA
  subst hE
  obtain ⟨t, ho⟩ := exo_at I.hok ha
  obtain ⟨oC, kd, k1, k2⟩ := SF.cls
  refine ks_wpAt_Expr_any (ks_wpAt_MethodCall (sup_base SF I hf hc hg hm hk hcl hN hx hσ ho fun h' e1 e2 => ?_) hcall) hin hsw
  have I1 : Inv X [] σ H { s with heap := h', toks := s.toks } := I.kept e2
  have Y1 := I1.kIn
  have hcd : ∃ cdt, PySem.W.clsIn X.K C = some cdt := by
    unfold PySem.W.clsIn
    obtain ⟨c1, c2, c3, c4⟩ := oC
    rw [k1]
    dsimp only at k2
    subst k2
    exact ⟨_, rfl⟩
  obtain ⟨cdt, hcd⟩ := hcd
  have hal : PySem.W.alongIn X.K "__init__" ((cdt.mro.dropWhile (· != .ref C)).drop 1) = some (some (.builtin "ValueError.__init__")) := by
    have z := SF.ini
    unfold PySem.W.ks_superIn at z
    rw [hcd] at z
    exact z
  have inst : PySem.W.InstAt h' a ({ cls := .ref C, dict := none, data := .fields #[.ref t, .none, .none, .none, .bool false, .none] } : Obj) C none := ⟨e2 _ _ ho, rfl, rfl, trivial⟩
  have nac : a ≠ C := PySem.W.ks_ne Y1 inst hcd
  refine PySem.W.kxs_getMethod PySem.W.kxs_ValueError e1 (PySem.W.looks_opaque Y1 SF.opq) (l₀ := cdt.mro) ((PySem.W.looks_clsIn Y1 hcd).andThen .now) rfl Y1 hal (inst.type.andThen (PySem.W.looks_subIn Y1 SF.isv)) nac (by decide) ?_
  have up : ∀ b o, h'.get? b = some o → (h'.push (PySem.W.kxs_mw "ValueError.__init__" a)).get? b = some o := fun b o e => Heap.get?_push_of_some _ e
  have I2 : Inv X [] σ H { s with heap := h'.push (PySem.W.kxs_mw "ValueError.__init__" a), toks := s.toks + 1 } := I1.kept up
  have gu : (h'.push (PySem.W.kxs_mw "ValueError.__init__" a)).get? h'.objs.size = some (PySem.W.kxs_mw "ValueError.__init__" a) := Heap.get?_push_at rfl rfl
  have I3 : Inv X [(h'.objs.size, PySem.W.kxs_mw "ValueError.__init__" a)] σ H { s with heap := h'.push (PySem.W.kxs_mw "ValueError.__init__" a), toks := s.toks + 1 } := I2.pins_of fun p hp => by
    obtain rfl : p = _ := List.mem_singleton.mp hp
    exact ⟨gu, I1.hok.fresh (Nat.le_refl _), Nat.ne_of_gt I1.lt, I1.nofs (Nat.le_refl _), fun v z => by cases z⟩
  refine PySem.W.kxs_callWith1 (i := "ValueError.__init__") (x := a) (h₀ := h') (L := X.env.locals) (news := [(h'.objs.size, PySem.W.kxs_mw "ValueError.__init__" a)]) (fun p hp => by
      obtain rfl : p = _ := List.mem_singleton.mp hp
      exact ⟨gu, Nat.ne_of_gt I1.lt, Heap.get?_none_of_le (Nat.le_refl _)⟩) (List.mem_singleton.mpr rfl) ?_ hst
  refine thn ((pa_cons he pa_nil hst).run p3 _ _ σ H (fun vs H1 => vs.length = 1 ∧ H1 = H) I3 (ht _ fun v => ⟨rfl, rfl⟩)) fun us s1 ⟨vs, H1, J, r, hl, eH⟩ => ?_
  subst eH
  have hu := (J.pin (h'.objs.size, PySem.W.kxs_mw "ValueError.__init__" a) (List.mem_append_right _ (List.mem_singleton.mpr rfl))).1
  obtain ⟨t2, ho2⟩ := exo_at J.hok ha
  refine ⟨hu, ?_⟩
  refine sup_call SF J.kIn ho2 hu (by rw [← Paired.length r, hl, sizeLine_eq]; omega) fun h2 t3 kk ge => ?_
  have J2 := (J.pins_of (pins' := []) fun p hp => by cases hp).write (t' := s1.toks) (x := a) (e := a) (o := exo a C none) (by rw [ha]; exact True.intro) (.inl rfl) kk ⟨_, ge⟩ (exo_ok ge)
  rw [upd_self ha] at J2
  exact h _ J2
end
/-- what the text says of an own exception whose __init__ has one parameter -/
abbrev ExN (st : Stmt) (q : Str) (cc cd : Addr) : NF := ⟨"__init__", q, defArgs st, defBody st, defScope st, [("__class__", cc)], cd⟩
structure ExF (P : Program) (K : PySem.W.Frag) (C f cc cd : Addr) (fd : FuncData) (st : Stmt) (q fld : Str) : Prop where
  sf : SupF P K C f cc cd "self"
  lk : ∃ oc od doc pm ctv osl, fd = NF.fd (ExN st q cc cd) doc pm ctv ∧ K.lookup f = some ⟨oc, od, .func fd, osl⟩
  cdk : PySem.W.codeIn K (.ref cd) q = true
  ini : PySem.W.findIn K (.ref C) "__init__" = some (some (.ref f))
  tyf : PySem.W.typeIn K (.ref f) = some (.type "function")
  code : PySem.W.findIn K (.ref C) "code" = some none
  fld : PySem.W.findIn K (.ref C) fld = some none

end
end Ag
namespace Ag
open PySem L2
open C8 (pss_cut tCut)
section
variable {P : Program} {w : World} {K : PySem.W.Frag} {mg : Str → Option Value} {base : Heap} {cs : List (Str × Addr)}
def top (i : Nat) : Stmt := PySem.Challenge.pw_addedgrounds_k03_formulas_and_their_text.main.body.getD i (.Pass ⟨0, 0, 0, 0⟩)
abbrev s_InvalidFormula___init__ : Stmt := inClass (top 3) 0
theorem sc_InvalidFormula___init__ : NdefX.NScope ["self", "value", "__class__"] ["self", "value"] ["__class__"] (defScope s_InvalidFormula___init__) := NdefX.nscope_by (by decide +kernel)
abbrev s_NothingLeft___init__ : Stmt := inClass (top 4) 0
theorem sc_NothingLeft___init__ : NdefX.NScope ["self", "__class__"] ["self"] ["__class__"] (defScope s_NothingLeft___init__) := NdefX.nscope_by (by decide +kernel)
abbrev s_is_number : Stmt := top 14
theorem sc_is_number : FnScope ["value"] ["value"] (defScope s_is_number) :=
  ⟨rfl, rfl, rfl, by decide +kernel, rfl, by decide +kernel, by decide +kernel⟩
abbrev s_is_name : Stmt := top 15
theorem sc_is_name : FnScope ["value", "sign"] ["value"] (defScope s_is_name) :=
  ⟨rfl, rfl, rfl, by decide +kernel, rfl, by decide +kernel, by decide +kernel⟩
abbrev s_is_leaf : Stmt := top 16
theorem sc_is_leaf : FnScope ["value", "leaf"] ["value", "leaf"] (defScope s_is_leaf) :=
  ⟨rfl, rfl, rfl, by decide +kernel, rfl, by decide +kernel, by decide +kernel⟩
abbrev s_is_form : Stmt := top 17
theorem sc_is_form : FnScope ["value", "deep", "leaf", "part"] ["value", "deep", "leaf"] (defScope s_is_form) :=
  ⟨rfl, rfl, rfl, by decide +kernel, rfl, by decide +kernel, by decide +kernel⟩
abbrev s_is_formula : Stmt := top 18
theorem sc_is_formula : FnScope ["value"] ["value"] (defScope s_is_formula) :=
  ⟨rfl, rfl, rfl, by decide +kernel, rfl, by decide +kernel, by decide +kernel⟩
abbrev s_is_shape : Stmt := top 19
theorem sc_is_shape : FnScope ["value"] ["value"] (defScope s_is_shape) :=
  ⟨rfl, rfl, rfl, by decide +kernel, rfl, by decide +kernel, by decide +kernel⟩
abbrev s_written : Stmt := top 20
theorem sc_written : FnScope ["term", "word"] ["term"] (defScope s_written) :=
  ⟨rfl, rfl, rfl, by decide +kernel, rfl, by decide +kernel, by decide +kernel⟩
abbrev s_formula_text : Stmt := top 21
theorem sc_formula_text : FnScope ["formula"] ["formula"] (defScope s_formula_text) :=
  ⟨rfl, rfl, rfl, by decide +kernel, rfl, by decide +kernel, by decide +kernel⟩
abbrev s_split_pair : Stmt := top 22
theorem sc_split_pair : FnScope ["text", "deep", "at", "sign"] ["text"] (defScope s_split_pair) :=
  ⟨rfl, rfl, rfl, by decide +kernel, rfl, by decide +kernel, by decide +kernel⟩
abbrev s_form_in : Stmt := top 23
theorem sc_form_in : FnScope ["text", "deep", "found", "one", "other"] ["text", "deep"] (defScope s_form_in) :=
  ⟨rfl, rfl, rfl, by decide +kernel, rfl, by decide +kernel, by decide +kernel⟩
abbrev s_read_formula : Stmt := top 24
theorem sc_read_formula : FnScope ["text", "found"] ["text"] (defScope s_read_formula) :=
  ⟨rfl, rfl, rfl, by decide +kernel, rfl, by decide +kernel, by decide +kernel⟩
abbrev s__law_bag : Stmt := top 26
theorem sc__law_bag : FnScope ["_law_script"] ["_law_script"] (defScope s__law_bag) :=
  ⟨rfl, rfl, rfl, by decide +kernel, rfl, by decide +kernel, by decide +kernel⟩
abbrev s__law_pull : Stmt := top 27
theorem sc__law_pull : FnScope ["_law_bag_here", "_law_many", "_law_cell", "_law_digit", "_law_seed"] ["_law_bag_here", "_law_many"] (defScope s__law_pull) :=
  ⟨rfl, rfl, rfl, by decide +kernel, rfl, by decide +kernel, by decide +kernel⟩
abbrev s__law_any : Stmt := top 28
theorem sc__law_any : FnScope ["_law_bag_here", "_law_things"] ["_law_bag_here", "_law_things"] (defScope s__law_any) :=
  ⟨rfl, rfl, rfl, by decide +kernel, rfl, by decide +kernel, by decide +kernel⟩
abbrev s__law_like : Stmt := top 29
theorem sc__law_like : FnScope ["_law_found", "_law_due", "_law_key", "_law_one", "_law_other"] ["_law_found", "_law_due"] (defScope s__law_like) :=
  ⟨rfl, rfl, rfl, by decide +kernel, rfl, by decide +kernel, by decide +kernel⟩
abbrev s__law_fields : Stmt := top 30
theorem sc__law_fields : FnScope ["_law_e", "_law_code"] ["_law_e"] (defScope s__law_fields) :=
  ⟨rfl, rfl, rfl, by decide +kernel, rfl, by decide +kernel, by decide +kernel⟩
abbrev s__law_try : Stmt := top 31
theorem sc__law_try : FnScope ["_law_ask", "_law_e"] ["_law_ask"] (defScope s__law_try) :=
  ⟨rfl, rfl, rfl, by decide +kernel, rfl, by decide +kernel, by decide +kernel⟩
abbrev s__law_tries : Stmt := top 32
theorem sc__law_tries : FnScope ["_law_asks", "_law_ask"] ["_law_asks"] (defScope s__law_tries) :=
  ⟨rfl, rfl, rfl, by decide +kernel, rfl, by decide +kernel, by decide +kernel⟩
abbrev s__law_names : Stmt := top 33
theorem sc__law_names : FnScope ["_law_bag_here", "_law_many", "_law_letters", "_law_stem", "_law_at", "_law_first", "_law_k"] ["_law_bag_here", "_law_many"] (defScope s__law_names) :=
  ⟨rfl, rfl, rfl, by decide +kernel, rfl, by decide +kernel, by decide +kernel⟩
abbrev s__law_form : Stmt := top 34
theorem sc__law_form : FnScope ["_law_bag_here", "_law_words", "_law_deep_here", "_law_way", "_law_one"] ["_law_bag_here", "_law_words", "_law_deep_here"] (defScope s__law_form) :=
  ⟨rfl, rfl, rfl, by decide +kernel, rfl, by decide +kernel, by decide +kernel⟩
abbrev s__law_text : Stmt := top 35
theorem sc__law_text : FnScope ["_law_term", "_law_word", "_law_sign"] ["_law_term"] (defScope s__law_text) :=
  ⟨rfl, rfl, rfl, by decide +kernel, rfl, by decide +kernel, by decide +kernel⟩
abbrev s__law_deep : Stmt := top 36
theorem sc__law_deep : FnScope ["_law_term"] ["_law_term"] (defScope s__law_deep) :=
  ⟨rfl, rfl, rfl, by decide +kernel, rfl, by decide +kernel, by decide +kernel⟩
abbrev s_law : Stmt := top 37
theorem sc_law : FnScope ["_law_script", "_law_bag_here", "_law_words", "_law_turn", "_law_form_here", "_law_k", "_law_text_z", "_law_good", "_law_told", "_law_due", "_law_word", "_law_found", "_law_one"] ["_law_script"] (defScope s_law) :=
  ⟨rfl, rfl, rfl, by decide +kernel, rfl, by decide +kernel, by decide +kernel⟩
structure Txt (K : PySem.W.Frag) (mg : Str → Option Value) (w : World) (P : Program) where
  n_IndexError : mg "IndexError" = none
  n_LookupError : mg "LookupError" = none
  n_ValueError : mg "ValueError" = none
  n_all : mg "all" = none
  n_bool : mg "bool" = none
  n_dict : mg "dict" = none
  n_enumerate : mg "enumerate" = none
  n_int : mg "int" = none
  n_isinstance : mg "isinstance" = none
  n_len : mg "len" = none
  n_list : mg "list" = none
  n_max : mg "max" = none
  n_range : mg "range" = none
  n_sorted : mg "sorted" = none
  n_str : mg "str" = none
  n_tuple : mg "tuple" = none
  n_zip : mg "zip" = none
  k_LETTERS : Tok
  g_LETTERS : mg "LETTERS" = some (.str "abcdefghijklmnopqrstuvwxyz" k_LETTERS)
  k_MOST_LETTERS : Tok
  g_MOST_LETTERS : mg "MOST_LETTERS" = some (.int 6 k_MOST_LETTERS)
  k_MOST_DEEP : Tok
  g_MOST_DEEP : mg "MOST_DEEP" = some (.int 10 k_MOST_DEEP)
  k_SHAPE_DEEP : Tok
  g_SHAPE_DEEP : mg "SHAPE_DEEP" = some (.int 5 k_SHAPE_DEEP)
  a_FALSE : Addr
  g_FALSE : mg "FALSE" = some (.ref a_FALSE)
  q_FALSE : ∀ H : Hp, SqT K H a_FALSE [.str (Str.ofString "false")]
  a_PAIRS : Addr
  g_PAIRS : mg "PAIRS" = some (.ref a_PAIRS)
  q_PAIRS : ∀ H : Hp, SqT K H a_PAIRS [.str (Str.ofString "then"), .str (Str.ofString "and"), .str (Str.ofString "or")]
  a_SIGNS : Addr
  g_SIGNS : mg "SIGNS" = some (.ref a_SIGNS)
  kd_SIGNS : KdT K w a_SIGNS [("then", ">"), ("and", "&"), ("or", "|")]
  a_WORDS : Addr
  g_WORDS : mg "WORDS" = some (.ref a_WORDS)
  kd_WORDS : KdT K w a_WORDS [(">", "then"), ("&", "and"), ("|", "or")]
  f_is_number : Addr
  fd_is_number : FuncData
  F_is_number : Fun K "is_number" "is_number" s_is_number f_is_number fd_is_number
  g_is_number : mg "is_number" = some (.ref f_is_number)
  b_is_number : Binds K fd_is_number ["value"] []
  f_is_name : Addr
  fd_is_name : FuncData
  F_is_name : Fun K "is_name" "is_name" s_is_name f_is_name fd_is_name
  g_is_name : mg "is_name" = some (.ref f_is_name)
  b_is_name : Binds K fd_is_name ["value"] []
  f_is_leaf : Addr
  fd_is_leaf : FuncData
  F_is_leaf : Fun K "is_leaf" "is_leaf" s_is_leaf f_is_leaf fd_is_leaf
  g_is_leaf : mg "is_leaf" = some (.ref f_is_leaf)
  b_is_leaf : Binds K fd_is_leaf ["value", "leaf"] []
  f_is_form : Addr
  fd_is_form : FuncData
  F_is_form : Fun K "is_form" "is_form" s_is_form f_is_form fd_is_form
  g_is_form : mg "is_form" = some (.ref f_is_form)
  b_is_form : Binds K fd_is_form ["value", "deep", "leaf"] []
  f_is_formula : Addr
  fd_is_formula : FuncData
  F_is_formula : Fun K "is_formula" "is_formula" s_is_formula f_is_formula fd_is_formula
  g_is_formula : mg "is_formula" = some (.ref f_is_formula)
  b_is_formula : Binds K fd_is_formula ["value"] []
  f_is_shape : Addr
  fd_is_shape : FuncData
  F_is_shape : Fun K "is_shape" "is_shape" s_is_shape f_is_shape fd_is_shape
  g_is_shape : mg "is_shape" = some (.ref f_is_shape)
  b_is_shape : Binds K fd_is_shape ["value"] []
  f_written : Addr
  fd_written : FuncData
  F_written : Fun K "written" "written" s_written f_written fd_written
  g_written : mg "written" = some (.ref f_written)
  b_written : Binds K fd_written ["term"] []
  f_formula_text : Addr
  fd_formula_text : FuncData
  F_formula_text : Fun K "formula_text" "formula_text" s_formula_text f_formula_text fd_formula_text
  g_formula_text : mg "formula_text" = some (.ref f_formula_text)
  b_formula_text : Binds K fd_formula_text ["formula"] []
  f_split_pair : Addr
  fd_split_pair : FuncData
  F_split_pair : Fun K "split_pair" "split_pair" s_split_pair f_split_pair fd_split_pair
  g_split_pair : mg "split_pair" = some (.ref f_split_pair)
  b_split_pair : Binds K fd_split_pair ["text"] []
  f_form_in : Addr
  fd_form_in : FuncData
  F_form_in : Fun K "form_in" "form_in" s_form_in f_form_in fd_form_in
  g_form_in : mg "form_in" = some (.ref f_form_in)
  b_form_in : Binds K fd_form_in ["text", "deep"] []
  f_read_formula : Addr
  fd_read_formula : FuncData
  F_read_formula : Fun K "read_formula" "read_formula" s_read_formula f_read_formula fd_read_formula
  g_read_formula : mg "read_formula" = some (.ref f_read_formula)
  b_read_formula : Binds K fd_read_formula ["text"] []
  f__law_bag : Addr
  fd__law_bag : FuncData
  F__law_bag : Fun K "_law_bag" "_law_bag" s__law_bag f__law_bag fd__law_bag
  g__law_bag : mg "_law_bag" = some (.ref f__law_bag)
  b__law_bag : Binds K fd__law_bag ["_law_script"] []
  f__law_pull : Addr
  fd__law_pull : FuncData
  F__law_pull : Fun K "_law_pull" "_law_pull" s__law_pull f__law_pull fd__law_pull
  g__law_pull : mg "_law_pull" = some (.ref f__law_pull)
  b__law_pull : Binds K fd__law_pull ["_law_bag_here", "_law_many"] []
  f__law_any : Addr
  fd__law_any : FuncData
  F__law_any : Fun K "_law_any" "_law_any" s__law_any f__law_any fd__law_any
  g__law_any : mg "_law_any" = some (.ref f__law_any)
  b__law_any : Binds K fd__law_any ["_law_bag_here", "_law_things"] []
  f__law_like : Addr
  fd__law_like : FuncData
  F__law_like : Fun K "_law_like" "_law_like" s__law_like f__law_like fd__law_like
  g__law_like : mg "_law_like" = some (.ref f__law_like)
  b__law_like : Binds K fd__law_like ["_law_found", "_law_due"] []
  f__law_fields : Addr
  fd__law_fields : FuncData
  F__law_fields : Fun K "_law_fields" "_law_fields" s__law_fields f__law_fields fd__law_fields
  g__law_fields : mg "_law_fields" = some (.ref f__law_fields)
  b__law_fields : Binds K fd__law_fields ["_law_e"] []
  f__law_try : Addr
  fd__law_try : FuncData
  F__law_try : Fun K "_law_try" "_law_try" s__law_try f__law_try fd__law_try
  g__law_try : mg "_law_try" = some (.ref f__law_try)
  b__law_try : Binds K fd__law_try ["_law_ask"] []
  f__law_tries : Addr
  fd__law_tries : FuncData
  F__law_tries : Fun K "_law_tries" "_law_tries" s__law_tries f__law_tries fd__law_tries
  g__law_tries : mg "_law_tries" = some (.ref f__law_tries)
  b__law_tries : Binds K fd__law_tries ["_law_asks"] []
  f__law_names : Addr
  fd__law_names : FuncData
  F__law_names : Fun K "_law_names" "_law_names" s__law_names f__law_names fd__law_names
  g__law_names : mg "_law_names" = some (.ref f__law_names)
  b__law_names : Binds K fd__law_names ["_law_bag_here", "_law_many"] []
  f__law_form : Addr
  fd__law_form : FuncData
  F__law_form : Fun K "_law_form" "_law_form" s__law_form f__law_form fd__law_form
  g__law_form : mg "_law_form" = some (.ref f__law_form)
  b__law_form : Binds K fd__law_form ["_law_bag_here", "_law_words", "_law_deep_here"] []
  f__law_text : Addr
  fd__law_text : FuncData
  F__law_text : Fun K "_law_text" "_law_text" s__law_text f__law_text fd__law_text
  g__law_text : mg "_law_text" = some (.ref f__law_text)
  b__law_text : Binds K fd__law_text ["_law_term"] []
  f__law_deep : Addr
  fd__law_deep : FuncData
  F__law_deep : Fun K "_law_deep" "_law_deep" s__law_deep f__law_deep fd__law_deep
  g__law_deep : mg "_law_deep" = some (.ref f__law_deep)
  b__law_deep : Binds K fd__law_deep ["_law_term"] []
  f_law : Addr
  fd_law : FuncData
  F_law : Fun K "law" "law" s_law f_law fd_law
  g_law : mg "law" = some (.ref f_law)
  b_law : Binds K fd_law ["_law_script"] []
  n_super : mg "super" = none
  C_GroundError : Addr
  g_GroundError : mg "GroundError" = some (.ref C_GroundError)
  C_Missing : Addr
  g_Missing : mg "Missing" = some (.ref C_Missing)
  C_InvalidFormula : Addr
  g_InvalidFormula : mg "InvalidFormula" = some (.ref C_InvalidFormula)
  C_NothingLeft : Addr
  g_NothingLeft : mg "NothingLeft" = some (.ref C_NothingLeft)
  cd_law : Addr
  tp_law : Addr
  L_law : ∃ oc od kV doc pm an ct osl, fd_law = PySem.W.fnOf "law" "law" (defArgs s_law) (defBody s_law) (defScope s_law) .none kV doc pm an (.ref cd_law) ct ∧ K.lookup f_law = some ⟨oc, od, .func fd_law, osl⟩
  cdk_law : PySem.W.codeIn K (.ref cd_law) "law" = true
  nt_law : K.lookup tp_law = none
  ch_law : PySem.W.codeHdIn K cd_law tp_law = true
  f_InvalidFormula___init__ : Addr
  fd_InvalidFormula___init__ : FuncData
  cc_InvalidFormula : Addr
  cd_InvalidFormula : Addr
  X_InvalidFormula : ExF P K C_InvalidFormula f_InvalidFormula___init__ cc_InvalidFormula cd_InvalidFormula fd_InvalidFormula___init__ s_InvalidFormula___init__ "InvalidFormula.__init__" "value"
  b_InvalidFormula___init__ : Binds K fd_InvalidFormula___init__ ["self", "value"] []
  xf_InvalidFormula : XfC K C_InvalidFormula
  em_InvalidFormula : PySem.W.exmAny K (.ref C_InvalidFormula) [.ref C_GroundError, .ref C_Missing, .ref C_NothingLeft] = some true
  b_law_all : ∀ (s : Shared) (v : Value), BindsTo s fd_law ⟨[v], []⟩ [("_law_script", v)]
theorem kb_formula_text_0_formula (T : Txt K mg w P) : KBn K T.fd_formula_text ["formula"] 0 ["formula"] (fun us ws => us ++ ws) (fun vs zs => vs ++ zs) := by
  obtain ⟨_, _, _, _, _, _, _, _, _, e, _, _⟩ := T.F_formula_text.ex
  rw [e]
  exact ⟨fun s us ws _ h1 h2 => match us, ws, h1, h2 with | [], [_], _, _ => .of_eq rfl, fun r1 r2 => Vals.append r1 r2⟩
theorem kb_read_formula_0_text (T : Txt K mg w P) : KBn K T.fd_read_formula ["text"] 0 ["text"] (fun us ws => us ++ ws) (fun vs zs => vs ++ zs) := by
  obtain ⟨_, _, _, _, _, _, _, _, _, e, _, _⟩ := T.F_read_formula.ex
  rw [e]
  exact ⟨fun s us ws _ h1 h2 => match us, ws, h1, h2 with | [], [_], _, _ => .of_eq rfl, fun r1 r2 => Vals.append r1 r2⟩


end
end Ag
namespace Ag
open PySem L2
open C8 (pss_cut tCut)
section
variable {P : Program} {w : World} {K : PySem.W.Frag} {mg : Str → Option Value} {base : Heap} {cs : List (Str × Addr)}
/-! an __init__ that begins with super().__init__(text), walked as a def -/
section
open NdefX (NF ncx envF NScope CellsAt startF inv_startN)
variable {C f cc : Addr} {x : Str} {F : NF} {N ps : List Str} {oc doc pm ctv : Value} {od : Option Addr} {osl : Array (Option Value)} {rest : List Stmt} {t : L2.TS} {j : Nat} {m : Str} {p0 p1 p2 p3 p4 p5 : Pos}
theorem fn_sup (lk : K.lookup f = some ⟨oc, od, .func (F.fd doc pm ctv), osl⟩) (hcd : PySem.W.codeIn K (.ref F.c) F.qual = true) (S : NScope N ps ["__class__"] F.scope) (hcl : F.cl = [(("__class__" : Str), cc)]) (SF : SupF P K C f cc F.c x)
    (hbody : F.body = .Expr (.Call (.Attribute (.Call (.Name "super" p0) [] [] p1) "__init__" p2) [.Constant (.str m) j p5] [] p3) p4 :: rest) (hN : N[0]? = some x) (hx : x ∈ ps) (hps : 1 ≤ ps.length) (hms : mg "super" = none) (hgs : F.scope.names.lookup ("super" : Str) = some .globalImplicit)
    (hcall : ∀ env : Env, ∃ pl : Sem Bool, eval (.Call (.Attribute (.Call (.Name "super" p0) [] [] p1) "__init__" p2) [.Constant (.str m) j p5] [] p3) env = (do
      let ov ← attributeBase (.Call (.Name "super" p0) [] [] p1) "__init__" env (eval (.Call (.Name "super" p0) [] [] p1) env)
      standAt p2.atName
      let (f, first) ← holding [ov] (getMethod ov "__init__" pl)
      callWith p3 f first (backTo p3 (starEach [.Constant (.str m) j p5] env)) []))
    (hrest : ∀ (A : Around) (outer : List Env) (s : Shared) (H : Hp) (E : XK), PSs (ncx CX0 P w K mg base N F f A outer s H E) rest t) :
    FnOk P w K mg base CX0 1 f (F.fd doc pm ctv) ps (fun vs H Q _ => vs.length = ps.length ∧ ∃ a, vs[0]? = some (.ref a) ∧ H a = some (exo a C none) ∧ t { nx := fun _ H' => Q .non H', rt := Q } (startF N vs [none]) H) := by
  refine ⟨fun vs H Q E h => h.1, fun A outer s H args us vs Q E hr e0 hb r hsp => ?_⟩
  obtain ⟨hl, a, ha0, haH, ht⟩ := hsp
  have KX : K.In s.heap := e0.mod.kin.keeps fun b o e => (e0.bs b o e).1
  have lim : s.heap.NoLimit := e0.mod.nolimit.keeps fun b o e => (e0.bs b o e).1
  obtain ⟨co, l1, l2⟩ := SF.cell
  have look : ∀ {y : Str} {c : Addr}, F.cl.lookup y = some c → y = "__class__" ∧ c = cc := fun {y c} e => by
    rw [hcl, List.lookup_cons] at e
    split at e
    · rename_i q
      cases e
      exact ⟨eq_of_beq q, rfl⟩
    · cases e
  have lk0 : F.cl.lookup ("__class__" : Str) = some cc := by rw [hcl, List.lookup_cons, beq_self_eq_true]
  have CA : CellsAt F.cl ["__class__"] [none] s.heap H := by
    refine ⟨rfl, fun y c e => ?_, fun y z c e1 e2 => (look e1).1.trans (look e2).1.symm, fun i y e => ?_⟩
    · obtain ⟨_, rfl⟩ := look e
      exact ⟨(e0.bs _ _ (e0.mod.kin _ _ l1)).2, _, co, KX _ _ l1, l2⟩
    · cases i with
      | zero =>
        simp at e
        subst e
        exact ⟨cc, lk0, fun v z => by simp at z⟩
      | succ i => simp at e
  refine codeAny_call_function hr.depth (KX _ _ lk) rfl S.co S.gen rfl (PySem.W.codeRec_of KX hcd) (hb _ _ _ _ ?_)
  refine wpAny_newFunctionEnv S.nocell (fun ⟨n, _⟩ hy => S.par n (List.of_mem_zip hy).1) (fun h₁ hns hsb => ⟨lim.fresh _ hsb, ?_⟩) S.kind
  show codeAny _ _ (.func F.body (envF F f s.heap.objs.size)) _ _
  have kp : ∀ b o, s.heap.get? b = some o → h₁.get? b = some o := fun b o e => hsb.extBut b o (Nat.ne_of_lt (Heap.lt_size e)) (Heap.get?_push_of_some _ e)
  have I : Inv (ncx CX0 P w K mg base N F f A outer s H E) [] (startF N vs [none]) H { s with heap := h₁, toks := s.toks + (ps.zip us).length } := inv_startN S hr.hd e0 hl r CA hns kp
  refine ks_codeAny_funcAt ?_
  rw [hbody]
  refine ks_wpAt_execs_cons ?_
  have hvs : 0 < vs.length := by omega
  have h0 : (startF N vs [none])[0]? = some (some (.ref a)) := by
    unfold startF
    rw [List.getElem?_append_left (by simpa using hvs), List.getElem?_map, ha0]
    rfl
  have hin : interactive (ncx CX0 P w K mg base N F f A outer s H E).env = false := by
    unfold interactive
    have : (ncx CX0 P w K mg base N F f A outer s H E).env.scope.kind = .function := S.kind
    rw [this]
    rfl
  obtain ⟨pl, hc⟩ := hcall (ncx CX0 P w K mg base N F f A outer s H E).env
  refine sup_first (X := ncx CX0 P w K mg base N F f A outer s H E) (pl := pl) SF I rfl rfl hgs hms ((S.frk "__class__" (by simp))) lk0 hN (S.par x hx) h0 haH pe_str (fun Q h => h _) rfl rfl (fun s' I' => ?_) (hin := hin) (hcall := hc)
  refine PySem.wpAt_of_wpAny (wpAny_mono ((hrest A outer s H E).run [] s' (startF N vs [none]) H _ I' ht) (fun fl s2 hs => ?_) fun e s2 hs => hs)
  have fin : ∀ {σ' : L2.St} {H' : Hp} {v : V} {u : Value}, Inv (ncx CX0 P w K mg base N F f A outer s H E) [] σ' H' s2 → L2.RelV v u → Q v H' → CE outer P w H s Q u s2 :=
    fun {σ' H' v u} J rv q => ⟨v, H', J.os, J.bare, J.base, J.hok, rv, q⟩
  cases fl with
  | ret u =>
    obtain ⟨v, σ', H', J, rv, q⟩ := hs
    exact fin J rv q
  | next =>
    obtain ⟨σ', H', J, q⟩ := hs
    exact fin (v := V.non) (u := Value.none) J rfl q
  | brk =>
    obtain ⟨_, _, _, q⟩ := hs
    exact False.elim q
  | cont =>
    obtain ⟨_, _, _, q⟩ := hs
    exact False.elim q
end

end
end Ag
namespace Ag
open PySem L2
open C8 (pss_cut tCut)
section
variable {P : Program} {w : World} {K : PySem.W.Frag} {mg : Str → Option Value} {base : Heap} {cs : List (Str × Addr)}
theorem cut63 (ns : List Int) (h : ns.length ≤ 63) : cutV (ns.map V.int) none (some 63) = ns.map V.int := by
  unfold cutV
  have e : HT.sIx (ns.map V.int).length (ns.map V.int).length (some 63) = (ns.map V.int).length := by
    unfold HT.sIx; simp; omega
  rw [e]
  have e0 : HT.sIx (ns.map V.int).length 0 none = 0 := rfl
  rw [e0]
  simp [List.take_of_length_le]
theorem ok_bag (T : Txt K mg w P) : FnOk P w K mg base CX0 1 T.f__law_bag T.fd__law_bag ["_law_script"] (spBag K) := by
  refine T.F__law_bag.ok sc__law_bag (fun vs H Q E h => ?_) (fun cdv A outer s H vs Q E hr h => ?_)
  · obtain ⟨a, ns, rfl, _⟩ := h
    rfl
  · obtain ⟨a, ns, rfl, hS, hl, k⟩ := h
    refine ⟨_, (pss_one (ps_ret (pe_lst (pa_cons (pe_callTy call_list_of (by rfl) T.n_list (by decide +kernel) (pa_cons (pe_slice sl_list (pv 0) po_none (po_some pe_int)) pa_nil)) (pa_cons pe_int (pa_cons pe_int (pa_cons pe_int (pa_cons pe_int pa_nil)))))))), ?_⟩
    refine ⟨_, rfl, _, rfl, a, _, rfl, hS, fun p hp => ?_⟩
    refine ⟨p, _, rfl, .inl (SqL.of upd_same), fun c hc => ⟨by show 5 ≤ sizeLine; decide, fun b hb => ?_⟩⟩
    rw [cut63 ns hl] at *
    have s1 : Same H (upd H p (.lst (ns.map V.int))) := Same.laid _ hp
    have s2 := s1.trans (Same.laid (.lst (ns.map V.int)) hc)
    have s3 := s2.trans (Same.laid (.lst [.ref c, .int 0, .int 0, .int 4932, .int 0]) hb)
    refine k _ b c s3 (s2.free hb) ⟨ns, 0, 0, 4932, 0, upd_same, ?_, Nat.zero_le _, hl, by decide, by decide, by decide⟩
    have ncb : c ≠ b := fun e => by rw [e, upd_same] at hb; cases hb
    rw [upd_ne ncb, upd_same]

end
end Ag
namespace Ag
open PySem L2
open C8 (pss_cut tCut)
section
variable {P : Program} {w : World} {K : PySem.W.Frag} {mg : Str → Option Value} {base : Heap} {cs : List (Str × Addr)}
theorem ok_pull (T : Txt K mg w P) : FnOk P w K mg base CX0 1 T.f__law_pull T.fd__law_pull ["_law_bag_here", "_law_many"] spPull := by
  refine T.F__law_pull.ok sc__law_pull (fun vs H Q E h => ?_) (fun cdv A outer s H vs Q E hr h => ?_)
  · obtain ⟨b, c, m, rfl, _⟩ := h
    rfl
  · obtain ⟨b, c, m, rfl, hB, m0, m1, k⟩ := h
    refine ⟨_, (pss_cut (ps_if (PW.pt (pw_and (pt_cmpR op_eq (pe_ix ix_list (pv 0) pe_int (fun _ _ => rfl)) pe_int (nomark _)) (pw_and1 (pt_cmpR op_lt (pe_ix ix_list (pv 0) pe_int (fun _ _ => rfl)) (pe_callB call_len_seq (by rfl) T.n_len (by decide +kernel) (pa_cons (pe_ix ix_list (pv 0) pe_int (fun _ _ => rfl)) pa_nil)) (nomark _))))) (pss_cons (ps_set (i := 2) sc__law_pull.nd rfl (Or.inl rfl) (pe_ix ix_list (pe_ix ix_list (pv 0) pe_int (fun _ _ => rfl)) (pe_ix ix_list (pv 0) pe_int (fun _ _ => rfl)) (fun _ _ => rfl)))
      (pss_cons (ps_asg (pe_op op_add (pe_ix ix_list (pv 0) pe_int (fun _ _ => rfl)) pe_int) (pg_sub (pv 0) pe_int set_list))
      (pss_one (ps_if (pt_cmpR op_ge (pv 2) (pe_op op_pow pe_int pe_int) (nomark _)) (pss_one (ps_asg (pv 2) (pg_sub (pv 0) pe_int set_list))) (pss_one (ps_asg (pe_op op_mod (pe_callTy call_int1 (by rfl) T.n_int (by decide +kernel) (pa_cons (pe_op op_add (pe_op op_add (pe_op op_mul (pe_ix ix_list (pv 0) pe_int (fun _ _ => rfl)) pe_int) (pe_op op_mul (pe_op op_mod (pe_callTy call_int1 (by rfl) T.n_int (by decide +kernel) (pa_cons (pv 2) pa_nil)) pe_int) pe_int)) pe_int) pa_nil)) pe_int) (pg_sub (pv 0) pe_int set_list))))))) pss_nil)
      (pss_cons (ps_if (pt_cmpR op_gt (pe_ix ix_list (pv 0) pe_int (fun _ _ => rfl)) pe_int (nomark _)) (pss_cons (ps_set (i := 3) sc__law_pull.nd rfl (Or.inl rfl) (pe_op op_mod (pe_callTy call_int1 (by rfl) T.n_int (by decide +kernel) (pa_cons (pe_ix ix_list (pv 0) pe_int (fun _ _ => rfl)) pa_nil)) (pv 1)))
      (pss_cons (ps_asg (pe_op op_fdivW (pe_ix ix_list (pv 0) pe_int (fun _ _ => rfl)) (pv 1)) (pg_sub (pv 0) pe_int set_list))
      (pss_one (ps_ret (pv 3))))) pss_nil)
      (pss_cons (ps_asg (pe_op op_add (pe_ix ix_list (pv 0) pe_int (fun _ _ => rfl)) pe_int) (pg_sub (pv 0) pe_int set_list))
      (pss_cons (ps_set (i := 4) sc__law_pull.nd rfl (Or.inl rfl) (pe_ix ix_list (pv 0) pe_int (fun _ _ => rfl)))
      (pss_cons (ps_asg (pe_op op_mod (pe_callTy call_int1 (by rfl) T.n_int (by decide +kernel) (pa_cons (pe_op op_add (pe_op op_add (pe_op op_add (pe_op op_mul (pe_op op_mul (pv 4) (pv 4)) pe_int) (pe_op op_mul (pv 4) pe_int)) (pe_op op_mul (pe_ix ix_list (pv 0) pe_int (fun _ _ => rfl)) pe_int)) pe_int) pa_nil)) pe_int) (pg_sub (pv 0) pe_int set_list))
      (pss_one (ps_ret (pe_op op_mod (pe_callTy call_int1 (by rfl) T.n_int (by decide +kernel) (pa_cons (pe_op op_add (pe_op op_fdivW (pe_ix ix_list (pv 0) pe_int (fun _ _ => rfl)) pe_int) (pe_op op_mul (pe_op op_mod (pe_callTy call_int1 (by rfl) T.n_int (by decide +kernel) (pa_cons (pe_ix ix_list (pv 0) pe_int (fun _ _ => rfl)) pa_nil)) pe_int) pe_int)) pa_nil)) (pv 1))))))))), ?_⟩
    obtain ⟨ns, i, big, seed, cnt, hb, hc, hi, hl, b0, s0, s1⟩ := hB
    have ncb := bag_ne hb hc
    refine ⟨fun σ' H' => ∃ (cell : Option V) (i big seed : Int) (i' : Nat), i = i' ∧ i' ≤ ns.length ∧ 0 ≤ big ∧ 0 ≤ seed ∧ seed < 2147483629 ∧ σ' = [some (.ref b), some (.int m), cell, none, none] ∧ H' = upd H b (.lst [.ref c, .int i, .int big, .int seed, .int cnt]), ?_, ?_⟩
    · refine ⟨_, rfl, b, _, 2, _, rfl, rfl, SqL.of hb, rfl, rfl, _, rfl, ?_⟩
      refine ite2 (fun hbig => ?_) (fun _ => ?_)
      · refine ⟨_, rfl, b, _, 1, _, rfl, rfl, SqL.of hb, rfl, _, rfl, b, _, 0, _, rfl, rfl, SqL.of hb, rfl, c, _, rfl, .inl (SqL.of hc), _, _, rfl, rfl, _, rfl, ?_⟩
        refine ite2 (fun hlt => ?_) (fun _ => ?_)
        · have hlt' : i < ns.length := by
            have q := of_decide_eq_true hlt
            rw [List.length_map] at q
            omega
          refine ⟨_, rfl, b, _, 0, _, rfl, rfl, SqL.of hb, rfl, _, rfl, b, _, 1, _, rfl, rfl, SqL.of hb, rfl, c, _, _, .int ns[i], rfl, rfl, SqL.of hc, atI_nat (by rw [List.getElem?_map, List.getElem?_eq_getElem hlt']; rfl), ?_⟩
          refine ⟨_, rfl, b, _, 1, _, rfl, rfl, SqL.of hb, rfl, _, _, rfl, rfl, _, rfl, b, _, 1, 1, rfl, rfl, hb, rfl, ?_⟩
          refine ⟨_, rfl, 10, 18, rfl, rfl, ⟨by decide, by decide, by decide⟩, _, _, rfl, rfl, _, rfl, ?_⟩
          refine ite2 (fun hge => ?_) (fun _ => ?_)
          · refine ⟨_, rfl, _, rfl, b, _, 2, 2, rfl, rfl, upd_same, rfl, ?_⟩
            have hge' := of_decide_eq_true hge
            refine ⟨_, (i : Int) + 1, ns[i], seed, i + 1, by omega, hlt', ?_, s0, s1, rfl, ?_⟩
            · have : (0 : Int) ≤ 10 ^ 18 := by decide
              exact Int.le_trans this hge'
            · rw [upd_upd]; rfl
          · refine ⟨_, rfl, b, _, 3, _, rfl, rfl, SqL.of upd_same, rfl, _, _, rfl, rfl, .inr ⟨by decide, by decide⟩, ?_⟩
            refine ⟨_, rfl, .inl ⟨_, rfl, _, _, rfl, rfl, by show (0:Int) < 2147483489; decide, _, _, rfl, rfl, .inr ⟨by decide, by decide⟩, _, _, rfl, rfl, _, _, rfl, rfl, .inl ⟨_, rfl, _, _, rfl, rfl, by show (0:Int) < 2147483629; decide, _, rfl, b, _, 3, 3, rfl, rfl, upd_same, rfl, ?_⟩⟩⟩
            refine ⟨_, (i : Int) + 1, big, (seed * 40009 + ns[i] % 2147483489 * 30011 + 17) % 2147483629, i + 1, by omega, hlt', b0, Int.emod_nonneg _ (by decide), Int.emod_lt_of_pos _ (by decide), rfl, ?_⟩
            rw [upd_upd]; rfl
        · exact ⟨_, i, big, seed, i, rfl, hi, b0, s0, s1, rfl, (upd_self hb).symm⟩
      · exact ⟨_, i, big, seed, i, rfl, hi, b0, s0, s1, rfl, (upd_self hb).symm⟩
    · rintro σ' H' ⟨cell, i, big, seed, i', rfl, hi, b0, s0, s1, rfl, rfl⟩
      have hc' : ∀ o, upd H b o c = some (.lst (ns.map V.int)) := fun o => by rw [upd_ne ncb]; exact hc
      refine ⟨_, rfl, b, _, 2, _, rfl, rfl, SqL.of upd_same, rfl, _, _, rfl, rfl, _, rfl, ?_⟩
      refine ite2 (fun _ => ?_) (fun _ => ?_)
      · refine ⟨_, rfl, b, _, 2, _, rfl, rfl, SqL.of upd_same, rfl, .inl ⟨_, rfl, _, rfl, _, _, rfl, rfl, m0, ?_⟩⟩
        refine ⟨_, rfl, b, _, 2, _, rfl, rfl, SqL.of upd_same, rfl, _, rfl, _, _, rfl, rfl, wide_div m0 (b := 40) (by omega) (by decide) (by decide), _, rfl, b, _, 2, 2, rfl, rfl, upd_same, rfl, _, rfl, ?_⟩
        rw [upd_upd]
        refine k _ _ (Int.emod_nonneg _ (by omega)) (Int.emod_lt_of_pos _ m0) (Ext.upd b H _) ⟨ns, i', _, seed, cnt, upd_same, hc' _, hi, hl, Int.ediv_nonneg b0 (by omega), s0, s1⟩
      · refine ⟨_, rfl, b, _, 4, _, rfl, rfl, SqL.of upd_same, rfl, _, _, rfl, rfl, _, rfl, b, _, 4, 4, rfl, rfl, upd_same, rfl, ?_⟩
        refine ⟨_, rfl, b, _, 3, _, rfl, rfl, SqL.of upd_same, rfl, ?_⟩
        refine ⟨_, rfl, _, rfl, _, _, rfl, rfl, .inl ⟨by omega, by omega⟩, _, _, rfl, rfl, .inr ⟨by decide, by decide⟩, ?_⟩
        refine ⟨_, rfl, _, _, rfl, rfl, .inr ⟨by decide, by decide⟩, _, _, rfl, rfl, ?_⟩
        refine ⟨_, rfl, b, _, 4, _, rfl, rfl, SqL.of upd_same, rfl, _, _, rfl, rfl, .inr ⟨by decide, by decide⟩, _, _, rfl, rfl, _, _, rfl, rfl, ?_⟩
        refine .inl ⟨_, rfl, _, _, rfl, rfl, by show (0:Int) < 2147483629; decide, _, rfl, b, _, 3, 3, rfl, rfl, upd_same, rfl, ?_⟩
        refine ⟨_, rfl, b, _, 3, _, rfl, rfl, SqL.of upd_same, rfl, _, _, rfl, rfl, ⟨by decide, by decide⟩, ?_⟩
        refine ⟨_, rfl, b, _, 3, _, rfl, rfl, SqL.of upd_same, rfl, .inl ⟨_, rfl, _, _, rfl, rfl, by show (0:Int) < 7901; decide, _, _, rfl, rfl, .inr ⟨by decide, by decide⟩, _, _, rfl, rfl, ?_⟩⟩
        refine .inl ⟨_, rfl, _, rfl, _, _, rfl, rfl, m0, ?_⟩
        rw [upd_upd, upd_upd]
        exact k _ _ (Int.emod_nonneg _ (by omega)) (Int.emod_lt_of_pos _ m0) (Ext.upd b H _) ⟨ns, i', big, _, _, upd_same, hc' _, hi, hl, b0, Int.emod_nonneg _ (by decide), Int.emod_lt_of_pos _ (by decide)⟩

end
end Ag
namespace Ag
open PySem L2
open C8 (pss_cut tCut)
section
variable {P : Program} {w : World} {K : PySem.W.Frag} {mg : Str → Option Value} {base : Heap} {cs : List (Str × Addr)}
/-- an item of a list, of a tuple, or a sign of a text is drawn -/
def spAny (K : PySem.W.Frag) : Sp := fun vs H Q _ => ∃ (b c : Addr) (t : V), vs = [.ref b, t] ∧ BagAt b c H ∧
  ((∃ (l : Addr) (xs : List V), t = .ref l ∧ ((l ≠ b ∧ H l = some (.lst xs)) ∨ SqT K H l xs) ∧ 0 < xs.length ∧ xs.length < 1000000 ∧
      ∀ (i : Nat) (x : V) (H' : Hp), xs[i]? = some x → Ext b H H' → BagAt b c H' → Q x H') ∨
   (∃ z : Str, t = .str z ∧ 0 < z.length ∧ z.length < 1000000 ∧ ∀ (i cp : Nat) (H' : Hp), z.cps.toList[i]? = some cp → Ext b H H' → BagAt b c H' → Q (.str ⟨#[cp]⟩) H'))
theorem ok_any (T : Txt K mg w P) : FnOk P w K mg base CX0 2 T.f__law_any T.fd__law_any ["_law_bag_here", "_law_things"] (spAny K) := by
  have G__law_pull : FnOk P w K mg base CX0 1 T.f__law_pull T.fd__law_pull _ spPull := ok_pull T
  refine T.F__law_any.ok sc__law_any (fun vs H Q E h => ?_) (fun cdv A outer s H vs Q E hr h => ?_)
  · obtain ⟨b, c, t, rfl, _⟩ := h
    rfl
  · obtain ⟨b, c, t, rfl, hB, h⟩ := h
    refine ⟨_, (pss_one (ps_ret (pe_ix ix_seq (pv 1) (pe_call G__law_pull (hr.mono (by omega)) rfl T.g__law_pull T.F__law_pull.kp T.b__law_pull .nil pass0 (pa_cons (pv 0) (pa_cons (pe_callB call_len (by rfl) T.n_len (by decide +kernel) (pa_cons (pv 1) pa_nil)) pa_nil))) (fun _ _ => rfl)))), ?_⟩
    obtain ⟨ys, hb⟩ := hB.lst
    rcases h with ⟨l, xs, rfl, hl, h0, h1, k⟩ | ⟨z, rfl, h0, h1, k⟩
    · have hn : LenV K (.ref l) H xs.length := by
        rcases hl with ⟨_, hl⟩ | hl
        · exact .inl ⟨xs, SqL.of hl, rfl⟩
        · exact .inr ⟨xs, hl, rfl⟩
      refine ⟨_, rfl, _, rfl, _, rfl, _, xs.length, rfl, hn, b, c, _, rfl, hB, by omega, by omega, fun d H1 d0 d1 x1 hB' => ?_⟩
      have hd : d.toNat < xs.length := by omega
      have e : atI xs d = some xs[d.toNat] := atI_int d0 (by simp [hd])
      rcases hl with ⟨nb, hl⟩ | hl
      · exact .inl ⟨l, xs, d, _, rfl, rfl, SqL.of (x1 _ _ nb hl), e, k d.toNat _ H1 (by simp [hd]) x1 hB'⟩
      · exact .inr (.inl ⟨l, xs, d, _, rfl, rfl, Ext.sqT x1 hb hl, e, k d.toNat _ H1 (by simp [hd]) x1 hB'⟩)
    · have hz : z.length ≤ sizeLine := Nat.le_of_lt (Nat.lt_of_lt_of_le h1 (by decide))
      refine ⟨_, rfl, _, rfl, _, rfl, _, z.length, rfl, ⟨hz, rfl⟩, b, c, _, rfl, hB, by omega, by omega, fun d H1 d0 d1 x1 hB' => ?_⟩
      have hlen : z.cps.toList.length = z.length := by simp [Str.length]
      have hd : d.toNat < z.cps.toList.length := by omega
      have e : atI z.cps.toList d = some (z.cps.toList[d.toNat]'hd) := atI_int d0 (List.getElem?_eq_getElem hd)
      exact .inr (.inr ⟨z, d, _, rfl, rfl, hz, e, k d.toNat _ H1 (List.getElem?_eq_getElem hd) x1 hB'⟩)

end
end Ag
namespace Ag
open PySem L2
open C8 (pss_cut tCut)
section
variable {P : Program} {w : World} {K : PySem.W.Frag} {mg : Str → Option Value} {base : Heap} {cs : List (Str × Addr)}
/-! tables of code objects, function objects, cells -/
open NdefX (NTab)
open LamX (CodeO)
/-- a written lambda: its name, its words, the names that it captures, its parameter's default -/
structure Lm where
  qual : Str
  params : Arguments
  body : Expr
  scope : Scope
  fr : List Str
  dv : Option Int
/-- the object at f is the lambda l with the cells cl, the code object at c, the defaults' tuple at td -/
def dvOf (td : Option Addr) : Value := match td with | none => .none | some t => .ref t
def LamO (f : Addr) (l : Lm) (cl : List (Str × Addr)) (c : Addr) (td : Option Addr) : HO := .ext fun h => ∃ (od : Option Addr) (sl : Array (Option Value)) (doc pm ctv : Value),
  h.get? f = some (⟨.type "function", od, .func (PySem.W.kdv_fn "<lambda>" l.qual l.params (.expr l.body) l.scope cl (dvOf td) doc pm (.ref c) ctv), sl⟩ : Obj)
/-- the object at c is o -/
def CelO (c : Addr) (o : Obj) : HO := .frz o (.ext fun _ => True)
/-- the shared things that may change: the bag, the tables of code objects -/
structure Bg where
  bag : Option (Addr × Addr)
  tab : List NTab
def Bg.Ex (B : Bg) (a : Addr) : Prop := (∃ b c, B.bag = some (b, c) ∧ a = b) ∨ ∃ p ∈ B.tab, a = p.1
def TabM (M : Addr → Prop) (H : Hp) (P : Addr) (nm : Nat → Nat → Str) : Prop := ∃ ps : Array Value, H P = some (.tbl ps) ∧ TriplesOk ps.toList ∧ ∀ (pos : Pos) (cv : Value), codeAmong pos ps.toList = some cv → ∃ c, cv = .ref c ∧ ¬ M c ∧ H c = some (CodeO c (nm pos.line pos.col))
structure Bg.Ok (B : Bg) (M : Addr → Prop) (H : Hp) : Prop where
  bag : ∀ b c, B.bag = some (b, c) → BagAt b c H
  tab : ∀ p ∈ B.tab, TabM M H p.1 p.2
structure Bg.In (B : Bg) (M : Addr → Prop) (H : Hp) : Prop where
  ok : B.Ok M H
  ex : ∀ a, B.Ex a → M a
  cm : ∀ b c, B.bag = some (b, c) → M c
section
variable {B : Bg} {M M' : Addr → Prop} {H H' : Hp}
theorem TabM.mono {P : Addr} {nm : Nat → Nat → Str} (t : TabM M H P nm) (h1 : ∀ ps, H P = some (.tbl ps) → H' P = some (.tbl ps)) (h2 : ∀ a φ, ¬ M a → H a = some (.ext φ) → ¬ M' a ∧ H' a = some (.ext φ)) : TabM M' H' P nm := by
  obtain ⟨ps, e, t, k⟩ := t
  refine ⟨ps, h1 ps e, t, fun pos cv hc => ?_⟩
  obtain ⟨c, e1, e2, e3⟩ := k pos cv hc
  obtain ⟨e4, e5⟩ := h2 c _ e2 (by unfold CodeO at e3; exact e3)
  exact ⟨c, e1, e4, by unfold CodeO; exact e5⟩
theorem Bg.Ok.same (k : B.Ok M H) (s : Same H H') : B.Ok M H' := ⟨fun b c e => (k.bag b c e).ext s, fun p hp => (k.tab p hp).mono (fun ps e => s _ _ e) fun a φ n e => ⟨n, s _ _ e⟩⟩
theorem Bg.Ok.weak (k : B.Ok M H) (w : ∀ a, M' a → M a) : B.Ok M' H := ⟨k.bag, fun p hp => (k.tab p hp).mono (fun ps e => e) fun a φ n e => ⟨fun z => n (w a z), e⟩⟩
/-- more is untouchable, no thing that is known by what is true of it -/
theorem Bg.Ok.more (k : B.Ok M H) (w : ∀ a φ, M' a → H a = some (.ext φ) → M a) : B.Ok M' H := ⟨k.bag, fun p hp => (k.tab p hp).mono (fun ps e => e) fun a φ n e => ⟨fun z => n (w a φ z e), e⟩⟩
theorem Bg.In.same (k : B.In M H) (s : Same H H') : B.In M H' := ⟨k.ok.same s, k.ex, k.cm⟩
theorem Bg.In.bagEx (k : B.In M H) {b c : Addr} (e : B.bag = some (b, c)) : M b := k.ex b (.inl ⟨b, c, e, rfl⟩)
theorem Bg.In.off (k : B.In M H) {a : Addr} (n : ¬ M a) : ¬ B.Ex a := fun z => n (k.ex a z)
theorem Bg.In.to (k : B.In M H) (h : B.Ok M' H') (w : ∀ a, M a → M' a) : B.In M' H' := ⟨h, fun a z => w a (k.ex a z), fun b c e => w c (k.cm b c e)⟩
/-- what is new is none of them -/
theorem Bg.Ok.apart (k : B.Ok M H) {p : Addr} (hp : H p = none) : ¬ B.Ex p ∧ ∀ b c, B.bag = some (b, c) → p ≠ c := by
  refine ⟨fun z => ?_, fun b c e => ((k.bag b c e).apart hp).2⟩
  rcases z with ⟨b, c, e, rfl⟩ | ⟨q, hq, rfl⟩
  · exact ((k.bag _ c e).apart hp).1 rfl
  · obtain ⟨ps, e, _⟩ := k.tab q hq
    rw [hp] at e; cases e
/-- a draw -/
theorem Bg.Ok.pull (k : B.Ok M H) {b c : Addr} (hB : B.bag = some (b, c)) (x : Ext b H H') (hb : BagAt b c H') : B.Ok M H' := by
  obtain ⟨xs, hl⟩ := (k.bag b c hB).lst
  refine ⟨fun b' c' e => ?_, fun p hp => (k.tab p hp).mono (fun ps e => x _ _ (fun z => ?_) e) fun a φ n e => ⟨n, x _ _ (fun z => ?_) e⟩⟩
  · rw [hB] at e; cases e; exact hb
  · rw [z, hl] at e; cases e
  · rw [z, hl] at e; cases e
/-- a store apart from them -/
theorem Bg.Ok.store (k : B.Ok M H) {p : Addr} (o : HO) (n : ¬ B.Ex p) (nc : ∀ b c, B.bag = some (b, c) → p ≠ c) (hx : ∀ φ, H p = some (.ext φ) → M p) : B.Ok M (upd H p o) := by
  refine ⟨fun b c e => (k.bag b c e).store o ⟨fun z => n (.inl ⟨b, c, e, z⟩), nc b c e⟩, fun q hq => (k.tab q hq).mono (fun ps e => ?_) fun a φ m e => ⟨m, ?_⟩⟩
  · rw [upd_ne fun z => n (.inr ⟨q, hq, z.symm⟩)]; exact e
  · rw [upd_ne fun z => m (by rw [z]; exact hx φ (z ▸ e))]; exact e
end
/-! data: what a value stands for, without the heap -/
inductive D where
  | non | bl (b : Bool) | int (i : Int) | str (l : List Nat) | tup (ds : List D) | lst (ds : List D)
  | dct (ks : List Key) (ds : List D) | ins (c : Nat) (fs : List D)
  | lam (i : Nat) | fn (i : Nat) (ds : List D) | exc (c : Nat) (fs : List D)
/-- where the own classes stand, and their fields; the tables of code objects; the written lambdas; the cells of the law's own frame -/
structure Cl where
  adr : Nat → Addr
  fld : Nat → List Str
  tab : List NTab
  lam : Nat → Option Lm
  cs : List (Str × Addr)
/-- a tuple of the written part -/
def KT (K : PySem.W.Frag) (a : Addr) (xs : List V) : Prop :=
  ∃ (o : Obj) (its : Array Value) (n : Nat), K.lookup a = some o ∧ o.cls = .type "tuple" ∧ o.data = .seq its n ∧ its.size ≤ sizeLine ∧ Vals xs its.toList
def RT (K : PySem.W.Frag) (M : Addr → Prop) (H : Hp) (a : Addr) (xs : List V) : Prop := (¬ M a ∧ H a = some (.tup xs)) ∨ KT K a xs
theorem RT.sq {K : PySem.W.Frag} {M : Addr → Prop} {H : Hp} {a : Addr} {xs : List V} (h : RT K M H a xs) : SqT K H a xs := by
  rcases h with h | h
  · exact .inl (.inl h.2)
  · exact .inr h
/-- the defaults' tuple -/
def DfT (M : Addr → Prop) (H : Hp) (l : Lm) (td : Option Addr) : Prop := (l.dv = none ∧ td = none) ∨ ∃ n t, l.dv = some n ∧ td = some t ∧ ¬ M t ∧ H t = some (.tup [.int n])
/-- the cells hold xs -/
structure CelT (M : Addr → Prop) (H : Hp) (cl : List (Str × Addr)) (fr : List Str) (xs : List V) : Prop where
  len : fr.length = xs.length
  inj : ∀ x y c, cl.lookup x = some c → cl.lookup y = some c → x = y
  all : ∀ y c, cl.lookup y = some c → y ∈ fr
  has : ∀ (j : Nat) (y : Str) (x : V), fr[j]? = some y → xs[j]? = some x → ∃ (c : Addr) (o : Obj) (u : Value), cl.lookup y = some c ∧ ¬ M c ∧ H c = some (CelO c o) ∧ o.data = .cell (some u) ∧ RelV x u
theorem DfT.mono {M M' : Addr → Prop} {H H' : Hp} {l : Lm} {td : Option Addr} (h : DfT M H l td) (m : ∀ a o, ¬ M a → H a = some o → ¬ M' a ∧ H' a = some o) : DfT M' H' l td := by
  rcases h with h | ⟨n, t, e1, e2, e3, e4⟩
  · exact .inl h
  · exact .inr ⟨n, t, e1, e2, m t _ e3 e4⟩
theorem CelT.mono {M M' : Addr → Prop} {H H' : Hp} {cl : List (Str × Addr)} {fr : List Str} {xs : List V} (h : CelT M H cl fr xs) (m : ∀ a o, ¬ M a → H a = some o → ¬ M' a ∧ H' a = some o) : CelT M' H' cl fr xs :=
  ⟨h.len, h.inj, h.all, fun j y x e1 e2 => let ⟨c, o, u, q1, q2, q3, q4, q5⟩ := h.has j y x e1 e2; ⟨c, o, u, q1, (m c _ q2 q3).1, (m c _ q2 q3).2, q4, q5⟩⟩
mutual
/-- v stands for d; what is in M is not reached -/
def Da (K : PySem.W.Frag) (C : Cl) (M : Addr → Prop) (H : Hp) : D → V → Prop
  | .non, v => v = .non
  | .bl b, v => v = .bl b
  | .int i, v => v = .int i
  | .str l, v => v = .str (SX.S l)
  | .tup ds, v => ∃ a xs, v = .ref a ∧ RT K M H a xs ∧ DaL K C M H ds xs
  | .lst ds, v => ∃ a xs, v = .ref a ∧ ¬ M a ∧ H a = some (.lst xs) ∧ DaL K C M H ds xs
  | .dct ks ds, v => ∃ a xs, v = .ref a ∧ ¬ M a ∧ H a = some (.dK (ks.zip xs)) ∧ ks.length = xs.length ∧ DaL K C M H ds xs
  | .ins c fs, v => ∃ a dx xs, v = .ref a ∧ ¬ M a ∧ H a = some (.ins (C.adr c) dx ((C.fld c).zip xs)) ∧ (C.fld c).length = xs.length ∧ DaL K C M H fs xs
  | .lam i, v => ∃ f c td l, v = .ref f ∧ C.lam i = some l ∧ ¬ M f ∧ H f = some (LamO f l (cloFrom C.cs l.scope.names []) c td) ∧ ¬ M c ∧ H c = some (CodeO c l.qual) ∧ DfT M H l td
  | .fn i ds, v => ∃ f c td l cl xs, v = .ref f ∧ C.lam i = some l ∧ ¬ M f ∧ H f = some (LamO f l cl c td) ∧ ¬ M c ∧ H c = some (CodeO c l.qual) ∧ DfT M H l td ∧ CelT M H cl l.fr xs ∧ DaL K C M H ds xs
  | .exc c fs, v => ∃ a dd o xs, v = .ref a ∧ ¬ M a ∧ H a = some (CelO a o) ∧ (o.cls = .ref (C.adr c) ∧ o.dict = some dd ∧ ∃ vs, o.data = .fields vs) ∧ ¬ M dd ∧ H dd = some (.xd ((C.fld c).zip xs)) ∧ (C.fld c).length = xs.length ∧ DaL K C M H fs xs
def DaL (K : PySem.W.Frag) (C : Cl) (M : Addr → Prop) (H : Hp) : List D → List V → Prop
  | [], vs => vs = []
  | d :: ds, vs => ∃ v r, vs = v :: r ∧ Da K C M H d v ∧ DaL K C M H ds r
end
section
variable {C : Cl} {M M' : Addr → Prop} {H H' : Hp}
mutual
theorem Da.mono (m : ∀ a o, ¬ M a → H a = some o → ¬ M' a ∧ H' a = some o) : ∀ (d : D) (v : V), Da K C M H d v → Da K C M' H' d v
  | .non, _, h => by unfold Da at *; exact h
  | .bl _, _, h => by unfold Da at *; exact h
  | .int _, _, h => by unfold Da at *; exact h
  | .str _, _, h => by unfold Da at *; exact h
  | .tup ds, _, h => by
    unfold Da at *
    obtain ⟨a, xs, e, h1, h2⟩ := h
    refine ⟨a, xs, e, ?_, DaL.mono m ds xs h2⟩
    rcases h1 with h1 | h1
    · exact .inl (m _ _ h1.1 h1.2)
    · exact .inr h1
  | .lst ds, _, h => by
    unfold Da at *
    obtain ⟨a, xs, e, n, h1, h2⟩ := h
    exact ⟨a, xs, e, (m _ _ n h1).1, (m _ _ n h1).2, DaL.mono m ds xs h2⟩
  | .dct ks ds, _, h => by
    unfold Da at *
    obtain ⟨a, xs, e, n, h1, hl, h2⟩ := h
    exact ⟨a, xs, e, (m _ _ n h1).1, (m _ _ n h1).2, hl, DaL.mono m ds xs h2⟩
  | .ins c fs, _, h => by
    unfold Da at *
    obtain ⟨a, dx, xs, e, n, h1, hl, h2⟩ := h
    exact ⟨a, dx, xs, e, (m _ _ n h1).1, (m _ _ n h1).2, hl, DaL.mono m fs xs h2⟩
  | .lam i, _, h => by
    unfold Da at *
    obtain ⟨f, c, td, l, e, e1, n1, h1, n2, h2, h3⟩ := h
    exact ⟨f, c, td, l, e, e1, (m _ _ n1 h1).1, (m _ _ n1 h1).2, (m _ _ n2 h2).1, (m _ _ n2 h2).2, h3.mono m⟩
  | .fn i ds, _, h => by
    unfold Da at *
    obtain ⟨f, c, td, l, cl, xs, e, e1, n1, h1, n2, h2, h3, h4, h5⟩ := h
    exact ⟨f, c, td, l, cl, xs, e, e1, (m _ _ n1 h1).1, (m _ _ n1 h1).2, (m _ _ n2 h2).1, (m _ _ n2 h2).2, h3.mono m, h4.mono m, DaL.mono m ds xs h5⟩
  | .exc c fs, _, h => by
    unfold Da at *
    obtain ⟨a, dd, o, xs, e, n1, h1, h2, n2, h3, h4, h5⟩ := h
    exact ⟨a, dd, o, xs, e, (m _ _ n1 h1).1, (m _ _ n1 h1).2, h2, (m _ _ n2 h3).1, (m _ _ n2 h3).2, h4, DaL.mono m fs xs h5⟩
theorem DaL.mono (m : ∀ a o, ¬ M a → H a = some o → ¬ M' a ∧ H' a = some o) : ∀ (ds : List D) (vs : List V), DaL K C M H ds vs → DaL K C M' H' ds vs
  | [], _, h => by unfold DaL at *; exact h
  | d :: ds, _, h => by
    unfold DaL at *
    obtain ⟨v, r, e, h1, h2⟩ := h
    exact ⟨v, r, e, Da.mono m d v h1, DaL.mono m ds r h2⟩
end
theorem Da.same (s : Same H H') {d : D} {v : V} (h : Da K C M H d v) : Da K C M H' d v := Da.mono (fun a o n e => ⟨n, s a o e⟩) d v h
theorem DaL.same (s : Same H H') {ds : List D} {vs : List V} (h : DaL K C M H ds vs) : DaL K C M H' ds vs := DaL.mono (fun a o n e => ⟨n, s a o e⟩) ds vs h
theorem Da.weak (w : ∀ a, M' a → M a) {d : D} {v : V} (h : Da K C M H d v) : Da K C M' H d v := Da.mono (fun a o n e => ⟨fun z => n (w a z), e⟩) d v h
theorem DaL.weak (w : ∀ a, M' a → M a) {ds : List D} {vs : List V} (h : DaL K C M H ds vs) : DaL K C M' H ds vs := DaL.mono (fun a o n e => ⟨fun z => n (w a z), e⟩) ds vs h
theorem DaL.nil : DaL K C M H [] [] := by unfold DaL; rfl
theorem DaL.cons {d : D} {ds : List D} {v : V} {vs : List V} (h : Da K C M H d v) (t : DaL K C M H ds vs) : DaL K C M H (d :: ds) (v :: vs) := by
  unfold DaL; exact ⟨v, vs, rfl, h, t⟩
theorem DaL.length : ∀ {ds : List D} {vs : List V}, DaL K C M H ds vs → vs.length = ds.length
  | [], vs, h => by unfold DaL at h; rw [h]; rfl
  | d :: ds, vs, h => by
    unfold DaL at h
    obtain ⟨v, r, rfl, _, t⟩ := h
    rw [List.length_cons, List.length_cons, DaL.length t]
theorem DaL.get : ∀ {ds : List D} {vs : List V} {i : Nat} {v : V}, DaL K C M H ds vs → vs[i]? = some v → ∃ d, ds[i]? = some d ∧ Da K C M H d v
  | [], vs, i, v, h, e => by unfold DaL at h; rw [h] at e; simp at e
  | d :: ds, vs, i, v, h, e => by
    unfold DaL at h
    obtain ⟨w, r, rfl, h1, t⟩ := h
    cases i with
    | zero => simp at e; subst e; exact ⟨d, rfl, h1⟩
    | succ i => simpa using DaL.get (i := i) t (by simpa using e)
theorem DaL.of_get : ∀ {ds : List D} {vs : List V} {i : Nat} {d : D}, DaL K C M H ds vs → ds[i]? = some d → ∃ v, vs[i]? = some v ∧ Da K C M H d v
  | [], vs, i, d, h, e => by simp at e
  | d :: ds, vs, i, x, h, e => by
    unfold DaL at h
    obtain ⟨w, r, rfl, h1, t⟩ := h
    cases i with
    | zero => simp at e; subst e; exact ⟨w, rfl, h1⟩
    | succ i => simpa using DaL.of_get (i := i) t (by simpa using e)
theorem DaL.append : ∀ {ds es : List D} {vs ws : List V}, DaL K C M H ds vs → DaL K C M H es ws → DaL K C M H (ds ++ es) (vs ++ ws)
  | [], es, vs, ws, h, t => by unfold DaL at h; rw [h]; exact t
  | d :: ds, es, vs, ws, h, t => by
    unfold DaL at h
    obtain ⟨w, r, rfl, h1, q⟩ := h
    exact DaL.cons h1 (DaL.append q t)
theorem DaL.take : ∀ {ds : List D} {vs : List V} (n : Nat), DaL K C M H ds vs → DaL K C M H (ds.take n) (vs.take n)
  | [], vs, n, h => by unfold DaL at h; rw [h]; simpa using DaL.nil
  | d :: ds, vs, 0, h => by simpa using DaL.nil
  | d :: ds, vs, n + 1, h => by
    unfold DaL at h
    obtain ⟨w, r, rfl, h1, q⟩ := h
    simpa using DaL.cons h1 (DaL.take n q)
theorem DaL.drop : ∀ {ds : List D} {vs : List V} (n : Nat), DaL K C M H ds vs → DaL K C M H (ds.drop n) (vs.drop n)
  | [], vs, n, h => by unfold DaL at h; rw [h]; simpa using DaL.nil
  | d :: ds, vs, 0, h => by simpa using h
  | d :: ds, vs, n + 1, h => by
    unfold DaL at h
    obtain ⟨w, r, rfl, h1, q⟩ := h
    simpa using DaL.drop n q
theorem DaL.one {d : D} {vs : List V} (h : DaL K C M H [d] vs) : ∃ v, vs = [v] ∧ Da K C M H d v := by
  unfold DaL at h
  obtain ⟨v, r, rfl, h1, t⟩ := h
  unfold DaL at t
  exact ⟨v, by rw [t], h1⟩
theorem DaL.two {d e : D} {vs : List V} (h : DaL K C M H [d, e] vs) : ∃ v w, vs = [v, w] ∧ Da K C M H d v ∧ Da K C M H e w := by
  unfold DaL at h
  obtain ⟨v, r, rfl, h1, t⟩ := h
  obtain ⟨w, rfl, h2⟩ := DaL.one t
  exact ⟨v, w, rfl, h1, h2⟩
theorem Da.int {i : Int} : Da K C M H (.int i) (.int i) := by unfold Da; rfl
theorem Da.bl {b : Bool} : Da K C M H (.bl b) (.bl b) := by unfold Da; rfl
theorem Da.non : Da K C M H .non .non := by unfold Da; rfl
theorem Da.str {l : List Nat} : Da K C M H (.str l) (.str (SX.S l)) := by unfold Da; rfl
theorem Da.tup {ds : List D} {a : Addr} {xs : List V} (h1 : RT K M H a xs) (h2 : DaL K C M H ds xs) : Da K C M H (.tup ds) (.ref a) := by unfold Da; exact ⟨a, xs, rfl, h1, h2⟩
theorem Da.lst {ds : List D} {a : Addr} {xs : List V} (n : ¬ M a) (h1 : H a = some (.lst xs)) (h2 : DaL K C M H ds xs) : Da K C M H (.lst ds) (.ref a) := by unfold Da; exact ⟨a, xs, rfl, n, h1, h2⟩
theorem Da.of_tup {ds : List D} {v : V} (h : Da K C M H (.tup ds) v) : ∃ a xs, v = .ref a ∧ SqT K H a xs ∧ DaL K C M H ds xs := by
  unfold Da at h
  obtain ⟨a, xs, e, h1, h2⟩ := h
  exact ⟨a, xs, e, h1.sq, h2⟩
theorem Da.of_lst {ds : List D} {v : V} (h : Da K C M H (.lst ds) v) : ∃ a xs, v = .ref a ∧ H a = some (.lst xs) ∧ DaL K C M H ds xs := by
  unfold Da at h
  obtain ⟨a, xs, e, _, h1, h2⟩ := h
  exact ⟨a, xs, e, h1, h2⟩
theorem Da.of_int {i : Int} {v : V} (h : Da K C M H (.int i) v) : v = .int i := by unfold Da at h; exact h
theorem Da.of_bl {b : Bool} {v : V} (h : Da K C M H (.bl b) v) : v = .bl b := by unfold Da at h; exact h
theorem Da.of_non {v : V} (h : Da K C M H .non v) : v = .non := by unfold Da at h; exact h
theorem Da.of_str {l : List Nat} {v : V} (h : Da K C M H (.str l) v) : v = .str (SX.S l) := by unfold Da at h; exact h
end

/-! what the slots hold -/
inductive SV where
  | no | dat (d : D) | own (ds : List D) | ownD (ks : List Key) (ds : List D) | ownI (c : Nat) (ns : List Str) (ds : List D) | bag
abbrev En := List SV
/-- what may not be touched; the bag; the object that is built or changed -/
structure Fx where
  M : Addr → Prop
  B : Bg
  A : Addr
def isOwn : SV → Bool
  | .own _ => true
  | .ownD _ _ => true
  | .ownI _ _ _ => true
  | _ => false
def Own (σ : St) (ρ : En) (a : Addr) : Prop := ∃ (i : Nat) (s : SV), ρ[i]? = some s ∧ isOwn s = true ∧ σ[i]? = some (some (.ref a))
def MM (F : Fx) (σ : St) (ρ : En) (a : Addr) : Prop := F.M a ∨ Own σ ρ a
def Slot (K : PySem.W.Frag) (C : Cl) (F : Fx) (M : Addr → Prop) (H : Hp) : SV → Option V → Prop
  | .no, _ => True
  | .dat d, v => ∃ x, v = some x ∧ Da K C M H d x
  | .own ds, v => ∃ l xs, v = some (.ref l) ∧ ¬ F.M l ∧ H l = some (.lst xs) ∧ DaL K C M H ds xs
  | .ownD ks ds, v => ∃ l xs, v = some (.ref l) ∧ ¬ F.M l ∧ H l = some (.dK (ks.zip xs)) ∧ ks.length = xs.length ∧ DaL K C M H ds xs
  | .ownI c ns ds, v => ∃ (l : Addr) (q : List V × Addr), v = some (.ref l) ∧ ¬ F.M l ∧ H l = some (.ins (C.adr c) q.2 (ns.zip q.1)) ∧ (ns.length = q.1.length ∧ l = F.A) ∧ DaL K C M H ds q.1
  | .bag, v => ∃ b c, F.B.bag = some (b, c) ∧ v = some (.ref b)
structure ER (K : PySem.W.Frag) (C : Cl) (F : Fx) (H : Hp) (σ : St) (ρ : En) : Prop where
  len : σ.length = ρ.length
  slot : ∀ (i : Nat) (s : SV) (v : Option V), ρ[i]? = some s → σ[i]? = some v → Slot K C F (MM F σ ρ) H s v
  apart : ∀ (i j : Nat) (s u : SV) (a : Addr), ρ[i]? = some s → ρ[j]? = some u → isOwn s = true → isOwn u = true → σ[i]? = some (some (.ref a)) → σ[j]? = some (some (.ref a)) → i = j
  bag : F.B.In F.M H
  there : ∀ a, F.M a → ∃ o, H a = some o
  tb : F.B.tab = C.tab
/-- what is not owned by a slot and is not the bag stays -/
def Step (F : Fx) (σ : St) (ρ : En) (H : Hp) (σ' : St) (ρ' : En) (H' : Hp) : Prop :=
  ∀ a o, H a = some o → ¬ Own σ ρ a → ¬ F.B.Ex a → H' a = some o ∧ ¬ Own σ' ρ' a
section
variable {C : Cl} {F : Fx} {H H' H1 H2 : Hp} {σ σ' σ1 σ2 : St} {ρ ρ' ρ1 ρ2 : En}
theorem Step.refl : Step F σ ρ H σ ρ H := fun _ _ e n _ => ⟨e, n⟩
theorem Step.trans (x : Step F σ ρ H σ1 ρ1 H1) (y : Step F σ1 ρ1 H1 σ2 ρ2 H2) : Step F σ ρ H σ2 ρ2 H2 := fun a o e n b =>
  y a o (x a o e n b).1 (x a o e n b).2 b
theorem Step.same (s : Same H H') : Step F σ ρ H σ ρ H' := fun a o e n _ => ⟨s a o e, n⟩
/-- data stays -/
theorem ER.stay (r : ER K C F H σ ρ) (s : Step F σ ρ H σ' ρ' H') : ∀ a o, ¬ MM F σ ρ a → H a = some o → ¬ MM F σ' ρ' a ∧ H' a = some o := fun a o n e => by
  have n1 : ¬ Own σ ρ a := fun z => n (.inr z)
  have nb : ¬ F.B.Ex a := r.bag.off fun z => n (.inl z)
  obtain ⟨h1, h2⟩ := s a o e n1 nb
  exact ⟨fun z => z.elim (fun q => n (.inl q)) h2, h1⟩
theorem ER.da (r : ER K C F H σ ρ) (s : Step F σ ρ H σ' ρ' H') {d : D} {v : V} (h : Da K C (MM F σ ρ) H d v) : Da K C (MM F σ' ρ') H' d v := Da.mono (r.stay s) d v h
theorem ER.daL (r : ER K C F H σ ρ) (s : Step F σ ρ H σ' ρ' H') {ds : List D} {vs : List V} (h : DaL K C (MM F σ ρ) H ds vs) : DaL K C (MM F σ' ρ') H' ds vs := DaL.mono (r.stay s) ds vs h
theorem Slot.same (s : Same H H') {M : Addr → Prop} {u : SV} {v : Option V} (h : Slot K C F M H u v) : Slot K C F M H' u v := by
  cases u with
  | no => exact trivial
  | dat d => obtain ⟨x, e, h⟩ := h; exact ⟨x, e, h.same s⟩
  | own ds => obtain ⟨l, xs, e, n, h1, h2⟩ := h; exact ⟨l, xs, e, n, s _ _ h1, h2.same s⟩
  | ownD ks ds => obtain ⟨l, xs, e, n, h1, h3, h2⟩ := h; exact ⟨l, xs, e, n, s _ _ h1, h3, h2.same s⟩
  | ownI c ns ds => obtain ⟨l, xs, e, n, h1, h3, h2⟩ := h; exact ⟨l, xs, e, n, s _ _ h1, h3, h2.same s⟩
  | bag => exact h
theorem ER.same (r : ER K C F H σ ρ) (s : Same H H') : ER K C F H' σ ρ :=
  ⟨r.len, fun i u v h1 h2 => (r.slot i u v h1 h2).same s, r.apart, r.bag.same s, fun a h => let ⟨o, e⟩ := r.there a h; ⟨o, s a o e⟩, r.tb⟩
/-- a slot's value -/
theorem ER.at (r : ER K C F H σ ρ) {i : Nat} {s : SV} (h : ρ[i]? = some s) : ∃ v, σ[i]? = some v ∧ Slot K C F (MM F σ ρ) H s v := by
  have hl : i < σ.length := by rw [r.len]; exact (List.getElem?_eq_some_iff.mp h).1
  exact ⟨σ[i], List.getElem?_eq_getElem hl, r.slot i s _ h (List.getElem?_eq_getElem hl)⟩
end

end
end Ag
namespace Ag
open PySem L2
open C8 (pss_cut tCut)
section
variable {P : Program} {w : World} {K : PySem.W.Frag} {mg : Str → Option Value} {base : Heap} {cs : List (Str × Addr)}
/-! readings over data -/
structure Xc where
  c : Nat
  fs : List D
structure XFs (K : PySem.W.Frag) (C : Cl) (M : Addr → Prop) (H : Hp) (d : Addr) (fs : List D) (vs : List V) : Prop where
  nm : ¬ M d
  da : DaL K C M H fs vs
theorem XFs.weak {C : Cl} {M M' : Addr → Prop} {H : Hp} {d : Addr} {fs : List D} {vs : List V} (h : XFs K C M H d fs vs) (w : ∀ a, M' a → M a) : XFs K C M' H d fs vs := ⟨fun z => h.nm (w d z), h.da.weak w⟩
theorem XFs.same {C : Cl} {M : Addr → Prop} {H H' : Hp} {d : Addr} {fs : List D} {vs : List V} (h : XFs K C M H d fs vs) (s : Same H H') : XFs K C M H' d fs vs := ⟨h.nm, h.da.same s⟩
def XRel (K : PySem.W.Frag) (C : Cl) (M : Addr → Prop) (H : Hp) (x : Xc) (cls : Value) (dc : Option Addr) : Prop :=
  cls = .ref (C.adr x.c) ∧ ∃ d vs, dc = some d ∧ H d = some (.xd ((C.fld x.c).zip vs)) ∧ (C.fld x.c).length = vs.length ∧ XFs K C M H d x.fs vs
structure Lx where
  K : PySem.W.Frag
  C : Cl
  E : XK
abbrev XP := Xc → En → Prop
abbrev DG (α : Type) := En → (α → En → Prop) → XP → Prop
abbrev DT := DG D
def lf (L : Lx) {α β : Type} (Rl : Fx → (Addr → Prop) → Hp → α → β → Prop) (t : DG α) : St → Hp → (β → Hp → Prop) → Prop := fun σ H Q =>
  ∃ (F : Fx) (ρ : En) (R : α → En → Prop) (X : XP), ER L.K L.C F H σ ρ ∧ t ρ R X ∧
  (∀ d ρ' v H', R d ρ' → Step F σ ρ H σ ρ' H' → ER L.K L.C F H' σ ρ' → Rl F (MM F σ ρ') H' d v → Q v H') ∧
  (∀ x ρ' H' cls dc, X x ρ' → Step F σ ρ H σ ρ' H' → ER L.K L.C F H' σ ρ' → XRel L.K L.C (MM F σ ρ') H' x cls dc → L.E cls dc H')
def rD (L : Lx) : Fx → (Addr → Prop) → Hp → D → V → Prop := fun _ M H d v => Da L.K L.C M H d v
def rB : Fx → (Addr → Prop) → Hp → Bool → Bool → Prop := fun _ _ _ b c => c = b
/-- arguments: data, or the bag -/
def ArgL (K : PySem.W.Frag) (C : Cl) (F : Fx) (M : Addr → Prop) (H : Hp) : En → List V → Prop
  | [], vs => vs = []
  | s :: r, vs => ∃ v q, vs = v :: q ∧ isOwn s = false ∧ s ≠ .no ∧ Slot K C F M H s (some v) ∧ ArgL K C F M H r q
def rA (L : Lx) : Fx → (Addr → Prop) → Hp → En → List V → Prop := fun F M H a vs => ArgL L.K L.C F M H a vs
abbrev lift (L : Lx) (t : DT) : TE := lf L (rD L) t
abbrev liftT (L : Lx) (t : DG Bool) : TT := lf L rB t
abbrev liftA (L : Lx) (t : DG En) : TA := lf L (rA L) t
/-- it has a value -/
def ok {α : Type} (o : Option α) (k : α → Prop) : Prop := ∃ a, o = some a ∧ k a
theorem ok_some {α : Type} {a : α} {k : α → Prop} : ok (some a) k = k a := propext ⟨fun ⟨_, e, h⟩ => (by cases e; exact h), fun h => ⟨a, rfl, h⟩⟩
theorem ok_none {α : Type} {k : α → Prop} : ok (none : Option α) k = False := propext ⟨fun ⟨_, e, _⟩ => (by cases e), fun h => False.elim h⟩
theorem toE {X : Cx} {e : Expr} {t t' : TE} (h : PE X e t) (m : ∀ σ H Q, t' σ H Q → t σ H Q) : PE X e t' := ⟨fun pins s σ H Q I q => h.run pins s σ H Q I (m σ H Q q)⟩
theorem toT {X : Cx} {e : Expr} {t t' : TT} (h : PT X e t) (m : ∀ σ H Q, t' σ H Q → t σ H Q) : PT X e t' := ⟨fun pins s σ H Q I q => h.run pins s σ H Q I (m σ H Q q)⟩
theorem toW {X : Cx} {e : Expr} {t t' : TT} (h : PW X e t) (m : ∀ σ H Q, t' σ H Q → t σ H Q) : PW X e t' := ⟨fun w pins s σ H Q I q => h.run w pins s σ H Q I (m σ H Q q)⟩
theorem toA {X : Cx} {e : List Expr} {t t' : TA} (h : PA X e t) (m : ∀ σ H Q, t' σ H Q → t σ H Q) : PA X e t' := ⟨fun pos pins s σ H Q I q => h.run pos pins s σ H Q I (m σ H Q q)⟩
section
variable {L : Lx} {F : Fx} {H H' : Hp} {σ : St} {ρ : En}
theorem lf.mono {α β : Type} {Rl : Fx → (Addr → Prop) → Hp → α → β → Prop} {t : DG α} {Q Q' : β → Hp → Prop} (h : lf L Rl t σ H Q) (m : ∀ v H', Q v H' → Q' v H') : lf L Rl t σ H Q' := by
  obtain ⟨F, ρ, R, X, er, ht, hR, hX⟩ := h
  exact ⟨F, ρ, R, X, er, ht, fun d ρ' v H' r st er' rel => m _ _ (hR d ρ' v H' r st er' rel), hX⟩
theorem own_set {σ : St} {ρ : En} {i : Nat} {s : SV} {a : Addr} (hs : isOwn s = false) (h : Own σ (ρ.set i s) a) : ∃ (j : Nat) (u : SV), j ≠ i ∧ ρ[j]? = some u ∧ isOwn u = true ∧ σ[j]? = some (some (.ref a)) := by
  obtain ⟨j, u, h1, h2, h3⟩ := h
  by_cases e : j = i
  · subst e
    rw [List.getElem?_set_self' ] at h1
    cases q : ρ[j]? with
    | none => rw [q] at h1; simp at h1
    | some z => rw [q] at h1; simp at h1; subst h1; rw [hs] at h2; cases h2
  · rw [List.getElem?_set_ne (Ne.symm e)] at h1
    exact ⟨j, u, e, h1, h2, h3⟩
/-- an owned thing becomes data -/
theorem ER.freeze {K : PySem.W.Frag} {C : Cl} {i : Nat} {s : SV} {d : D} (r : ER K C F H σ ρ) (h : ρ[i]? = some s) (hd : (∃ ds, s = .own ds ∧ d = .lst ds) ∨ ∃ ks ds, s = .ownD ks ds ∧ d = .dct ks ds) :
    Step F σ ρ H σ (ρ.set i (.dat d)) H ∧ ER K C F H σ (ρ.set i (.dat d)) ∧ ∃ v, σ[i]? = some (some v) ∧ Da K C (MM F σ (ρ.set i (.dat d))) H d v := by
  have hown : isOwn s = true := by rcases hd with ⟨ds, rfl, _⟩ | ⟨ks, ds, rfl, _⟩ <;> rfl
  have hi : i < ρ.length := (List.getElem?_eq_some_iff.mp h).1
  have sub : ∀ a, Own σ (ρ.set i (.dat d)) a → Own σ ρ a := fun a z => by
    obtain ⟨j, u, _, h1, h2, h3⟩ := own_set rfl z
    exact ⟨j, u, h1, h2, h3⟩
  have st : Step F σ ρ H σ (ρ.set i (.dat d)) H := fun a o e n _ => ⟨e, fun z => n (sub a z)⟩
  have subM : ∀ a, MM F σ (ρ.set i (.dat d)) a → MM F σ ρ a := fun a z => z.elim .inl fun q => .inr (sub a q)
  obtain ⟨v, hv, sl⟩ := r.at h
  have main : ∃ v', v = some v' ∧ Da K C (MM F σ (ρ.set i (.dat d))) H d v' := by
    rcases hd with ⟨ds, rfl, rfl⟩ | ⟨ks, ds, rfl, rfl⟩
    · obtain ⟨l, xs, rfl, n, h1, h2⟩ := sl
      refine ⟨_, rfl, Da.lst (fun z => z.elim n fun q => ?_) h1 (h2.weak subM)⟩
      obtain ⟨j, u, ne, h3, h4, h5⟩ := own_set rfl q
      exact ne (r.apart j i u _ l h3 h h4 hown h5 hv)
    · obtain ⟨l, xs, rfl, n, h1, hl, h2⟩ := sl
      refine ⟨_, rfl, ?_⟩
      unfold Da
      refine ⟨l, xs, rfl, (fun z => z.elim n fun q => ?_), h1, hl, h2.weak subM⟩
      obtain ⟨j, u, ne, h3, h4, h5⟩ := own_set rfl q
      exact ne (r.apart j i u _ l h3 h h4 hown h5 hv)
  obtain ⟨v', rfl, hda⟩ := main
  refine ⟨st, ⟨by rw [List.length_set]; exact r.len, fun j u w h1 h2 => ?_, fun j k u u' a h1 h2 h3 h4 h5 h6 => ?_, r.bag, r.there, r.tb⟩, v', hv, hda⟩
  · by_cases e : j = i
    · subst e
      rw [List.getElem?_set_self hi] at h1
      cases h1
      rw [hv] at h2; cases h2
      exact ⟨v', rfl, hda⟩
    · rw [List.getElem?_set_ne (Ne.symm e)] at h1
      have q := r.slot j u w h1 h2
      cases u with
      | no => exact trivial
      | dat d' => obtain ⟨x, e, z⟩ := q; exact ⟨x, e, z.weak subM⟩
      | own ds => obtain ⟨l, xs, e, n, h1, h2⟩ := q; exact ⟨l, xs, e, n, h1, h2.weak subM⟩
      | ownD ks ds => obtain ⟨l, xs, e, n, h1, h3, h2⟩ := q; exact ⟨l, xs, e, n, h1, h3, h2.weak subM⟩
      | ownI c ns ds => obtain ⟨l, xs, e, n, h1, h3, h2⟩ := q; exact ⟨l, xs, e, n, h1, h3, h2.weak subM⟩
      | bag => exact q
  · by_cases e1 : j = i
    · subst e1
      rw [List.getElem?_set_self hi] at h1
      cases h1; cases h3
    · by_cases e2 : k = i
      · subst e2
        rw [List.getElem?_set_self hi] at h2
        cases h2; cases h4
      · rw [List.getElem?_set_ne (Ne.symm e1)] at h1
        rw [List.getElem?_set_ne (Ne.symm e2)] at h2
        exact r.apart j k u u' a h1 h2 h3 h4 h5 h6
theorem ER.newM {K : PySem.W.Frag} {C : Cl} (r : ER K C F H σ ρ) {p : Addr} (hp : H p = none) : ¬ Own σ ρ p := fun ⟨i, s, h1, h2, h3⟩ => by
  have q := r.slot i s _ h1 h3
  cases s with
  | own ds => obtain ⟨l, xs, e, n, h, _⟩ := q; cases e; rw [hp] at h; cases h
  | ownD ks ds => obtain ⟨l, xs, e, n, h, _⟩ := q; cases e; rw [hp] at h; cases h
  | ownI c ns ds => obtain ⟨l, xs, e, n, h, _⟩ := q; cases e; rw [hp] at h; cases h
  | no => cases h2
  | bag => cases h2
  | dat d => cases h2
theorem ER.newMM {K : PySem.W.Frag} {C : Cl} (r : ER K C F H σ ρ) {p : Addr} (hp : H p = none) : ¬ MM F σ ρ p := fun z => z.elim (fun q => by
  obtain ⟨o, e⟩ := r.there p q
  rw [hp] at e; cases e) (r.newM hp)
/-! names, constants -/
def dVar (i : Nat) : DT := fun ρ R _ => match ρ[i]? with
  | some (.dat d) => R d ρ
  | some (.own ds) => R (.lst ds) (ρ.set i (.dat (.lst ds)))
  | some (.ownD ks ds) => R (.dct ks ds) (ρ.set i (.dat (.dct ks ds)))
  | _ => False
theorem r_var {i : Nat} : ∀ σ H Q, lift L (dVar i) σ H Q → tVar i σ H Q := by
  rintro σ H Q ⟨F, ρ, R, X, er, ht, hR, hX⟩
  unfold dVar at ht
  cases h : ρ[i]? with
  | none => rw [h] at ht; exact ht.elim
  | some s =>
    rw [h] at ht
    cases s with
    | no => exact ht.elim
    | bag => exact ht.elim
    | dat d =>
      obtain ⟨v, hv, x, rfl, hx⟩ := er.at h
      exact ⟨x, hv, hR d ρ x H ht Step.refl er hx⟩
    | own ds =>
      obtain ⟨st, er', v, hv, hda⟩ := er.freeze h (.inl ⟨ds, rfl, rfl⟩)
      exact ⟨v, hv, hR _ _ v H ht st er' hda⟩
    | ownD ks ds =>
      obtain ⟨st, er', v, hv, hda⟩ := er.freeze h (.inr ⟨ks, ds, rfl, rfl⟩)
      exact ⟨v, hv, hR _ _ v H ht st er' hda⟩
    | ownI c ns ds => exact ht.elim
def dC (d : D) : DT := fun ρ R _ => R d ρ
theorem r_c {d : D} {v : V} (h : ∀ M H, Da L.K L.C M H d v) : ∀ σ H Q, lift L (dC d) σ H Q → tC v σ H Q := by
  rintro σ H Q ⟨F, ρ, R, X, er, ht, hR, hX⟩
  exact hR d ρ v H ht Step.refl er (h _ _)
theorem r_int {i : Int} : ∀ σ H Q, lift L (dC (.int i)) σ H Q → tC (.int i) σ H Q := r_c fun _ _ => Da.int
theorem r_bl {b : Bool} : ∀ σ H Q, lift L (dC (.bl b)) σ H Q → tC (.bl b) σ H Q := r_c fun _ _ => Da.bl
theorem r_non : ∀ σ H Q, lift L (dC .non) σ H Q → tC .non σ H Q := r_c fun _ _ => Da.non
/-- the code points of a written text -/
def cp (s : String) : List Nat := (Str.ofString s).cps.toList
theorem S_cp (s : String) : SX.S (cp s) = Str.ofString s := by unfold cp; exact SX.S_tl _
theorem r_str {s : String} : ∀ σ H Q, lift L (dC (.str (cp s))) σ H Q → tC (.str (Str.ofString s)) σ H Q := r_c fun _ _ => by unfold Da; rw [S_cp]
/-! operators -/
def dOp (f : D → D → Option D) (ta tb : DT) : DT := fun ρ R X => ta ρ (fun a ρ1 => tb ρ1 (fun b ρ2 => ok (f a b) fun d => R d ρ2) X) X
/-- what is new may be reached -/
def Fr (M : Addr → Prop) (H : Hp) : Prop := ∀ p, H p = none → ¬ M p
/-- r does what f says, the heap may grow -/
def RefR2 (L : Lx) (r : R2) (f : D → D → Option D) : Prop := ∀ M H x y a b d Q, Fr M H → Da L.K L.C M H a x → Da L.K L.C M H b y → f a b = some d → (∀ v H', Same H H' → Da L.K L.C M H' d v → Q v H') → r x y H Q
theorem r_op {r : R2} {f : D → D → Option D} {ta tb : DT} (h : RefR2 L r f) : ∀ σ H Q, lift L (dOp f ta tb) σ H Q → tOp r (lift L ta) (lift L tb) σ H Q := by
  rintro σ H Q ⟨F, ρ, R, X, er, ht, hR, hX⟩
  refine ⟨F, ρ, _, X, er, ht, fun a ρ1 x H1 h1 st1 er1 da => ?_, hX⟩
  refine ⟨F, ρ1, _, X, er1, h1, fun b ρ2 y H2 h2 st2 er2 db => ?_, fun x ρ' H' cls dc hx st er' xr => hX x ρ' H' cls dc hx (st1.trans st) er' xr⟩
  obtain ⟨d, e, hr⟩ := h2
  exact h _ H2 x y a b d Q (fun p hp => er2.newMM hp) (er1.da st2 da) db e fun v H3 sm dd => hR d ρ2 v H3 hr (st1.trans (st2.trans (Step.same sm))) (er2.same sm) dd
def dUn (f : D → Option D) (ta : DT) : DT := fun ρ R X => ta ρ (fun a ρ1 => ok (f a) fun d => R d ρ1) X
def RefR1 (L : Lx) (r : V → Hp → VK → Prop) (f : D → Option D) : Prop := ∀ M H x a d Q, Fr M H → Da L.K L.C M H a x → f a = some d → (∀ v H', Same H H' → Da L.K L.C M H' d v → Q v H') → r x H Q
theorem r_un {r : V → Hp → VK → Prop} {f : D → Option D} {ta : DT} (h : RefR1 L r f) : ∀ σ H Q, lift L (dUn f ta) σ H Q → tUn r (lift L ta) σ H Q := by
  rintro σ H Q ⟨F, ρ, R, X, er, ht, hR, hX⟩
  refine ⟨F, ρ, _, X, er, ht, fun a ρ1 x H1 h1 st1 er1 da => ?_, hX⟩
  obtain ⟨d, e, hr⟩ := h1
  exact h _ H1 x a d Q (fun p hp => er1.newMM hp) da e fun v H3 sm dd => hR d ρ1 v H3 hr (st1.trans (Step.same sm)) (er1.same sm) dd
/-! arguments -/
def dNil : DG En := fun ρ R _ => R [] ρ
def dCons (ta : DT) (tr : DG En) : DG En := fun ρ R X => ta ρ (fun a ρ1 => tr ρ1 (fun as ρ2 => R (.dat a :: as) ρ2) X) X
def dBagA (i : Nat) (tr : DG En) : DG En := fun ρ R X => ρ[i]? = some .bag ∧ tr ρ (fun as ρ2 => R (.bag :: as) ρ2) X
theorem ArgL.mono {K : PySem.W.Frag} {C : Cl} {M M' : Addr → Prop} (m : ∀ a o, ¬ M a → H a = some o → ¬ M' a ∧ H' a = some o) : ∀ {as : En} {vs : List V}, ArgL K C F M H as vs → ArgL K C F M' H' as vs
  | [], vs, h => by unfold ArgL at *; exact h
  | s :: as, vs, h => by
    unfold ArgL at *
    obtain ⟨v, q, e, no, nn, sl, t⟩ := h
    refine ⟨v, q, e, no, nn, ?_, ArgL.mono m t⟩
    cases s with
    | no => exact trivial
    | dat d => obtain ⟨x, e, z⟩ := sl; exact ⟨x, e, Da.mono m d x z⟩
    | own ds => cases no
    | ownD ks ds => cases no
    | ownI c ns ds => cases no
    | bag => exact sl
theorem r_nil : ∀ σ H Q, liftA L dNil σ H Q → tNil σ H Q := by
  rintro σ H Q ⟨F, ρ, R, X, er, ht, hR, hX⟩
  exact hR [] ρ [] H ht Step.refl er (by unfold rA ArgL; rfl)
theorem r_cons {ta : DT} {tr : DG En} : ∀ σ H Q, liftA L (dCons ta tr) σ H Q → tCons (lift L ta) (liftA L tr) σ H Q := by
  rintro σ H Q ⟨F, ρ, R, X, er, ht, hR, hX⟩
  refine ⟨F, ρ, _, X, er, ht, fun a ρ1 x H1 h1 st1 er1 da => ?_, hX⟩
  refine ⟨F, ρ1, _, X, er1, h1, fun as ρ2 xs H2 h2 st2 er2 das => ?_, fun x ρ' H' cls dc hx st er' xr => hX x ρ' H' cls dc hx (st1.trans st) er' xr⟩
  refine hR _ ρ2 _ H2 h2 (st1.trans st2) er2 ?_
  unfold rA ArgL
  exact ⟨x, xs, rfl, rfl, (fun z => nomatch z), ⟨x, rfl, er1.da st2 da⟩, das⟩
theorem r_bagA {i : Nat} {tr : DG En} : ∀ σ H Q, liftA L (dBagA i tr) σ H Q → tCons (tVar i) (liftA L tr) σ H Q := by
  rintro σ H Q ⟨F, ρ, R, X, er, ⟨hi, ht⟩, hR, hX⟩
  obtain ⟨v, hv, b, c, hB, rfl⟩ := er.at hi
  refine ⟨.ref b, hv, ?_⟩
  refine ⟨F, ρ, _, X, er, ht, fun as ρ2 xs H2 h2 st2 er2 das => ?_, hX⟩
  refine hR _ ρ2 _ H2 h2 st2 er2 ?_
  unfold rA ArgL
  exact ⟨.ref b, xs, rfl, rfl, (fun z => nomatch z), ⟨b, c, hB, rfl⟩, das⟩
def datL : En → Option (List D)
  | [] => some []
  | .dat d :: r => (datL r).map (d :: ·)
  | _ => none
theorem ArgL.dats {K : PySem.W.Frag} {C : Cl} {M : Addr → Prop} : ∀ {as : En} {vs : List V} {ds : List D}, ArgL K C F M H as vs → datL as = some ds → DaL K C M H ds vs
  | [], vs, ds, h, e => by unfold ArgL at h; unfold datL at e; cases e; rw [h]; exact DaL.nil
  | s :: as, vs, ds, h, e => by
    unfold ArgL at h
    obtain ⟨v, q, rfl, no, nn, sl, t⟩ := h
    cases s with
    | no => cases e
    | own ds => cases e
    | ownD ks ds => cases e
    | ownI c ns ds => cases e
    | bag => cases e
    | dat d =>
      obtain ⟨x, ex, z⟩ := sl
      cases ex
      unfold datL at e
      cases q : datL as with
      | none => rw [q] at e; cases e
      | some es =>
        rw [q] at e; cases e
        exact DaL.cons z (ArgL.dats t q)
/-! built-ins, by their values -/
def RefCB (L : Lx) (r : List V → Hp → VK → Prop) (f : List D → Option D) : Prop := ∀ M H xs ds d Q, Fr M H → DaL L.K L.C M H ds xs → f ds = some d → (∀ v H', Same H H' → Da L.K L.C M H' d v → Q v H') → r xs H Q
def dCB (f : List D → Option D) (ta : DG En) : DT := fun ρ R X => ta ρ (fun as ρ1 => ok ((datL as).bind f) fun d => R d ρ1) X
theorem r_cb {r : List V → Hp → VK → Prop} {f : List D → Option D} {ta : DG En} (h : RefCB L r f) : ∀ σ H Q, lift L (dCB f ta) σ H Q → tCB r (liftA L ta) σ H Q := by
  rintro σ H Q ⟨F, ρ, R, X, er, ht, hR, hX⟩
  refine ⟨F, ρ, _, X, er, ht, fun as ρ1 xs H1 h1 st1 er1 da => ?_, hX⟩
  obtain ⟨d, e, hr⟩ := h1
  cases q : datL as with
  | none => rw [q] at e; cases e
  | some ds =>
    rw [q] at e
    exact h _ H1 xs ds d Q (fun p hp => er1.newMM hp) (ArgL.dats da q) e fun v H3 sm dd => hR d ρ1 v H3 hr (st1.trans (Step.same sm)) (er1.same sm) dd
/-! displays -/
def dTup (ta : DG En) : DT := fun ρ R X => ta ρ (fun as ρ1 => ok (datL as) fun ds => ds.length ≤ 1000 ∧ R (.tup ds) ρ1) X
def dLst (ta : DG En) : DT := fun ρ R X => ta ρ (fun as ρ1 => ok (datL as) fun ds => ds.length ≤ 1000 ∧ R (.lst ds) ρ1) X
theorem le1000 {n : Nat} (h : n ≤ 1000) : n ≤ sizeLine := Nat.le_of_lt (small1000 h)
theorem r_tup {ta : DG En} : ∀ σ H Q, lift L (dTup ta) σ H Q → tTup (liftA L ta) σ H Q := by
  rintro σ H Q ⟨F, ρ, R, X, er, ht, hR, hX⟩
  refine ⟨F, ρ, _, X, er, ht, fun as ρ1 xs H1 h1 st1 er1 da => ?_, hX⟩
  obtain ⟨ds, e, hl, hr⟩ := h1
  have dl := ArgL.dats da e
  refine ⟨le1000 (by rw [dl.length]; exact hl), fun p hp => ?_⟩
  have sm : Same H1 (upd H1 p (.tup xs)) := Same.laid _ hp
  exact hR _ ρ1 _ _ hr (st1.trans (Step.same sm)) (er1.same sm) (Da.tup (.inl ⟨er1.newMM hp, upd_same⟩) (dl.same sm))
theorem r_lst {ta : DG En} : ∀ σ H Q, lift L (dLst ta) σ H Q → tLst (liftA L ta) σ H Q := by
  rintro σ H Q ⟨F, ρ, R, X, er, ht, hR, hX⟩
  refine ⟨F, ρ, _, X, er, ht, fun as ρ1 xs H1 h1 st1 er1 da => ?_, hX⟩
  obtain ⟨ds, e, hl, hr⟩ := h1
  have dl := ArgL.dats da e
  refine ⟨le1000 (by rw [dl.length]; exact hl), fun p hp => ?_⟩
  have sm : Same H1 (upd H1 p (.lst xs)) := Same.laid _ hp
  exact hR _ ρ1 _ _ hr (st1.trans (Step.same sm)) (er1.same sm) (Da.lst (er1.newMM hp) upd_same (dl.same sm))
/-! tests -/
def dB (t : DT) : DG Bool := fun ρ R X => t ρ (fun d ρ1 => match d with | .bl b => R b ρ1 | _ => False) X
theorem r_B {t : DT} : ∀ σ H Q, liftT L (dB t) σ H Q → tB (lift L t) σ H Q := by
  rintro σ H Q ⟨F, ρ, R, X, er, ht, hR, hX⟩
  refine ⟨F, ρ, _, X, er, ht, fun d ρ1 x H1 h1 st1 er1 da => ?_, hX⟩
  cases d with
  | bl b => exact ⟨b, Da.of_bl da, hR b ρ1 b H1 h1 st1 er1 rfl⟩
  | _ => exact h1.elim
theorem r_test {t : DT} : ∀ σ H Q, liftT L (dB t) σ H Q → tTest (lift L t) σ H Q := r_B
def dAnd (t u : DG Bool) : DG Bool := fun ρ R X => t ρ (fun b ρ1 => if b = true then u ρ1 R X else R false ρ1) X
def dOr (t u : DG Bool) : DG Bool := fun ρ R X => t ρ (fun b ρ1 => if b = true then R true ρ1 else u ρ1 R X) X
def dNot (t : DG Bool) : DG Bool := fun ρ R X => t ρ (fun b ρ1 => R (!b) ρ1) X
theorem r_and {t u : DG Bool} : ∀ σ H Q, liftT L (dAnd t u) σ H Q → tAnd (liftT L t) (liftT L u) σ H Q := by
  rintro σ H Q ⟨F, ρ, R, X, er, ht, hR, hX⟩
  refine ⟨F, ρ, _, X, er, ht, fun b ρ1 b' H1 h1 st1 er1 da => ?_, hX⟩
  cases da
  cases b with
  | true => exact ⟨F, ρ1, R, X, er1, h1, fun d ρ2 v H2 hr st2 er2 rel => hR d ρ2 v H2 hr (st1.trans st2) er2 rel, fun x ρ' H' cls dc hx st er' xr => hX x ρ' H' cls dc hx (st1.trans st) er' xr⟩
  | false => exact hR false ρ1 false H1 h1 st1 er1 rfl
theorem r_or {t u : DG Bool} : ∀ σ H Q, liftT L (dOr t u) σ H Q → tOr (liftT L t) (liftT L u) σ H Q := by
  rintro σ H Q ⟨F, ρ, R, X, er, ht, hR, hX⟩
  refine ⟨F, ρ, _, X, er, ht, fun b ρ1 b' H1 h1 st1 er1 da => ?_, hX⟩
  cases da
  cases b with
  | false => exact ⟨F, ρ1, R, X, er1, h1, fun d ρ2 v H2 hr st2 er2 rel => hR d ρ2 v H2 hr (st1.trans st2) er2 rel, fun x ρ' H' cls dc hx st er' xr => hX x ρ' H' cls dc hx (st1.trans st) er' xr⟩
  | true => exact hR true ρ1 true H1 h1 st1 er1 rfl
theorem r_not {t : DG Bool} : ∀ σ H Q, liftT L (dNot t) σ H Q → tNot (liftT L t) σ H Q := by
  rintro σ H Q ⟨F, ρ, R, X, er, ht, hR, hX⟩
  refine ⟨F, ρ, _, X, er, ht, fun b ρ1 b' H1 h1 st1 er1 da => ?_, hX⟩
  cases da
  exact hR _ ρ1 _ H1 h1 st1 er1 rfl
def dIf {α : Type} (c : DG Bool) (t u : DG α) : DG α := fun ρ R X => c ρ (fun b ρ1 => if b = true then t ρ1 R X else u ρ1 R X) X
theorem r_if {c : DG Bool} {t u : DT} : ∀ σ H Q, lift L (dIf c t u) σ H Q → tIf (liftT L c) (lift L t) (lift L u) σ H Q := by
  rintro σ H Q ⟨F, ρ, R, X, er, ht, hR, hX⟩
  refine ⟨F, ρ, _, X, er, ht, fun b ρ1 b' H1 h1 st1 er1 da => ?_, hX⟩
  cases da
  cases b <;> exact ⟨F, ρ1, R, X, er1, h1, fun d ρ2 v H2 hr st2 er2 rel => hR d ρ2 v H2 hr (st1.trans st2) er2 rel, fun x ρ' H' cls dc hx st er' xr => hX x ρ' H' cls dc hx (st1.trans st) er' xr⟩
/-! a test as a value: and, or, not, a bool is handed on -/
def dV (t : DG Bool) : DT := fun ρ R X => t ρ (fun b ρ1 => R (.bl b) ρ1) X
end

end
end Ag
namespace Ag
open PySem L2
open C8 (pss_cut tCut)
section
variable {P : Program} {w : World} {K : PySem.W.Frag} {mg : Str → Option Value} {base : Heap} {cs : List (Str × Addr)}
/-! operations on data -/
mutual
def pd : D → PyData
  | .non => .none
  | .bl b => .bool b
  | .int i => .int i
  | .str l => .str (SX.S l)
  | .tup ds => .tuple (pdL ds)
  | .lst ds => .list (pdL ds)
  | .dct _ _ => .none
  | .ins _ _ => .none
  | .lam _ => .none
  | .fn _ _ => .none
  | .exc _ _ => .none
def pdL : List D → List PyData
  | [] => []
  | d :: ds => pd d :: pdL ds
end
mutual
/-- no dicts, no instances -/
def plain : D → Bool
  | .tup ds => plainL ds
  | .lst ds => plainL ds
  | .dct _ _ => false
  | .ins _ _ => false
  | .lam _ => false
  | .fn _ _ => false
  | .exc _ _ => false
  | _ => true
def plainL : List D → Bool
  | [] => true
  | d :: ds => plain d && plainL ds
end
section
variable {C : Cl} {M : Addr → Prop} {H : Hp}
mutual
theorem Da.dp : ∀ (d : D) (v : V), plain d = true → Da K C M H d v → Dp K H v (pd d)
  | .non, _, _, h => by cases h.of_non; unfold pd; exact .non
  | .bl b, _, _, h => by cases h.of_bl; unfold pd; exact .bl b
  | .int i, _, _, h => by cases h.of_int; unfold pd; exact .int i
  | .str l, _, _, h => by cases h.of_str; unfold pd; exact .str _
  | .tup ds, _, p, h => by
    obtain ⟨a, xs, rfl, h1, h2⟩ := h.of_tup
    unfold pd
    unfold plain at p
    exact .tup h1 (DaL.dp ds xs p h2)
  | .lst ds, _, p, h => by
    obtain ⟨a, xs, rfl, h1, h2⟩ := h.of_lst
    unfold pd
    unfold plain at p
    exact .lst (SqL.of h1) (DaL.dp ds xs p h2)
  | .dct _ _, _, p, _ => by unfold plain at p; cases p
  | .ins _ _, _, p, _ => by unfold plain at p; cases p
  | .lam _, _, p, _ => by unfold plain at p; cases p
  | .fn _ _, _, p, _ => by unfold plain at p; cases p
  | .exc _ _, _, p, _ => by unfold plain at p; cases p
theorem DaL.dp : ∀ (ds : List D) (vs : List V), plainL ds = true → DaL K C M H ds vs → DpAll K H vs (pdL ds)
  | [], _, _, h => by unfold DaL at h; rw [h]; unfold pdL; exact .nil
  | d :: ds, _, p, h => by
    unfold DaL at h
    obtain ⟨v, r, rfl, h1, h2⟩ := h
    unfold plainL at p
    obtain ⟨p1, p2⟩ := Bool.and_eq_true_iff.mp p
    unfold pdL
    exact .cons (Da.dp d v p1 h1) (DaL.dp ds r p2 h2)
end
end
theorem OpR.or {X : Cx} {f : Value → Value → Sem Value} {r r' : R2} (h : OpR X f r) (h' : OpR X f r') : OpR X f (fun x y H Q => r x y H Q ∨ r' x y H Q) := by
  intro pins s σ H x y v u Q I rx ry q
  rcases q with q | q
  · exact h pins s σ H x y v u Q I rx ry q
  · exact h' pins s σ H x y v u Q I rx ry q
theorem CallR.or {X : Cx} {f : Value} {r r' : List V → Hp → VK → Prop} (h : CallR X f r) (h' : CallR X f r') : CallR X f (fun xs H Q => r xs H Q ∨ r' xs H Q) := by
  intro pins s σ H xs us Q I rx q
  rcases q with q | q
  · exact h pins s σ H xs us Q I rx q
  · exact h' pins s σ H xs us Q I rx q
section
variable {L : Lx}
theorem RefR2.l {r r' : R2} {f : D → D → Option D} (h : RefR2 L r f) : RefR2 L (fun x y H Q => r x y H Q ∨ r' x y H Q) f := fun M H x y a b d Q fr h1 h2 e k => .inl (h M H x y a b d Q fr h1 h2 e k)
/-! + -/
def fAdd : D → D → Option D
  | .int i, .int j => some (.int (i + j))
  | .str a, .str b => if a.length + b.length ≤ 1000000 then some (.str (a ++ b)) else none
  | .lst a, .lst b => if a.length + b.length ≤ 1000000 then some (.lst (a ++ b)) else none
  | .tup a, .tup b => if a.length + b.length ≤ 1000000 then some (.tup (a ++ b)) else none
  | _, _ => none
theorem le_line {n : Nat} (h : n ≤ 1000000) : n ≤ sizeLine := Nat.le_trans h (by decide)
theorem S_app (a b : List Nat) : SX.S a ++ SX.S b = SX.S (a ++ b) := by
  show Str.mk _ = Str.mk _
  simp
theorem S_len (a : List Nat) : (SX.S a).length = a.length := by simp [Str.length]
def rAddA (K : PySem.W.Frag) : R2 := fun x y H Q => (((rI0 fun i j => V.int (i + j)) x y H Q ∨ (∃ i j, x = .str i ∧ y = .str j ∧ i.length + j.length ≤ sizeLine ∧ Q (.str (i ++ j)) H)) ∨ rCat x y H Q) ∨ rCatA K x y H Q
theorem op_addA {X : Cx} : OpR X (binaryOp .Add) (rAddA X.K) := ((op_add.or op_add_str).or op_cat).or op_catA
theorem same0 {H : Hp} : Same H H := fun _ _ h => h
theorem Da.of_tupR {C : Cl} {M : Addr → Prop} {H : Hp} {ds : List D} {v : V} (h : Da K C M H (.tup ds) v) : ∃ a xs, v = .ref a ∧ RT K M H a xs ∧ DaL K C M H ds xs := by
  unfold Da at h
  exact h
theorem DaL.nil_iff {C : Cl} {M : Addr → Prop} {H : Hp} {ds : List D} {xs : List V} (h : DaL K C M H ds xs) : xs = [] ↔ ds = [] := by
  have e := h.length
  constructor
  · rintro rfl; exact List.length_eq_zero_iff.mp e.symm
  · rintro rfl; exact List.length_eq_zero_iff.mp e
theorem ref_add : RefR2 L (rAddA L.K) fAdd := by
  intro M H x y a b d Q fr ha hb e k
  unfold fAdd at e
  split at e
  · cases ha.of_int; cases hb.of_int; cases e
    exact .inl (.inl (.inl ⟨_, _, rfl, rfl, k _ H same0 Da.int⟩))
  · cases ha.of_str; cases hb.of_str
    split at e
    · rename_i hl
      cases e
      refine .inl (.inl (.inr ⟨_, _, rfl, rfl, by rw [S_len, S_len]; exact le_line hl, ?_⟩))
      rw [S_app]
      exact k _ H same0 Da.str
    · cases e
  · obtain ⟨p, xs, rfl, h1, h2⟩ := ha.of_lst
    obtain ⟨q, ys, rfl, h3, h4⟩ := hb.of_lst
    split at e
    · rename_i hl
      cases e
      refine .inl (.inr ⟨p, q, xs, ys, rfl, rfl, h1, h3, by rw [h2.length, h4.length]; exact le_line hl, fun l hn => ?_⟩)
      exact k _ _ (Same.laid _ hn) (Da.lst (fr l hn) upd_same ((h2.append h4).same (Same.laid _ hn)))
    · cases e
  · obtain ⟨p, xs, rfl, h1, h2⟩ := ha.of_tupR
    obtain ⟨q, ys, rfl, h3, h4⟩ := hb.of_tupR
    split at e
    · rename_i hl
      cases e
      refine .inr ⟨p, q, xs, ys, rfl, rfl, h1.sq, h3.sq, by rw [h2.length, h4.length]; exact le_line hl, fun ex => ?_, fun _ ey => ?_, fun _ _ l hn => ?_⟩
      · rw [h2.nil_iff.mp ex] at k
        exact k _ H same0 (Da.tup h3 (by simpa using h4))
      · rw [h4.nil_iff.mp ey] at k
        exact k _ H same0 (Da.tup h1 (by simpa using h2))
      · exact k _ _ (Same.laid _ hn) (Da.tup (.inl ⟨fr l hn, upd_same⟩) ((h2.append h4).same (Same.laid _ hn)))
    · cases e
  · cases e
/-! ints -/
def fInt (g : Int → Int → D) : D → D → Option D
  | .int i, .int j => some (g i j)
  | _, _ => none
theorem ref_int0 {g : Int → Int → V} {g' : Int → Int → D} (h : ∀ i j M H, Da L.K L.C M H (g' i j) (g i j)) : RefR2 L (rI0 g) (fInt g') := by
  intro M H x y a b d Q fr ha hb e k
  unfold fInt at e
  split at e
  · cases ha.of_int; cases hb.of_int; cases e
    exact ⟨_, _, rfl, rfl, k _ H same0 (h _ _ _ _)⟩
  · cases e
theorem ref_sub : RefR2 L (rI0 fun i j => V.int (i - j)) (fInt fun i j => .int (i - j)) := ref_int0 fun _ _ _ _ => Da.int
theorem ref_lt : RefR2 L (rI0 fun i j => V.bl (decide (i < j))) (fInt fun i j => .bl (decide (i < j))) := ref_int0 fun _ _ _ _ => Da.bl
theorem ref_le : RefR2 L (rI0 fun i j => V.bl (decide (i ≤ j))) (fInt fun i j => .bl (decide (i ≤ j))) := ref_int0 fun _ _ _ _ => Da.bl
theorem ref_gt : RefR2 L (rI0 fun i j => V.bl (decide (j < i))) (fInt fun i j => .bl (decide (j < i))) := ref_int0 fun _ _ _ _ => Da.bl
theorem ref_ge : RefR2 L (rI0 fun i j => V.bl (decide (j ≤ i))) (fInt fun i j => .bl (decide (j ≤ i))) := ref_int0 fun _ _ _ _ => Da.bl
/-- % by a positive number -/
def fMod : D → D → Option D
  | .int i, .int j => if 0 < j then some (.int (i % j)) else none
  | _, _ => none
theorem ref_mod : RefR2 L (rI (fun _ j => 0 < j) fun i j => V.int (i % j)) fMod := by
  intro M H x y a b d Q fr ha hb e k
  unfold fMod at e
  split at e
  · cases ha.of_int; cases hb.of_int
    split at e
    · cases e; exact ⟨_, _, rfl, rfl, by assumption, k _ H same0 Da.int⟩
    · cases e
  · cases e
def fMul : D → D → Option D
  | .int i, .int j => if -(2 ^ 60) < i ∧ i < 2 ^ 60 then some (.int (i * j)) else none
  | .lst a, .int j => if -1000 < j ∧ j < 1000 ∧ a.length < 1000 then some (.lst (List.replicate j.toNat a).flatten) else none
  | _, _ => none
/-! == -/
def shp (d : D) : Bool := plain d && SeqAt.shaped (pd d)
def scalD : D → D → Bool
  | .non, .non => true | .non, .int _ => true | .int _, .non => true | .non, .bl _ => true | .bl _, .non => true | .non, .str _ => true | .str _, .non => true
  | .int _, .int _ => true | .bl _, .bl _ => true | .str _, .str _ => true
  | .int _, .str _ => true | .str _, .int _ => true | .bl _, .str _ => true | .str _, .bl _ => true
  | _, _ => false
def eqS : D → D → Bool
  | .non, .non => true
  | .int a, .int b => decide (a = b)
  | .bl a, .bl b => decide (a = b)
  | .str a, .str b => decide (a = b)
  | _, _ => false
def eqB (a b : D) : Option Bool := if scalD a b = true then some (eqS a b) else if shp a = true ∧ shp b = true then some (PyData.eqv (pd a) (pd b)) else none
def fEq (a b : D) : Option D := (eqB a b).map .bl
def fNe (a b : D) : Option D := (eqB a b).map fun c => .bl !c
theorem scal_of {M : Addr → Prop} {H : Hp} {a b : D} {x y : V} (ha : Da L.K L.C M H a x) (hb : Da L.K L.C M H b y) (h : scalD a b = true) : scal x y = true ∧ decide (x = y) = eqS a b := by
  cases a <;> cases b <;> first
    | (exfalso; simp [scalD] at h; done)
    | ((first | cases ha.of_non | cases ha.of_int | cases ha.of_bl | cases ha.of_str) <;> (first | cases hb.of_non | cases hb.of_int | cases hb.of_bl | cases hb.of_str) <;> refine ⟨rfl, ?_⟩ <;> simp [eqS])
def rEqA (K : PySem.W.Frag) : R2 := fun x y H Q => rEq x y H Q ∨ rEqD K x y H Q
def rNeA (K : PySem.W.Frag) : R2 := fun x y H Q => rNe x y H Q ∨ rNeD K x y H Q
theorem op_eqA {X : Cx} (hu : X.A.units + 64 < cLine) : OpR X (compareOp .Eq) (rEqA X.K) := op_eq.or (op_eqD hu)
theorem op_neA {X : Cx} (hu : X.A.units + 64 < cLine) : OpR X (compareOp .NotEq) (rNeA X.K) := op_ne.or (op_neD hu)
theorem shp_of {M : Addr → Prop} {H : Hp} {a : D} {x : V} (ha : Da L.K L.C M H a x) (h : shp a = true) : Dp L.K H x (pd a) ∧ SeqAt.shaped (pd a) = true := by
  obtain ⟨h1, h2⟩ := Bool.and_eq_true_iff.mp h
  exact ⟨ha.dp _ _ h1, h2⟩
theorem ref_eq : RefR2 L (rEqA L.K) fEq := by
  intro M H x y a b d Q fr ha hb e k
  unfold fEq eqB at e
  split at e
  · rename_i hs
    obtain ⟨h1, h2⟩ := scal_of ha hb hs
    cases e
    exact .inl ⟨h1, h2 ▸ k _ H same0 Da.bl⟩
  · split at e
    · rename_i hs
      cases e
      obtain ⟨p1, p2⟩ := shp_of ha hs.1
      obtain ⟨q1, q2⟩ := shp_of hb hs.2
      exact .inr ⟨_, _, p1, q1, p2, q2, k _ H same0 Da.bl⟩
    · cases e
theorem ref_ne : RefR2 L (rNeA L.K) fNe := by
  intro M H x y a b d Q fr ha hb e k
  unfold fNe eqB at e
  split at e
  · rename_i hs
    obtain ⟨h1, h2⟩ := scal_of ha hb hs
    cases e
    exact .inl ⟨h1, h2 ▸ k _ H same0 Da.bl⟩
  · split at e
    · rename_i hs
      cases e
      obtain ⟨p1, p2⟩ := shp_of ha hs.1
      obtain ⟨q1, q2⟩ := shp_of hb hs.2
      exact .inr ⟨_, _, p1, q1, p2, q2, k _ H same0 Da.bl⟩
    · cases e
/-! is None -/
def isNon : D → Bool
  | .non => true
  | _ => false
theorem isNon_of {M : Addr → Prop} {H : Hp} {a : D} {x : V} (ha : Da L.K L.C M H a x) : decide (x = .non) = isNon a := by
  cases a with
  | non => cases ha.of_non; rfl
  | int _ => cases ha.of_int; rfl
  | bl _ => cases ha.of_bl; rfl
  | str _ => cases ha.of_str; rfl
  | tup _ => obtain ⟨p, xs, rfl, _⟩ := ha.of_tup; rfl
  | lst _ => obtain ⟨p, xs, rfl, _⟩ := ha.of_lst; rfl
  | dct _ _ => unfold Da at ha; obtain ⟨p, xs, rfl, _⟩ := ha; rfl
  | ins _ _ => unfold Da at ha; obtain ⟨p, xs, _, rfl, _⟩ := ha; rfl
  | lam _ => unfold Da at ha; obtain ⟨f, _, _, _, rfl, _⟩ := ha; rfl
  | fn _ _ => unfold Da at ha; obtain ⟨f, _, _, _, _, _, rfl, _⟩ := ha; rfl
  | exc _ _ => unfold Da at ha; obtain ⟨f, _, _, _, rfl, _⟩ := ha; rfl
def dIsN (t : DT) : DT := dUn (fun d => some (.bl (isNon d))) t
def dNotN (t : DT) : DT := dUn (fun d => some (.bl !(isNon d))) t
theorem r_isN {t : DT} : ∀ σ H Q, lift L (dIsN t) σ H Q → tIsN (lift L t) σ H Q :=
  r_un (r := fun x H Q => Q (.bl (decide (x = .non))) H) fun M H x a d Q fr ha e k => by cases e; rw [isNon_of ha]; exact k _ H same0 Da.bl
theorem r_notN {t : DT} : ∀ σ H Q, lift L (dNotN t) σ H Q → tNotN (lift L t) σ H Q :=
  r_un (r := fun x H Q => Q (.bl (!decide (x = .non))) H) fun M H x a d Q fr ha e k => by cases e; rw [isNon_of ha]; exact k _ H same0 Da.bl
/-! subscripts -/
def fIx : D → D → Option D
  | .tup ds, .int i => atI ds i
  | .lst ds, .int i => atI ds i
  | .str l, .int i => if l.length ≤ 1000000 then (atI l i).map fun c => .str [c] else none
  | _, _ => none
theorem DaL.atI {C : Cl} {M : Addr → Prop} {H : Hp} {ds : List D} {xs : List V} {i : Int} {d : D} (h : DaL K C M H ds xs) (e : atI ds i = some d) : ∃ v, L2.atI xs i = some v ∧ Da K C M H d v := by
  unfold L2.atI at *
  rw [h.length]
  cases q : ixN ds.length i with
  | none => rw [q] at e; cases e
  | some j =>
    rw [q] at e
    exact h.of_get e
theorem ref_ix : RefR2 L (rIx L.K) fIx := by
  intro M H x y a b d Q fr ha hb e k
  unfold fIx at e
  split at e
  · obtain ⟨p, xs, rfl, h1, h2⟩ := ha.of_tup
    cases hb.of_int
    obtain ⟨v, e1, e2⟩ := h2.atI e
    exact .inr (.inl ⟨p, xs, _, v, rfl, rfl, h1, e1, k _ H same0 e2⟩)
  · obtain ⟨p, xs, rfl, h1, h2⟩ := ha.of_lst
    cases hb.of_int
    obtain ⟨v, e1, e2⟩ := h2.atI e
    exact .inl ⟨p, xs, _, v, rfl, rfl, SqL.of h1, e1, k _ H same0 e2⟩
  · cases ha.of_str
    cases hb.of_int
    split at e
    · rename_i l i hl
      cases q : atI l i with
      | none => rw [q] at e; cases e
      | some c =>
        rw [q] at e; cases e
        exact .inr (.inr ⟨_, _, c, rfl, rfl, by rw [S_len]; exact le_line hl, by simpa using q, k _ H same0 Da.str⟩)
    · cases e
  · cases e
/-! len -/
def fLen : List D → Option D
  | [.tup ds] => some (.int ds.length)
  | [.lst ds] => some (.int ds.length)
  | [.str l] => if l.length ≤ 1000000 then some (.int l.length) else none
  | _ => none
theorem ref_len : RefCB L (fun xs H Q => ∃ x n, xs = [x] ∧ LenV L.K x H n ∧ Q (.int n) H) fLen := by
  intro M H xs ds d Q fr ha e k
  unfold fLen at e
  split at e
  · obtain ⟨v, rfl, h⟩ := ha.one
    obtain ⟨p, xs, rfl, h1, h2⟩ := h.of_tup
    cases e
    exact ⟨_, _, rfl, .inr ⟨xs, h1, h2.length.symm⟩, k _ H same0 Da.int⟩
  · obtain ⟨v, rfl, h⟩ := ha.one
    obtain ⟨p, xs, rfl, h1, h2⟩ := h.of_lst
    cases e
    exact ⟨_, _, rfl, .inl ⟨xs, SqL.of h1, h2.length.symm⟩, k _ H same0 Da.int⟩
  · obtain ⟨v, rfl, h⟩ := ha.one
    cases h.of_str
    split at e
    · rename_i hl
      cases e
      exact ⟨_, _, rfl, ⟨by rw [S_len]; exact le_line hl, (S_len _).symm⟩, k _ H same0 Da.int⟩
    · cases e
  · cases e
end

end
end Ag
namespace Ag
open PySem L2
open C8 (pss_cut tCut)
section
variable {P : Program} {w : World} {K : PySem.W.Frag} {mg : Str → Option Value} {base : Heap} {cs : List (Str × Addr)}
section
variable {L : Lx}
/-! and, or, not as values; chains -/
def dAndV (ta tb : DT) : DT := fun ρ R X => ta ρ (fun d ρ1 => match d with | .bl c => if c = true then tb ρ1 R X else R (.bl false) ρ1 | _ => False) X
def dOrV (ta tb : DT) : DT := fun ρ R X => ta ρ (fun d ρ1 => match d with | .bl c => if c = true then R (.bl true) ρ1 else tb ρ1 R X | _ => False) X
def dNotV (ta : DT) : DT := fun ρ R X => ta ρ (fun d ρ1 => match d with | .bl c => R (.bl !c) ρ1 | _ => False) X
theorem r_andV {ta tb : DT} : ∀ σ H Q, lift L (dAndV ta tb) σ H Q → tAndV (lift L ta) (lift L tb) σ H Q := by
  rintro σ H Q ⟨F, ρ, R, X, er, ht, hR, hX⟩
  refine ⟨F, ρ, _, X, er, ht, fun d ρ1 x H1 h1 st1 er1 da => ?_, hX⟩
  cases d with
  | bl c =>
    refine ⟨c, Da.of_bl da, ?_⟩
    cases c with
    | true => exact ⟨F, ρ1, R, X, er1, h1, fun d ρ2 v H2 hr st2 er2 rel => hR d ρ2 v H2 hr (st1.trans st2) er2 rel, fun x ρ' H' cls dc hx st er' xr => hX x ρ' H' cls dc hx (st1.trans st) er' xr⟩
    | false => exact hR _ ρ1 _ H1 h1 st1 er1 Da.bl
  | _ => exact h1.elim
theorem r_orV {ta tb : DT} : ∀ σ H Q, lift L (dOrV ta tb) σ H Q → tOrV (lift L ta) (lift L tb) σ H Q := by
  rintro σ H Q ⟨F, ρ, R, X, er, ht, hR, hX⟩
  refine ⟨F, ρ, _, X, er, ht, fun d ρ1 x H1 h1 st1 er1 da => ?_, hX⟩
  cases d with
  | bl c =>
    refine ⟨c, Da.of_bl da, ?_⟩
    cases c with
    | false => exact ⟨F, ρ1, R, X, er1, h1, fun d ρ2 v H2 hr st2 er2 rel => hR d ρ2 v H2 hr (st1.trans st2) er2 rel, fun x ρ' H' cls dc hx st er' xr => hX x ρ' H' cls dc hx (st1.trans st) er' xr⟩
    | true => exact hR _ ρ1 _ H1 h1 st1 er1 Da.bl
  | _ => exact h1.elim
theorem r_notV {ta : DT} : ∀ σ H Q, lift L (dNotV ta) σ H Q → tNotV (lift L ta) σ H Q := by
  rintro σ H Q ⟨F, ρ, R, X, er, ht, hR, hX⟩
  refine ⟨F, ρ, _, X, er, ht, fun d ρ1 x H1 h1 st1 er1 da => ?_, hX⟩
  cases d with
  | bl c => exact ⟨c, Da.of_bl da, hR _ ρ1 _ H1 h1 st1 er1 Da.bl⟩
  | _ => exact h1.elim
def dChain (f f' : D → D → Option D) (ta tb tc : DT) : DT := fun ρ R X => ta ρ (fun a ρ1 => tb ρ1 (fun b ρ2 => ok (f a b) fun z => match z with
  | .bl c => if c = true then tc ρ2 (fun e ρ3 => ok (f' b e) fun d => R d ρ3) X else R (.bl false) ρ2
  | _ => False) X) X
theorem r_chain {r r' : R2} {f f' : D → D → Option D} {ta tb tc : DT} (h : RefR2 L r f) (h' : RefR2 L r' f') : ∀ σ H Q, lift L (dChain f f' ta tb tc) σ H Q → tChain r r' (lift L ta) (lift L tb) (lift L tc) σ H Q := by
  rintro σ H Q ⟨F, ρ, R, X, er, ht, hR, hX⟩
  refine ⟨F, ρ, _, X, er, ht, fun a ρ1 x H1 h1 st1 er1 da => ?_, hX⟩
  refine ⟨F, ρ1, _, X, er1, h1, fun b ρ2 y H2 h2 st2 er2 db => ?_, fun x ρ' H' cls dc hx st er' xr => hX x ρ' H' cls dc hx (st1.trans st) er' xr⟩
  obtain ⟨z, e, hr⟩ := h2
  refine h _ H2 x y a b z _ (fun p hp => er2.newMM hp) (er1.da st2 da) db e fun v H3 sm dd => ?_
  have st3 := st1.trans (st2.trans (Step.same sm))
  have er3 := er2.same sm
  cases z with
  | bl c =>
    refine ⟨c, Da.of_bl dd, ?_⟩
    cases c with
    | false => exact hR _ ρ2 _ H3 hr st3 er3 Da.bl
    | true =>
      refine ⟨F, ρ2, _, X, er3, hr, fun e ρ4 w H4 h4 st4 er4 de => ?_, fun x ρ' H' cls dc hx st er' xr => hX x ρ' H' cls dc hx (st3.trans st) er' xr⟩
      obtain ⟨d, e2, hq⟩ := h4
      exact h' _ H4 y w b e d Q (fun p hp => er4.newMM hp) (er3.da st4 (db.same sm)) de e2 fun v H5 sm5 d5 => hR d ρ4 v H5 hq (st3.trans (st4.trans (Step.same sm5))) (er4.same sm5) d5
  | _ => exact hr.elim
/-! in -/
def flatD : D → Bool
  | .non => true | .bl _ => true | .int _ => true | .str _ => true | _ => false
def eqF : D → D → Bool
  | .non, .non => true
  | .bl a, .bl b => a == b
  | .bl a, .int b => (if a then 1 else 0) == b
  | .int a, .bl b => a == (if b then 1 else 0)
  | .int a, .int b => a == b
  | .str a, .str b => a == b
  | _, _ => false
def inF (x : D) (ds : List D) : Bool := ds.any fun y => eqF y x
theorem flat_of {M : Addr → Prop} {H : Hp} {d : D} {v : V} (h : Da L.K L.C M H d v) (f : flatD d = true) : flatV v = true := by
  cases d <;> first
    | (exfalso; simp [flatD] at f; done)
    | ((first | cases h.of_non | cases h.of_int | cases h.of_bl | cases h.of_str) <;> rfl)
theorem eqF_of {M : Addr → Prop} {H : Hp} {d e : D} {v u : V} (h : Da L.K L.C M H d v) (h' : Da L.K L.C M H e u) (f : flatD d = true) (f' : flatD e = true) : eqV v u = eqF d e := by
  have SXe : ∀ a b : List Nat, (SX.S a == SX.S b) = (a == b) := fun a b => by
    rw [Bool.eq_iff_iff]
    simp
  cases d <;> cases e <;> first
    | (exfalso; simp [flatD] at f; done)
    | (exfalso; simp [flatD] at f'; done)
    | ((first | cases h.of_non | cases h.of_int | cases h.of_bl | cases h.of_str) <;> (first | cases h'.of_non | cases h'.of_int | cases h'.of_bl | cases h'.of_str) <;> first | rfl | exact SXe _ _)
theorem flats_of {M : Addr → Prop} {H : Hp} : ∀ {ds : List D} {vs : List V}, DaL L.K L.C M H ds vs → ds.all flatD = true → vs.all flatV = true
  | [], vs, h, f => by unfold DaL at h; rw [h]; rfl
  | d :: ds, vs, h, f => by
    unfold DaL at h
    obtain ⟨v, r, rfl, h1, h2⟩ := h
    rw [List.all_cons, Bool.and_eq_true_iff] at f
    rw [List.all_cons, flat_of h1 f.1, flats_of h2 f.2]; rfl
theorem inF_of {M : Addr → Prop} {H : Hp} {x : D} {v : V} (hx : Da L.K L.C M H x v) (fx : flatD x = true) : ∀ {ds : List D} {vs : List V}, DaL L.K L.C M H ds vs → ds.all flatD = true → inV v vs = inF x ds
  | [], vs, h, f => by unfold DaL at h; rw [h]; rfl
  | d :: ds, vs, h, f => by
    unfold DaL at h
    obtain ⟨w, r, rfl, h1, h2⟩ := h
    rw [List.all_cons, Bool.and_eq_true_iff] at f
    have ih := inF_of hx fx h2 f.2
    unfold inV inF at *
    rw [List.any_cons, List.any_cons, ih, eqF_of h1 hx f.1 fx]
def inB : D → D → Option Bool
  | x, .tup ds => if flatD x = true ∧ ds.all flatD = true then some (inF x ds) else none
  | x, .lst ds => if flatD x = true ∧ ds.all flatD = true then some (inF x ds) else none
  | .str [c], .str l => some (decide (c ∈ l))
  | _, _ => none
def fIn (a b : D) : Option D := (inB a b).map .bl
def fNotIn (a b : D) : Option D := (inB a b).map fun c => .bl !c
def rInA (K : PySem.W.Frag) : R2 := fun x y H Q => rIn K false x y H Q ∨ (∃ (c : Nat) (z : Str), x = .str ⟨#[c]⟩ ∧ y = .str z ∧ Q (.bl (decide (c ∈ z.cps.toList))) H)
def rNotInA (K : PySem.W.Frag) : R2 := fun x y H Q => rIn K true x y H Q ∨ (∃ (c : Nat) (z : Str), x = .str ⟨#[c]⟩ ∧ y = .str z ∧ Q (.bl (!decide (c ∈ z.cps.toList))) H)
theorem op_inA {X : Cx} : OpR X (compareOp .In) (rInA X.K) := op_in_seq.or op_in_sign
theorem op_notInA {X : Cx} : OpR X (compareOp .NotIn) (rNotInA X.K) := op_notIn_seq.or op_notIn_sign
theorem ref_in : RefR2 L (rInA L.K) fIn := by
  intro M H x y a b d Q fr ha hb e k
  unfold fIn inB at e
  split at e
  · split at e
    · rename_i hf
      cases e
      obtain ⟨p, xs, rfl, h1, h2⟩ := hb.of_tup
      refine .inl ⟨p, xs, rfl, .inr h1, flat_of ha hf.1, flats_of h2 hf.2, ?_⟩
      rw [inF_of ha hf.1 h2 hf.2]
      exact k _ H same0 Da.bl
    · cases e
  · split at e
    · rename_i hf
      cases e
      obtain ⟨p, xs, rfl, h1, h2⟩ := hb.of_lst
      refine .inl ⟨p, xs, rfl, .inl (SqL.of h1), flat_of ha hf.1, flats_of h2 hf.2, ?_⟩
      rw [inF_of ha hf.1 h2 hf.2]
      exact k _ H same0 Da.bl
    · cases e
  · cases ha.of_str; cases hb.of_str; cases e
    exact .inr ⟨_, _, rfl, rfl, by simpa using k _ H same0 Da.bl⟩
  · cases e
theorem ref_notIn : RefR2 L (rNotInA L.K) fNotIn := by
  intro M H x y a b d Q fr ha hb e k
  unfold fNotIn inB at e
  split at e
  · split at e
    · rename_i hf
      cases e
      obtain ⟨p, xs, rfl, h1, h2⟩ := hb.of_tup
      refine .inl ⟨p, xs, rfl, .inr h1, flat_of ha hf.1, flats_of h2 hf.2, ?_⟩
      rw [inF_of ha hf.1 h2 hf.2]
      exact k _ H same0 Da.bl
    · cases e
  · split at e
    · rename_i hf
      cases e
      obtain ⟨p, xs, rfl, h1, h2⟩ := hb.of_lst
      refine .inl ⟨p, xs, rfl, .inl (SqL.of h1), flat_of ha hf.1, flats_of h2 hf.2, ?_⟩
      rw [inF_of ha hf.1 h2 hf.2]
      exact k _ H same0 Da.bl
    · cases e
  · cases ha.of_str; cases hb.of_str; cases e
    exact .inr ⟨_, _, rfl, rfl, by simpa using k _ H same0 Da.bl⟩
  · cases e
/-! isinstance -/
def tyD : D → Option String
  | .non => some "NoneType" | .bl _ => some "bool" | .int _ => some "int" | .str _ => some "str" | .lst _ => some "list" | .tup _ => some "tuple" | .dct _ _ => some "dict" | _ => none
theorem RT.tyx {K : PySem.W.Frag} {M : Addr → Prop} {H : Hp} {a : Addr} {xs : List V} (h : RT K M H a xs) : TyX K H (.ref a) (.type "tuple") := by
  rcases h with h | ⟨o, its, n, h1, h2, _⟩
  · exact .base (.tup h.2)
  · exact .kTuple h1 h2
theorem Da.tyx {K : PySem.W.Frag} {C : Cl} {M : Addr → Prop} {H : Hp} {d : D} {v : V} {t : String} (h : Da K C M H d v) (e : tyD d = some t) : TyX K H v (.type t) := by
  cases d with
  | non => cases h.of_non; cases e; exact .base .non
  | bl b => cases h.of_bl; cases e; exact .base (.bl b)
  | int i => cases h.of_int; cases e; exact .base (.int i)
  | str x => cases h.of_str; cases e; exact .base (.str _)
  | lst ds => obtain ⟨a, xs, rfl, h1, _⟩ := h.of_lst; cases e; exact .base (.lst h1)
  | tup ds => obtain ⟨a, xs, rfl, h1, _⟩ := h.of_tupR; cases e; exact h1.tyx
  | dct ks ds => unfold Da at h; obtain ⟨a, xs, rfl, _, h1, _⟩ := h; cases e; exact .base (.dK h1)
  | ins c fs => cases e
  | lam i => cases e
  | fn i ds => cases e
  | exc c fs => cases e
/-- is a thing of the type t a T -/
def subT (T t : String) : Bool := t == T || (t == "bool" && T == "int")
theorem kitB_all : ∀ T ∈ ["int", "bool", "str", "tuple", "list", "dict"], ∀ t ∈ ["NoneType", "bool", "int", "str", "list", "tuple", "dict"], kitB t T = some (subT T t) := by decide +kernel
theorem tyD_mem {d : D} {t : String} (e : tyD d = some t) : t ∈ ["NoneType", "bool", "int", "str", "list", "tuple", "dict"] := by
  cases d <;> (unfold tyD at e; cases e) <;> decide
def dIsi (T : String) (t : DT) : DT := dUn (fun d => (tyD d).map fun u => .bl (subT T u)) t
theorem r_isi {T : String} {t : DT} (hT : T ∈ ["int", "bool", "str", "tuple", "list", "dict"]) : ∀ σ H Q, lift L (dIsi T t) σ H Q → tCB (rIsi L.K) (tCons (lift L t) (tCons (tC (.ty T)) tNil)) σ H Q :=
  r_un (r := fun x H Q => rIsi L.K [x, .ty T] H Q) fun M H x a d Q fr ha e k => by
    cases q : tyD a with
    | none => rw [q] at e; cases e
    | some u =>
      rw [q] at e; cases e
      exact ⟨x, .ty T, _, _, _, rfl, .ty T, ha.tyx q, kit_ty (kitB_all T hT u (tyD_mem q)), k _ H same0 Da.bl⟩
def dIsi2 (T U : String) (t : DT) : DT := dUn (fun d => (tyD d).map fun u => .bl (subT T u || subT U u)) t
theorem kitAnyB {t a b : String} {x y : Bool} (h1 : kitB t a = some x) (h2 : kitB t b = some y) : PySem.W.kitAny L.K (.type t) [.type a, .type b] = some (x || y) := by
  refine kitAny_cons (kit_ty h1) (fun e => ?_) (fun e => by rw [e]; rfl)
  subst e
  refine kitAny_cons (kit_ty h2) (fun e => ?_) (fun e => by rw [e]; rfl)
  rw [e]
  exact kitAny_nil
theorem r_isi2 {T U : String} {t : DT} (hT : T ∈ ["int", "bool", "str", "tuple", "list", "dict"]) (hU : U ∈ ["int", "bool", "str", "tuple", "list", "dict"]) :
    ∀ σ H Q, lift L (dIsi2 T U t) σ H Q → tCB (rIsiT L.K) (tCons (lift L t) (tCons (tTup (tCons (tC (.ty T)) (tCons (tC (.ty U)) tNil))) tNil)) σ H Q :=
  r_un (r := fun x H Q => (2 ≤ sizeLine ∧ ∀ p, H p = none → rIsiT L.K [x, .ref p] (upd H p (.tup [.ty T, .ty U])) Q)) fun M H x a d Q fr ha e k => by
    cases q : tyD a with
    | none => rw [q] at e; cases e
    | some u =>
      rw [q] at e; cases e
      refine ⟨by decide, fun p hp => ?_⟩
      have sm : Same H (upd H p (.tup [.ty T, .ty U])) := Same.laid _ hp
      exact ⟨x, p, _, _, [.type T, .type U], _, rfl, upd_same, .cons (.ty T) (.cons (.ty U) .nil), (ha.same sm).tyx q, kitAnyB (kitB_all T hT u (tyD_mem q)) (kitB_all U hU u (tyD_mem q)), k _ _ sm Da.bl⟩
/-! slices -/
def rO : Fx → (Addr → Prop) → Hp → Option Int → Option Int → Prop := fun _ _ _ a b => b = a
abbrev liftO (L : Lx) (t : DG (Option Int)) : TO := lf L rO t
theorem toO {X : Cx} {e : Option Expr} {t t' : TO} (h : PO X e t) (m : ∀ σ H Q, t' σ H Q → t σ H Q) : PO X e t' := ⟨fun pins s σ H Q I q => h.run pins s σ H Q I (m σ H Q q)⟩
def dNoPart : DG (Option Int) := fun ρ R _ => R none ρ
def dPart (t : DT) : DG (Option Int) := fun ρ R X => t ρ (fun d ρ1 => match d with | .int i => R (some i) ρ1 | _ => False) X
theorem r_noPart : ∀ σ H Q, liftO L dNoPart σ H Q → tNoPart σ H Q := by
  rintro σ H Q ⟨F, ρ, R, X, er, ht, hR, hX⟩
  exact hR none ρ none H ht Step.refl er rfl
theorem r_part {t : DT} : ∀ σ H Q, liftO L (dPart t) σ H Q → tPart (lift L t) σ H Q := by
  rintro σ H Q ⟨F, ρ, R, X, er, ht, hR, hX⟩
  refine ⟨F, ρ, _, X, er, ht, fun d ρ1 x H1 h1 st1 er1 da => ?_, hX⟩
  cases d with
  | int i => exact ⟨i, Da.of_int da, hR _ ρ1 _ H1 h1 st1 er1 rfl⟩
  | _ => exact h1.elim
def cutL {α : Type} (xs : List α) (lo hi : Option Int) : List α := (xs.drop (HT.sIx xs.length 0 lo)).take (HT.sIx xs.length xs.length hi - HT.sIx xs.length 0 lo)
def fSl : D → Option Int → Option Int → Option D
  | .lst ds, lo, hi => some (.lst (cutL ds lo hi))
  | .tup ds, lo, hi => some (.tup (cutL ds lo hi))
  | .str l, lo, hi => if l.length ≤ 1000000 then some (.str (cutL l lo hi)) else none
  | _, _, _ => none
def rSlU (K : PySem.W.Frag) : V → Option Int → Option Int → Hp → VK → Prop := fun x lo hi H Q => (rSlL K x lo hi H Q ∨ rSlA K x lo hi H Q) ∨ rSlS x lo hi H Q
theorem sl_any {X : Cx} : SlR X (rSlU X.K) := (sl_list.or sl_tupA).or sl_str
theorem cut_whole {α : Type} {xs : List α} {lo hi : Option Int} (h : HT.sIx xs.length 0 lo = 0 ∧ HT.sIx xs.length xs.length hi = xs.length) : cutL xs lo hi = xs := by
  unfold cutL
  rw [h.1, h.2]
  simp
theorem DaL.cut {C : Cl} {M : Addr → Prop} {H : Hp} {ds : List D} {xs : List V} (h : DaL K C M H ds xs) (lo hi : Option Int) : DaL K C M H (cutL ds lo hi) (cutV xs lo hi) := by
  unfold cutL cutV
  rw [h.length]
  exact (h.drop _).take _
theorem slice_S (l : List Nat) (lo hi : Option Int) : cutS (SX.S l) lo hi = SX.S (cutL l lo hi) := by
  unfold cutS cutL
  rw [S_len]
def dSl (te : DT) (tl th : DG (Option Int)) : DT := fun ρ R X => te ρ (fun a ρ1 => tl ρ1 (fun lo ρ2 => th ρ2 (fun hi ρ3 => ok (fSl a lo hi) fun d => R d ρ3) X) X) X
theorem r_sl {te : DT} {tl th : DG (Option Int)} : ∀ σ H Q, lift L (dSl te tl th) σ H Q → tSl (rSlU L.K) (lift L te) (liftO L tl) (liftO L th) σ H Q := by
  rintro σ H Q ⟨F, ρ, R, X, er, ht, hR, hX⟩
  refine ⟨F, ρ, _, X, er, ht, fun a ρ1 x H1 h1 st1 er1 da => ?_, hX⟩
  refine ⟨F, ρ1, _, X, er1, h1, fun lo ρ2 lo' H2 h2 st2 er2 e2 => ?_, fun x ρ' H' cls dc hx st er' xr => hX x ρ' H' cls dc hx (st1.trans st) er' xr⟩
  refine ⟨F, ρ2, _, X, er2, h2, fun hi ρ3 hi' H3 h3 st3 er3 e3 => ?_, fun x ρ' H' cls dc hx st er' xr => hX x ρ' H' cls dc hx (st1.trans (st2.trans st)) er' xr⟩
  cases e2; cases e3
  have da' := er2.da st3 (er1.da st2 da)
  have st := st1.trans (st2.trans st3)
  obtain ⟨d, e, hr⟩ := h3
  unfold fSl at e
  split at e
  · cases e
    obtain ⟨p, xs, rfl, q1, q2⟩ := da'.of_lst
    refine .inl (.inl ⟨p, xs, rfl, SqL.of q1, fun l hl => ?_⟩)
    have sm : Same H3 (upd H3 l (.lst (cutV xs lo hi))) := Same.laid _ hl
    exact hR _ ρ3 _ _ hr (st.trans (Step.same sm)) (er3.same sm) (Da.lst (er3.newMM hl) upd_same ((q2.cut _ _).same sm))
  · cases e
    obtain ⟨p, xs, rfl, q1, q2⟩ := da'.of_tupR
    refine .inl (.inr ⟨p, xs, rfl, q1.sq, fun w => ?_, fun w l hl => ?_⟩)
    · refine hR _ ρ3 _ _ hr st er3 ?_
      rw [q2.length] at w
      rw [cut_whole w]
      exact Da.tup q1 q2
    · have sm : Same H3 (upd H3 l (.tup (cutV xs lo hi))) := Same.laid _ hl
      exact hR _ ρ3 _ _ hr (st.trans (Step.same sm)) (er3.same sm) (Da.tup (.inl ⟨er3.newMM hl, upd_same⟩) ((q2.cut _ _).same sm))
  · split at e
    · rename_i hl
      cases e
      cases da'.of_str
      refine .inr ⟨_, rfl, by rw [S_len]; exact le_line hl, ?_⟩
      rw [slice_S]
      exact hR _ ρ3 _ _ hr st er3 Da.str
    · cases e
  · cases e
/-! all, any, list, tuple, int -/
def bools : List D → Option (List Bool)
  | [] => some []
  | .bl b :: r => (bools r).map (b :: ·)
  | _ => none
theorem bools_of {M : Addr → Prop} {H : Hp} : ∀ {ds : List D} {vs : List V} {bs : List Bool}, DaL L.K L.C M H ds vs → bools ds = some bs → vs = bs.map V.bl
  | [], vs, bs, h, e => by unfold DaL at h; unfold bools at e; cases e; exact h
  | d :: ds, vs, bs, h, e => by
    unfold DaL at h
    obtain ⟨v, r, rfl, h1, h2⟩ := h
    cases d with
    | bl b =>
      unfold bools at e
      cases q : bools ds with
      | none => rw [q] at e; cases e
      | some cs =>
        rw [q] at e; cases e
        cases h1.of_bl
        rw [bools_of h2 q]; rfl
    | _ => cases e
def fAll : List D → Option D
  | [.lst ds] => (bools ds).map fun bs => .bl (bs.all id)
  | _ => none
def fAny : List D → Option D
  | [.lst ds] => (bools ds).map fun bs => .bl (bs.any id)
  | _ => none
theorem ref_all : RefCB L (rAll L.K) fAll := by
  intro M H xs ds d Q fr ha e k
  unfold fAll at e
  split at e
  · rename_i ds
    obtain ⟨v, rfl, h⟩ := ha.one
    obtain ⟨p, ys, rfl, h1, h2⟩ := h.of_lst
    cases q : bools ds with
    | none => rw [q] at e; cases e
    | some bs =>
      rw [q] at e; cases e
      rw [bools_of h2 q] at h1
      exact ⟨p, bs, rfl, SqL.of h1, k _ H same0 Da.bl⟩
  · cases e
theorem ref_any : RefCB L (rAny L.K) fAny := by
  intro M H xs ds d Q fr ha e k
  unfold fAny at e
  split at e
  · rename_i ds
    obtain ⟨v, rfl, h⟩ := ha.one
    obtain ⟨p, ys, rfl, h1, h2⟩ := h.of_lst
    cases q : bools ds with
    | none => rw [q] at e; cases e
    | some bs =>
      rw [q] at e; cases e
      rw [bools_of h2 q] at h1
      exact ⟨p, bs, rfl, SqL.of h1, k _ H same0 Da.bl⟩
  · cases e
def fList : List D → Option D
  | [.lst ds] => some (.lst ds)
  | [.tup ds] => some (.lst ds)
  | _ => none
theorem ref_list : RefCB L (fun xs H Q => ∃ p ys, xs = [.ref p] ∧ (SqL L.K H p ys ∨ SqT L.K H p ys) ∧ ∀ l, H l = none → Q (.ref l) (upd H l (.lst ys))) fList := by
  intro M H xs ds d Q fr ha e k
  unfold fList at e
  split at e
  · obtain ⟨v, rfl, h⟩ := ha.one
    obtain ⟨p, ys, rfl, h1, h2⟩ := h.of_lst
    cases e
    exact ⟨p, ys, rfl, .inl (SqL.of h1), fun l hl => k _ _ (Same.laid _ hl) (Da.lst (fr l hl) upd_same (h2.same (Same.laid _ hl)))⟩
  · obtain ⟨v, rfl, h⟩ := ha.one
    obtain ⟨p, ys, rfl, h1, h2⟩ := h.of_tup
    cases e
    exact ⟨p, ys, rfl, .inr h1, fun l hl => k _ _ (Same.laid _ hl) (Da.lst (fr l hl) upd_same (h2.same (Same.laid _ hl)))⟩
  · cases e
def fTuple : List D → Option D
  | [.lst ds] => some (.tup ds)
  | [.tup ds] => some (.tup ds)
  | _ => none
theorem ref_tuple : RefCB L (fun xs H Q => ∃ p ys, xs = [.ref p] ∧ ((SqL L.K H p ys ∧ ∀ l, H l = none → Q (.ref l) (upd H l (.tup ys))) ∨ (SqT L.K H p ys ∧ Q (.ref p) H))) fTuple := by
  intro M H xs ds d Q fr ha e k
  unfold fTuple at e
  split at e
  · obtain ⟨v, rfl, h⟩ := ha.one
    obtain ⟨p, ys, rfl, h1, h2⟩ := h.of_lst
    cases e
    exact ⟨p, ys, rfl, .inl ⟨SqL.of h1, fun l hl => k _ _ (Same.laid _ hl) (Da.tup (.inl ⟨fr l hl, upd_same⟩) (h2.same (Same.laid _ hl)))⟩⟩
  · obtain ⟨v, rfl, h⟩ := ha.one
    obtain ⟨p, ys, rfl, h1, h2⟩ := h.of_tupR
    cases e
    exact ⟨p, ys, rfl, .inr ⟨h1.sq, k _ H same0 (Da.tup h1 h2)⟩⟩
  · cases e
def fToInt : List D → Option D
  | [.int i] => some (.int i)
  | [.bl b] => some (.int (if b then 1 else 0))
  | _ => none
theorem ref_toInt : RefCB L (fun xs H Q => (∃ i, xs = [.int i] ∧ Q (.int i) H) ∨ ∃ k, xs = [.bl k] ∧ Q (.int (if k then 1 else 0)) H) fToInt := by
  intro M H xs ds d Q fr ha e k
  unfold fToInt at e
  split at e
  · obtain ⟨v, rfl, h⟩ := ha.one
    cases h.of_int; cases e
    exact .inl ⟨_, rfl, k _ H same0 Da.int⟩
  · obtain ⟨v, rfl, h⟩ := ha.one
    cases h.of_bl; cases e
    exact .inr ⟨_, rfl, k _ H same0 Da.int⟩
  · cases e
end

end
end Ag
namespace Ag
open PySem L2
open C8 (pss_cut tCut)
section
variable {P : Program} {w : World} {K : PySem.W.Frag} {mg : Str → Option Value} {base : Heap} {cs : List (Str × Addr)}
/-! statements over data -/
structure DEn where
  nx : En → Prop
  rt : D → Prop
  bk : En → Prop := fun _ => False
  ct : En → Prop := fun _ => False
  ex : XP := fun _ _ => False
abbrev DS := DEn → En → Prop
structure Gd (L : Lx) (F : Fx) (σ : St) (ρ : En) (H : Hp) (G : DEn) (E : Ends) : Prop where
  nx : ∀ σ' ρ' H', G.nx ρ' → Step F σ ρ H σ' ρ' H' → ER L.K L.C F H' σ' ρ' → E.nx σ' H'
  rt : ∀ d v σ' ρ' H', G.rt d → Step F σ ρ H σ' ρ' H' → ER L.K L.C F H' σ' ρ' → Da L.K L.C F.M H' d v → E.rt v H'
  bk : ∀ σ' ρ' H', G.bk ρ' → Step F σ ρ H σ' ρ' H' → ER L.K L.C F H' σ' ρ' → E.bk σ' H'
  ct : ∀ σ' ρ' H', G.ct ρ' → Step F σ ρ H σ' ρ' H' → ER L.K L.C F H' σ' ρ' → E.ct σ' H'
  ex : ∀ x σ' ρ' H' cls dc, G.ex x ρ' → Step F σ ρ H σ' ρ' H' → ER L.K L.C F H' σ' ρ' → XRel L.K L.C (MM F σ' ρ') H' x cls dc → L.E cls dc H'
def liftS (L : Lx) (t : DS) : L2.TS := fun E σ H => ∃ (F : Fx) (ρ : En) (G : DEn), ER L.K L.C F H σ ρ ∧ t G ρ ∧ Gd L F σ ρ H G E
theorem toS {X : Cx} {e : Stmt} {t t' : L2.TS} (h : PS X e t) (m : ∀ D σ H, t' D σ H → t D σ H) : PS X e t' := ⟨fun pins s σ H D I q => h.run pins s σ H D I (m D σ H q)⟩
theorem toSs {X : Cx} {e : List Stmt} {t t' : L2.TS} (h : PSs X e t) (m : ∀ D σ H, t' D σ H → t D σ H) : PSs X e t' := ⟨fun pins s σ H D I q => h.run pins s σ H D I (m D σ H q)⟩
section
variable {L : Lx} {F : Fx} {H H' : Hp} {σ σ' : St} {ρ ρ' : En} {G : DEn} {E : Ends}
/-- later -/
theorem Gd.after (g : Gd L F σ ρ H G E) (st : Step F σ ρ H σ' ρ' H') : Gd L F σ' ρ' H' G E :=
  ⟨fun a b c h s e => g.nx a b c h (st.trans s) e, fun d v a b c h s e q => g.rt d v a b c h (st.trans s) e q, fun a b c h s e => g.bk a b c h (st.trans s) e, fun a b c h s e => g.ct a b c h (st.trans s) e, fun x a b c cl dc h s e q => g.ex x a b c cl dc h (st.trans s) e q⟩
theorem Gd.lfx (g : Gd L F σ ρ H G E) : ∀ x ρ' H' cls dc, G.ex x ρ' → Step F σ ρ H σ ρ' H' → ER L.K L.C F H' σ ρ' → XRel L.K L.C (MM F σ ρ') H' x cls dc → L.E cls dc H' := fun x ρ' H' cls dc h s e q => g.ex x σ ρ' H' cls dc h s e q
/-! blocks -/
def dNext : DS := fun G ρ => G.nx ρ
def dSeq (t u : DS) : DS := fun G ρ => t { G with nx := u G } ρ
theorem s_next : ∀ E σ H, liftS L dNext E σ H → tNext E σ H := by
  rintro E σ H ⟨F, ρ, G, er, ht, g⟩
  exact g.nx σ ρ H ht Step.refl er
theorem s_seq {t u : DS} : ∀ E σ H, liftS L (dSeq t u) E σ H → tSeq (liftS L t) (liftS L u) E σ H := by
  rintro E σ H ⟨F, ρ, G, er, ht, g⟩
  exact ⟨F, ρ, _, er, ht, ⟨fun σ1 ρ1 H1 h st er1 => ⟨F, ρ1, G, er1, h, g.after st⟩, g.rt, g.bk, g.ct, g.ex⟩⟩
def dRet (te : DT) : DS := fun G ρ => te ρ (fun d _ => G.rt d) G.ex
theorem s_ret {te : DT} : ∀ E σ H, liftS L (dRet te) E σ H → tRet (lift L te) E σ H := by
  rintro E σ H ⟨F, ρ, G, er, ht, g⟩
  exact ⟨F, ρ, _, G.ex, er, ht, fun d ρ1 v H1 h st er1 da => g.rt d v σ ρ1 H1 h st er1 (Da.weak (fun _ z => .inl z) da), g.lfx⟩
def dRetN : DS := fun G _ => G.rt .non
theorem s_retN : ∀ E σ H, liftS L dRetN E σ H → tRetN E σ H := by
  rintro E σ H ⟨F, ρ, G, er, ht, g⟩
  exact g.rt .non .non σ ρ H ht Step.refl er Da.non
def dDrop (te : DT) : DS := fun G ρ => te ρ (fun _ ρ1 => G.nx ρ1) G.ex
theorem s_drop {te : DT} : ∀ E σ H, liftS L (dDrop te) E σ H → tDrop (lift L te) E σ H := by
  rintro E σ H ⟨F, ρ, G, er, ht, g⟩
  exact ⟨F, ρ, _, G.ex, er, ht, fun d ρ1 v H1 h st er1 da => g.nx σ ρ1 H1 h st er1, g.lfx⟩
def dIfS (c : DG Bool) (t u : DS) : DS := fun G ρ => c ρ (fun b ρ1 => if b = true then t G ρ1 else u G ρ1) G.ex
theorem s_if {c : DG Bool} {t u : DS} : ∀ E σ H, liftS L (dIfS c t u) E σ H → tIfS (liftT L c) (liftS L t) (liftS L u) E σ H := by
  rintro E σ H ⟨F, ρ, G, er, ht, g⟩
  refine ⟨F, ρ, _, G.ex, er, ht, fun b ρ1 b' H1 h1 st1 er1 e => ?_, g.lfx⟩
  cases e
  cases b <;> exact ⟨F, ρ1, G, er1, h1, g.after st1⟩
def dNever : DS := fun _ _ => False
theorem s_never : ∀ E σ H, liftS L dNever E σ H → tNever E σ H := by
  rintro E σ H ⟨F, ρ, G, er, ht, g⟩
  exact ht
def dBreak : DS := fun G ρ => G.bk ρ
def dCont : DS := fun G ρ => G.ct ρ
theorem s_break : ∀ E σ H, liftS L dBreak E σ H → tBreak E σ H := by
  rintro E σ H ⟨F, ρ, G, er, ht, g⟩
  exact g.bk σ ρ H ht Step.refl er
theorem s_cont : ∀ E σ H, liftS L dCont E σ H → tCont E σ H := by
  rintro E σ H ⟨F, ρ, G, er, ht, g⟩
  exact g.ct σ ρ H ht Step.refl er
/-! targets -/
theorem ER.set {K : PySem.W.Frag} {C : Cl} {i : Nat} {d : D} {v : V} (r : ER K C F H σ ρ) (hd : Da K C (MM F σ ρ) H d v) : Step F σ ρ H (σ.set i (some v)) (ρ.set i (.dat d)) H ∧ ER K C F H (σ.set i (some v)) (ρ.set i (.dat d)) := by
  have sub : ∀ a, Own (σ.set i (some v)) (ρ.set i (.dat d)) a → Own σ ρ a := fun a z => by
    obtain ⟨j, u, ne, h1, h2, h3⟩ := own_set rfl z
    rw [List.getElem?_set_ne (Ne.symm ne)] at h3
    exact ⟨j, u, h1, h2, h3⟩
  have subM : ∀ a, MM F (σ.set i (some v)) (ρ.set i (.dat d)) a → MM F σ ρ a := fun a z => z.elim .inl fun q => .inr (sub a q)
  refine ⟨fun a o e n _ => ⟨e, fun z => n (sub a z)⟩, ⟨by rw [List.length_set, List.length_set]; exact r.len, fun j u w h1 h2 => ?_, fun j k u u' a h1 h2 h3 h4 h5 h6 => ?_, r.bag, r.there, r.tb⟩⟩
  · by_cases e : j = i
    · subst e
      by_cases hj : j < σ.length
      · rw [List.getElem?_set_self hj] at h2
        rw [List.getElem?_set_self (by rw [← r.len]; exact hj)] at h1
        cases h1; cases h2
        exact ⟨v, rfl, hd.weak subM⟩
      · rw [List.getElem?_eq_none (by rw [List.length_set]; omega)] at h2
        cases h2
    · rw [List.getElem?_set_ne (Ne.symm e)] at h1 h2
      have q := r.slot j u w h1 h2
      cases u with
      | no => exact trivial
      | dat d' => obtain ⟨x, e, z⟩ := q; exact ⟨x, e, z.weak subM⟩
      | own ds => obtain ⟨l, xs, e, n, h1, h2⟩ := q; exact ⟨l, xs, e, n, h1, h2.weak subM⟩
      | ownD ks ds => obtain ⟨l, xs, e, n, h1, h3, h2⟩ := q; exact ⟨l, xs, e, n, h1, h3, h2.weak subM⟩
      | ownI c ns ds => obtain ⟨l, xs, e, n, h1, h3, h2⟩ := q; exact ⟨l, xs, e, n, h1, h3, h2.weak subM⟩
      | bag => exact q
  · have ne : ∀ (m : Nat) (s : SV), (ρ.set i (.dat d))[m]? = some s → isOwn s = true → m ≠ i := fun m s q o e => by
      subst e
      by_cases hm : m < ρ.length
      · rw [List.getElem?_set_self hm] at q; cases q; cases o
      · rw [List.getElem?_eq_none (by rw [List.length_set]; omega)] at q; cases q
    have e1 := ne j u h1 h3
    have e2 := ne k u' h2 h4
    rw [List.getElem?_set_ne (Ne.symm e1)] at h1 h5
    rw [List.getElem?_set_ne (Ne.symm e2)] at h2 h6
    exact r.apart j k u u' a h1 h2 h3 h4 h5 h6
/-- only the slots is differ -/
def SEq (is : List Nat) (σ σ' : St) : Prop := σ'.length = σ.length ∧ ∀ j, j ∉ is → σ'[j]? = σ[j]?
abbrev DGt := D → En → (En → Prop) → Prop
/-- a target: the slots is are stored -/
def liftG (L : Lx) (is : List Nat) (t : DGt) : TG := fun v σ H Q => ∃ (F : Fx) (ρ : En) (d : D) (R : En → Prop), ER L.K L.C F H σ ρ ∧ Da L.K L.C (MM F σ ρ) H d v ∧ t d ρ R ∧
  ∀ σ' ρ', R ρ' → Step F σ ρ H σ' ρ' H → ER L.K L.C F H σ' ρ' → SEq is σ σ' → Q σ' H
theorem toG {X : Cx} {e : Expr} {t t' : TG} (h : PG X e t) (m : ∀ v σ H Q, t' v σ H Q → t v σ H Q) : PG X e t' := ⟨fun pins s σ H v u Q I r q => h.run pins s σ H v u Q I r (m v σ H Q q)⟩
def dName (i : Nat) : DGt := fun d ρ k => k (ρ.set i (.dat d))
theorem g_name {i : Nat} : ∀ v σ H Q, liftG L [i] (dName i) v σ H Q → gName i v σ H Q := by
  rintro v σ H Q ⟨F, ρ, d, R, er, da, ht, hR⟩
  obtain ⟨st, er'⟩ := er.set (i := i) da
  exact hR _ _ ht st er' ⟨List.length_set, fun j hj => List.getElem?_set_ne (fun e => hj (by simp [e]))⟩
abbrev DGs := List D → En → (En → Prop) → Prop
def liftGs (L : Lx) (is : List Nat) (t : DGs) : TGs := fun vs σ H Q => ∃ (F : Fx) (ρ : En) (ds : List D) (R : En → Prop), ER L.K L.C F H σ ρ ∧ DaL L.K L.C (MM F σ ρ) H ds vs ∧ t ds ρ R ∧
  ∀ σ' ρ', R ρ' → Step F σ ρ H σ' ρ' H → ER L.K L.C F H σ' ρ' → SEq is σ σ' → Q σ' H
theorem toGs {X : Cx} {e : List Expr} {t t' : TGs} (h : PGs X e t) (m : ∀ v σ H Q, t' v σ H Q → t v σ H Q) : PGs X e t' := ⟨fun pins s σ H v u Q I r q => h.run pins s σ H v u Q I r (m v σ H Q q)⟩
def dgNil : DGs := fun ds ρ k => ds = [] ∧ k ρ
def dgCons (t : DGt) (u : DGs) : DGs := fun ds ρ k => match ds with
  | d :: r => t d ρ fun ρ1 => u r ρ1 k
  | [] => False
theorem g_nil : ∀ vs σ H Q, liftGs L [] dgNil vs σ H Q → gNil vs σ H Q := by
  rintro vs σ H Q ⟨F, ρ, ds, R, er, da, ⟨e, ht⟩, hR⟩
  subst e
  unfold DaL at da
  exact ⟨da, hR σ ρ ht Step.refl er ⟨rfl, fun _ _ => rfl⟩⟩
theorem g_cons {is js : List Nat} {t : DGt} {u : DGs} : ∀ vs σ H Q, liftGs L (is ++ js) (dgCons t u) vs σ H Q → gCons (liftG L is t) (liftGs L js u) vs σ H Q := by
  rintro vs σ H Q ⟨F, ρ, ds, R, er, da, ht, hR⟩
  cases ds with
  | nil => exact ht.elim
  | cons d ds =>
    unfold DaL at da
    obtain ⟨v, r, rfl, h1, h2⟩ := da
    refine ⟨v, r, rfl, F, ρ, d, _, er, h1, ht, fun σ1 ρ1 k1 st1 er1 e1 => ?_⟩
    exact ⟨F, ρ1, ds, _, er1, er.daL st1 h2, k1, fun σ2 ρ2 k2 st2 er2 e2 => hR σ2 ρ2 k2 (st1.trans st2) er2 ⟨e2.1.trans e1.1, fun j hj => (e2.2 j fun z => hj (List.mem_append_right _ z)).trans (e1.2 j fun z => hj (List.mem_append_left _ z))⟩⟩
def dgTup (n : Nat) (t : DGs) : DGt := fun d ρ k => match d with
  | .tup ds => ds.length = n ∧ t ds ρ k
  | _ => False
theorem g_tup {is : List Nat} {n : Nat} {t : DGs} : ∀ v σ H Q, liftG L is (dgTup n t) v σ H Q → gTup L.K n (liftGs L is t) v σ H Q := by
  rintro v σ H Q ⟨F, ρ, d, R, er, da, ht, hR⟩
  cases d with
  | tup ds =>
    obtain ⟨a, xs, rfl, h1, h2⟩ := da.of_tup
    exact ⟨a, xs, rfl, h1, by rw [h2.length]; exact ht.1, F, ρ, ds, R, er, h2, ht.2, hR⟩
  | _ => exact ht.elim
def dAsg (te : DT) (g : DGt) : DS := fun G ρ => te ρ (fun d ρ1 => g d ρ1 G.nx) G.ex
theorem s_asg {is : List Nat} {te : DT} {g : DGt} : ∀ E σ H, liftS L (dAsg te g) E σ H → tAsg (lift L te) (liftG L is g) E σ H := by
  rintro E σ H ⟨F, ρ, G, er, ht, gd⟩
  exact ⟨F, ρ, _, G.ex, er, ht, fun d ρ1 v H1 h st er1 da => ⟨F, ρ1, d, G.nx, er1, da, h, fun σ2 ρ2 k2 st2 er2 _ => gd.nx σ2 ρ2 H1 k2 (st.trans st2) er2⟩, gd.lfx⟩
theorem s_set {i : Nat} {te : DT} : ∀ E σ H, liftS L (dAsg te (dName i)) E σ H → tAsg (lift L te) (gName i) E σ H := fun E σ H h => by
  refine lf.mono (s_asg (is := [i]) E σ H h) fun v H' q => g_name v σ H' _ q
def dPar (i j : Nat) (ta : DG En) : DS := fun G ρ => ta ρ (fun as ρ1 => match as with
  | [.dat a, .dat b] => G.nx ((ρ1.set i (.dat a)).set j (.dat b))
  | _ => False) G.ex
theorem s_par {i j : Nat} {ta : DG En} : ∀ E σ H, liftS L (dPar i j ta) E σ H → tPar i j (liftA L ta) E σ H := by
  rintro E σ H ⟨F, ρ, G, er, ht, gd⟩
  refine ⟨F, ρ, _, G.ex, er, ht, fun as ρ1 vs H1 h st er1 da => ?_, gd.lfx⟩
  split at h
  · obtain ⟨v, w, rfl, h1, h2⟩ := (ArgL.dats da (by rfl)).two
    obtain ⟨st2, er2⟩ := er1.set (i := i) h1
    obtain ⟨st3, er3⟩ := er2.set (i := j) (er1.da st2 h2)
    exact ⟨v, w, rfl, gd.nx _ _ _ h (st.trans (st2.trans st3)) er3⟩
  · exact h.elim
end

end
end Ag
namespace Ag
open PySem L2
open C8 (pss_cut tCut)
section
variable {P : Program} {w : World} {K : PySem.W.Frag} {mg : Str → Option Value} {base : Heap} {cs : List (Str × Addr)}
/-! what is walked -/
/-- more is untouchable, all of it new -/
def FE (F F' : Fx) (H : Hp) : Prop := F'.B = F.B ∧ ∀ a, F'.M a → F.M a ∨ H a = none
theorem FE.refl {F : Fx} {H : Hp} : FE F F H := ⟨rfl, fun _ h => .inl h⟩
theorem ER.stayF {C : Cl} {F F' : Fx} {H H' : Hp} {σ σ' : St} {ρ ρ' : En} (r : ER K C F H σ ρ) (fe : FE F F' H) (s : Step F σ ρ H σ' ρ' H') : ∀ a o, ¬ MM F σ ρ a → H a = some o → ¬ MM F' σ' ρ' a ∧ H' a = some o := fun a o n e => by
  obtain ⟨h1, h2⟩ := r.stay s a o n e
  refine ⟨fun z => z.elim (fun q => ?_) fun q => h1 (.inr q), h2⟩
  rcases fe.2 a q with q | q
  · exact n (.inl q)
  · rw [e] at q; cases q
theorem ER.daLF {C : Cl} {F F' : Fx} {H H' : Hp} {σ σ' : St} {ρ ρ' : En} (r : ER K C F H σ ρ) (fe : FE F F' H) (s : Step F σ ρ H σ' ρ' H') {ds : List D} {vs : List V} (h : DaL K C (MM F σ ρ) H ds vs) : DaL K C (MM F' σ' ρ') H' ds vs := DaL.mono (r.stayF fe s) ds vs h
/-- what may be reached stays -/
def Stay (F : Fx) (σ : St) (ρ : En) (H : Hp) (F' : Fx) (σ' : St) (ρ' : En) (H' : Hp) : Prop := ∀ a o, ¬ MM F σ ρ a → H a = some o → ¬ MM F' σ' ρ' a ∧ H' a = some o
def IsIt (L : Lx) (F : Fx) (σ : St) (ρ : En) (H : Hp) (J : It) (ds : List D) : Prop := ∀ F' σ' ρ' H', Stay F σ ρ H F' σ' ρ' H' → ER L.K L.C F' H' σ' ρ' →
  (∀ i, i < ds.length → J.go i H') ∧ J.stop ds.length H' ∧ ∀ i x H'', i < ds.length → J.yld i H' x H'' → Same H' H'' ∧ ∃ d, ds[i]? = some d ∧ Da L.K L.C (MM F' σ' ρ') H'' d x
def liftI (L : Lx) (t : DG (List D)) : TI := fun σ H R => ∃ (F : Fx) (ρ : En) (R' : List D → En → Prop) (X : XP), ER L.K L.C F H σ ρ ∧ t ρ R' X ∧
  (∀ ds ρ' J H', R' ds ρ' → Step F σ ρ H σ ρ' H' → ER L.K L.C F H' σ ρ' → IsIt L F σ ρ' H' J ds → R J H') ∧
  (∀ x ρ' H' cls dc, X x ρ' → Step F σ ρ H σ ρ' H' → ER L.K L.C F H' σ ρ' → XRel L.K L.C (MM F σ ρ') H' x cls dc → L.E cls dc H')
theorem toI {X : Cx} {tg e : Expr} {t t' : TI} (h : PI X tg e t) (m : ∀ σ H R, t' σ H R → t σ H R) : PI X tg e t' := ⟨fun pins s σ H R I q => h.run pins s σ H R I (m σ H R q)⟩
section
variable {L : Lx} {F : Fx} {H H' : Hp} {σ σ' : St} {ρ ρ' : En} {G : DEn} {E : Ends}
/-- what a list, a tuple holds -/
def itemsL (t : DT) : DG (List D) := fun ρ R X => t ρ (fun d ρ1 => match d with | .lst ds => R ds ρ1 | _ => False) X
def itemsT (t : DT) : DG (List D) := fun ρ R X => t ρ (fun d ρ1 => match d with | .tup ds => R ds ρ1 | _ => False) X
def itemsS (t : DT) : DG (List D) := fun ρ R X => t ρ (fun d ρ1 => match d with | .str l => R (l.map fun c => .str [c]) ρ1 | _ => False) X
theorem i_list {t : DT} : ∀ σ H R, liftI L (itemsL t) σ H R → iList L.K (lift L t) σ H R := by
  rintro σ H R ⟨F, ρ, R', X, er, ht, hR, hX⟩
  refine ⟨F, ρ, _, X, er, ht, fun d ρ1 v H1 h st er1 da => ?_, hX⟩
  cases d with
  | lst ds =>
    have da0 := da
    unfold rD Da at da
    obtain ⟨a, xs, rfl, nM, h1, h2⟩ := da
    refine ⟨a, rfl, ⟨xs, SqL.of h1⟩, hR ds ρ1 _ H1 h st er1 fun F' σ' ρ' H' st' er' => ?_⟩
    have hs : SqL L.K H' a xs := SqL.of (st' a _ nM h1).2
    have dl := DaL.mono st' _ _ h2
    have w := walk_list (K := L.K) (a := a) (xs := xs)
    rw [dl.length] at w
    exact ⟨fun i hi => w.goes i H' hi hs, w.stops H' hs, fun i x H'' hi y => by
      obtain ⟨e, q⟩ := w.yields i H' x H'' hi hs y
      subst e
      exact ⟨same0, dl.get q⟩⟩
  | _ => exact h.elim
theorem i_tup {t : DT} : ∀ σ H R, liftI L (itemsT t) σ H R → iTup L.K (lift L t) σ H R := by
  rintro σ H R ⟨F, ρ, R', X, er, ht, hR, hX⟩
  refine ⟨F, ρ, _, X, er, ht, fun d ρ1 v H1 h st er1 da => ?_, hX⟩
  cases d with
  | tup ds =>
    obtain ⟨a, xs, rfl, h1, h2⟩ := Da.of_tupR da
    refine ⟨a, rfl, ⟨xs, h1.sq⟩, hR ds ρ1 _ H1 h st er1 fun F' σ' ρ' H' st' er' => ?_⟩
    have hs : SqT L.K H' a xs := by
      rcases h1 with h1 | h1
      · exact SqT.of (st' a _ h1.1 h1.2).2
      · exact .inr h1
    have dl := DaL.mono st' _ _ h2
    have w := walk_tup (K := L.K) (a := a) (xs := xs)
    rw [dl.length] at w
    exact ⟨fun i hi => w.goes i H' hi hs, w.stops H' hs, fun i x H'' hi y => by
      obtain ⟨e, q⟩ := w.yields i H' x H'' hi hs y
      subst e
      exact ⟨same0, dl.get q⟩⟩
  | _ => exact h.elim
theorem i_str {t : DT} : ∀ σ H R, liftI L (itemsS t) σ H R → iStr (lift L t) σ H R := by
  rintro σ H R ⟨F, ρ, R', X, er, ht, hR, hX⟩
  refine ⟨F, ρ, _, X, er, ht, fun d ρ1 v H1 h st er1 da => ?_, hX⟩
  cases d with
  | str l =>
    cases Da.of_str da
    refine ⟨_, rfl, hR _ ρ1 _ H1 h st er1 fun F' σ' ρ' H' st' er' => ?_⟩
    have w := walk_str (z := SX.S l)
    have e : (SX.S l).cps.size = (l.map fun c => D.str [c]).length := by simp
    rw [e] at w
    refine ⟨fun i hi => w.goes i H' hi trivial, w.stops H' trivial, fun i x H'' hi y => ?_⟩
    obtain ⟨e, c, q, rfl⟩ := w.yields i H' x H'' hi trivial y
    subst e
    exact ⟨same0, .str [c], by simpa using q, Da.str⟩
  | _ => exact h.elim
def itemsR1 (ta : DG En) : DG (List D) := fun ρ R X => ta ρ (fun as ρ1 => match as with
  | [.dat (.int j)] => (-(2 ^ 62) ≤ j ∧ j < 2 ^ 62) ∧ R ((List.range j.toNat).map fun k : Nat => .int k) ρ1
  | _ => False) X
def itemsR2 (ta : DG En) : DG (List D) := fun ρ R X => ta ρ (fun as ρ1 => match as with
  | [.dat (.int i), .dat (.int j)] => (-(2 ^ 62) ≤ i ∧ i < 2 ^ 62 ∧ -(2 ^ 62) ≤ j ∧ j < 2 ^ 62) ∧ R ((List.range (j - i).toNat).map fun k : Nat => .int (i + k)) ρ1
  | _ => False) X
theorem isIt_range {lo : Int} {n : Nat} {ds : List D} (e : ds = (List.range n).map fun k : Nat => .int (lo + k)) : IsIt L F σ ρ H (Itr lo n) ds := by
  intro F' σ' ρ' H' st er
  have w := walk_range (lo := lo) (n := n)
  have hl : ds.length = n := by rw [e]; simp
  rw [hl]
  refine ⟨fun i hi => w.goes i H' hi trivial, w.stops H' trivial, fun i x H'' hi y => ?_⟩
  obtain ⟨e', rfl⟩ := w.yields i H' x H'' hi trivial y
  subst e'
  exact ⟨same0, .int (lo + i), by rw [e]; simp [hi], Da.int⟩
theorem i_range1 {ta : DG En} : ∀ σ H R, liftI L (itemsR1 ta) σ H R → iRng1 (liftA L ta) σ H R := by
  rintro σ H R ⟨F, ρ, R', X, er, ht, hR, hX⟩
  refine ⟨F, ρ, _, X, er, ht, fun as ρ1 vs H1 h st er1 da => ?_, hX⟩
  split at h
  · obtain ⟨v, rfl, h1⟩ := (ArgL.dats da (by rfl)).one
    cases h1.of_int
    exact ⟨_, rfl, h.1.1, h.1.2, hR _ ρ1 _ H1 h.2 st er1 (isIt_range (by simp))⟩
  · exact h.elim
theorem i_range2 {ta : DG En} : ∀ σ H R, liftI L (itemsR2 ta) σ H R → iRng2 (liftA L ta) σ H R := by
  rintro σ H R ⟨F, ρ, R', X, er, ht, hR, hX⟩
  refine ⟨F, ρ, _, X, er, ht, fun as ρ1 vs H1 h st er1 da => ?_, hX⟩
  split at h
  · obtain ⟨v, w, rfl, h1, h2⟩ := (ArgL.dats da (by rfl)).two
    cases h1.of_int
    cases h2.of_int
    exact ⟨_, _, rfl, h.1, hR _ ρ1 _ H1 h.2 st er1 (isIt_range rfl)⟩
  · exact h.elim
/-- pairs of two lists, of two tuples -/
def zipD : D → D → Option (List D)
  | .lst a, .lst b => some ((a.zip b).map fun p => .tup [p.1, p.2])
  | .tup a, .tup b => some ((a.zip b).map fun p => .tup [p.1, p.2])
  | _, _ => none
def itemsZ (ta : DG En) : DG (List D) := fun ρ R X => ta ρ (fun as ρ1 => match as with
  | [.dat a, .dat b] => ok (zipD a b) fun ds => R ds ρ1
  | _ => False) X
theorem isIt_pair {J : It} {xs ys : List V} {a b : List D} {n : Nat} {Gq : Hp → Prop} (w : Walk J n Gq (YPair (fun i => xs[i]?) (fun i => ys[i]?))) (hn : n = min xs.length ys.length)
    (er : ER L.K L.C F H σ ρ) (ha : DaL L.K L.C (MM F σ ρ) H a xs) (hb : DaL L.K L.C (MM F σ ρ) H b ys) (hg : ∀ F' σ' ρ' H', Stay F σ ρ H F' σ' ρ' H' → Gq H') : IsIt L F σ ρ H J ((a.zip b).map fun p => .tup [p.1, p.2]) := by
  intro F' σ' ρ' H' st er'
  have hl : ((a.zip b).map fun p => D.tup [p.1, p.2]).length = n := by rw [hn, ha.length, hb.length]; simp [Nat.min_def]
  rw [hl]
  have g := hg F' σ' ρ' H' st
  refine ⟨fun i hi => w.goes i H' hi g, w.stops H' g, fun i v H'' hi y => ?_⟩
  obtain ⟨T, x, z, rfl, hT, rfl, e1, e2⟩ := w.yields i H' v H'' hi g y
  obtain ⟨d1, q1, p1⟩ := (DaL.mono st _ _ ha).get e1
  obtain ⟨d2, q2, p2⟩ := (DaL.mono st _ _ hb).get e2
  have sm : Same H' (upd H' T (.tup [x, z])) := Same.laid _ hT
  refine ⟨sm, .tup [d1, d2], ?_, Da.tup (.inl ⟨er'.newMM hT, upd_same⟩) (DaL.cons (p1.same sm) (DaL.cons (p2.same sm) DaL.nil))⟩
  simp only [List.getElem?_map, List.getElem?_zip_eq_some, Option.map_eq_some_iff]
  exact ⟨(d1, d2), ⟨q1, q2⟩, rfl⟩
theorem RT.stay {F' : Fx} {a : Addr} {xs : List V} (h : RT L.K (MM F σ ρ) H a xs) (st : Stay F σ ρ H F' σ' ρ' H') : SqT L.K H' a xs := by
  rcases h with h | h
  · exact SqT.of (st a _ h.1 h.2).2
  · exact .inr h
theorem i_zip {ta : DG En} : ∀ σ H R, liftI L (itemsZ ta) σ H R → RZ.iZipA L.K (liftA L ta) σ H R := by
  rintro σ H R ⟨F, ρ, R', X, er, ht, hR, hX⟩
  refine ⟨F, ρ, _, X, er, ht, fun as ρ1 vs H1 h st er1 da => ?_, hX⟩
  split at h
  · obtain ⟨v, w, rfl, h1, h2⟩ := (ArgL.dats da (by rfl)).two
    obtain ⟨ds, e, hr⟩ := h
    unfold zipD at e
    split at e
    · cases e
      unfold Da at h1 h2
      obtain ⟨p, xs, rfl, n1, q1, q2⟩ := h1
      obtain ⟨q, ys, rfl, n2, q3, q4⟩ := h2
      exact ⟨p, q, xs, ys, rfl, .inl ⟨SqL.of q1, SqL.of q3, hR _ ρ1 _ H1 hr st er1 (isIt_pair (walk_zip rfl) rfl er1 q2 q4 fun F' σ' ρ' H' st' => ⟨SqL.of (st' _ _ n1 q1).2, SqL.of (st' _ _ n2 q3).2⟩)⟩⟩
    · cases e
      obtain ⟨p, xs, rfl, q1, q2⟩ := h1.of_tupR
      obtain ⟨q, ys, rfl, q3, q4⟩ := h2.of_tupR
      exact ⟨p, q, xs, ys, rfl, .inr ⟨q1.sq, q3.sq, hR _ ρ1 _ H1 hr st er1 (isIt_pair (walk_zipT rfl) rfl er1 q2 q4 fun F' σ' ρ' H' st' => ⟨RT.stay q1 st', RT.stay q3 st'⟩)⟩⟩
    · cases e
  · exact h.elim
/-! for -/
def dForL (g : DGt) (tb : DS) : List D → DEn → En → Prop
  | [], G, ρ => G.nx ρ
  | d :: ds, G, ρ => g d ρ fun ρ1 => tb { G with nx := dForL g tb ds G, ct := dForL g tb ds G, bk := G.nx } ρ1
def dFor (ti : DG (List D)) (g : DGt) (tb : DS) : DS := fun G ρ => ti ρ (fun ds ρ1 => dForL g tb ds G ρ1) G.ex
theorem drop_cons {α : Type} {ds : List α} {i : Nat} (h : i < ds.length) {d : α} (e : ds[i]? = some d) : ds.drop i = d :: ds.drop (i + 1) := by
  rw [List.drop_eq_getElem_cons h]
  rw [List.getElem?_eq_getElem h] at e
  cases e; rfl
theorem s_for {is : List Nat} {ti : DG (List D)} {g : DGt} {tb : DS} : ∀ E σ H, liftS L (dFor ti g tb) E σ H → tFor (liftI L ti) (liftG L is g) (liftS L tb) E σ H := by
  rintro E σ H ⟨F, ρ, G, er, ht, gd⟩
  refine ⟨F, ρ, _, G.ex, er, ht, fun ds ρ1 J H1 h1 st1 er1 it => ?_, gd.lfx⟩
  refine ⟨fun i m σ' H' => m = ds.length - i ∧ i ≤ ds.length ∧ ∃ ρ', Step F σ ρ1 H1 σ' ρ' H' ∧ ER L.K L.C F H' σ' ρ' ∧ dForL g tb (ds.drop i) G ρ', ⟨ds.length, by simp, Nat.zero_le _, ρ1, Step.refl, er1, by simpa using h1⟩, ?_⟩
  rintro i m σ2 H2 ⟨rfl, hi, ρ2, st2, er2, h2⟩
  obtain ⟨go, stop, yld⟩ := it F σ2 ρ2 H2 (er1.stay st2) er2
  by_cases hlt : i < ds.length
  · refine .inr ⟨go i hlt, fun σ' H' => ∃ ρ', Step F σ ρ1 H1 σ' ρ' H' ∧ ER L.K L.C F H' σ' ρ' ∧ dForL g tb (ds.drop (i + 1)) G ρ', fun σ' H' q => ⟨ds.length - (i + 1), by omega, rfl, hlt, q⟩, fun x H3 y => ?_⟩
    obtain ⟨sm, d, e, da⟩ := yld i x H3 hlt y
    rw [drop_cons hlt e] at h2
    have st3 : Step F σ2 ρ2 H2 σ2 ρ2 H3 := Step.same sm
    have er3 := er2.same sm
    refine ⟨F, ρ2, d, _, er3, da, h2, fun σ4 ρ4 k4 st4 er4 _ => ?_⟩
    have stA := st2.trans (st3.trans st4)
    have gd4 : Gd L F σ4 ρ4 H3 G E := gd.after (st1.trans stA)
    exact ⟨F, ρ4, _, er4, k4, ⟨fun σ' ρ' H' k st' er' => ⟨ρ', stA.trans st', er', k⟩, gd4.rt, gd4.nx, fun σ' ρ' H' k st' er' => ⟨ρ', stA.trans st', er', k⟩, gd4.ex⟩⟩
  · have e : i = ds.length := by omega
    subst e
    rw [List.drop_length] at h2
    exact .inl ⟨stop, (gd.after (st1.trans st2)).nx _ _ _ h2 Step.refl er2⟩
/-! while -/
def dWhileN (c : DG Bool) (tb : DS) : Nat → DEn → En → Prop
  | 0, _, _ => False
  | n + 1, G, ρ => c ρ (fun b ρ1 => if b = true then tb { G with nx := dWhileN c tb n G, ct := dWhileN c tb n G, bk := G.nx } ρ1 else G.nx ρ1) G.ex
def dWhile (c : DG Bool) (tb : DS) : DS := fun G ρ => ∃ n, dWhileN c tb n G ρ
theorem s_while {c : DG Bool} {tb : DS} : ∀ E σ H, liftS L (dWhile c tb) E σ H → tWhile (liftT L c) (liftS L tb) E σ H := by
  rintro E σ H ⟨F, ρ, G, er, ⟨n, ht⟩, gd⟩
  refine ⟨fun m σ' H' => ∃ ρ', Step F σ ρ H σ' ρ' H' ∧ ER L.K L.C F H' σ' ρ' ∧ dWhileN c tb m G ρ', ⟨n, ρ, Step.refl, er, ht⟩, ?_⟩
  rintro m σ2 H2 ⟨ρ2, st2, er2, h2⟩
  cases m with
  | zero => exact h2.elim
  | succ m =>
    have gd2 := gd.after st2
    refine ⟨F, ρ2, _, G.ex, er2, h2, fun b ρ3 b' H3 h3 st3 er3 e => ?_, gd2.lfx⟩
    cases e
    cases b with
    | true =>
      have stA := st2.trans st3
      have gd3 := gd.after stA
      exact ⟨fun σ' H' => ∃ ρ', Step F σ ρ H σ' ρ' H' ∧ ER L.K L.C F H' σ' ρ' ∧ dWhileN c tb m G ρ', fun σ' H' q => ⟨m, Nat.lt_succ_self _, q⟩, F, ρ3, _, er3, h3,
        ⟨fun σ' ρ' H' k st' er' => ⟨ρ', stA.trans st', er', k⟩, gd3.rt, gd3.nx, fun σ' ρ' H' k st' er' => ⟨ρ', stA.trans st', er', k⟩, gd3.ex⟩⟩
    | false => exact gd2.nx _ _ _ h3 st3 er3
end

end
end Ag
namespace Ag
open PySem L2
open C8 (pss_cut tCut)
section
variable {P : Program} {w : World} {K : PySem.W.Frag} {mg : Str → Option Value} {base : Heap} {cs : List (Str × Addr)}
/-! comprehensions -/
def wipeE (ρ : En) : List Nat → En
  | [] => ρ
  | v :: vs => (wipeE ρ vs).set v .no
theorem wipeE_length (ρ : En) : ∀ vs : List Nat, (wipeE ρ vs).length = ρ.length
  | [] => rfl
  | v :: vs => by unfold wipeE; rw [List.length_set, wipeE_length ρ vs]
theorem wipeE_out {ρ : En} {i : Nat} : ∀ {vs : List Nat}, i ∉ vs → (wipeE ρ vs)[i]? = ρ[i]?
  | [], _ => rfl
  | v :: vs, h => by
    have h1 : v ≠ i := fun e => h (by rw [e]; exact List.mem_cons_self)
    unfold wipeE
    rw [List.getElem?_set_ne h1]
    exact wipeE_out fun z => h (List.mem_cons_of_mem _ z)
theorem wipeE_in {ρ : En} {i : Nat} {s : SV} : ∀ {vs : List Nat}, i ∈ vs → (wipeE ρ vs)[i]? = some s → s = .no
  | [], h, _ => by simp at h
  | v :: vs, h, e => by
    unfold wipeE at e
    by_cases hv : v = i
    · subst hv
      by_cases hl : v < (wipeE ρ vs).length
      · rw [List.getElem?_set_self hl] at e; cases e; rfl
      · rw [List.getElem?_eq_none (by rw [List.length_set]; omega)] at e; cases e
    · rw [List.getElem?_set_ne hv] at e
      rcases List.mem_cons.mp h with h | h
      · exact absurd h.symm hv
      · exact wipeE_in h e
theorem wipe_ext {σ σ2 : St} {vs : List Nat} (hl : σ2.length = σ.length) (h : ∀ j, j ∉ vs → σ2[j]? = σ[j]?) : wipe σ2 vs = wipe σ vs := by
  apply List.ext_getElem?
  intro j
  by_cases hj : j ∈ vs
  · by_cases hb : j < σ.length
    · have q : ∀ τ : St, j < τ.length → (wipe τ vs)[j]? = some none := fun τ ht => by
        cases e : (wipe τ vs)[j]? with
        | none => rw [List.getElem?_eq_none_iff, wipe_length] at e; omega
        | some o =>
          cases o with
          | none => rfl
          | some v => exact absurd hj (wipe_some e).2
      rw [q σ hb, q σ2 (by omega)]
    · rw [List.getElem?_eq_none (by rw [wipe_length]; omega), List.getElem?_eq_none (by rw [wipe_length]; omega)]
  · rw [wipe_out hj, wipe_out hj, h j hj]
theorem wipe_wipe (σ : St) (vs : List Nat) : wipe (wipe σ vs) vs = wipe σ vs := wipe_ext (wipe_length σ vs) fun j hj => wipe_out hj
section
variable {L : Lx} {F : Fx} {H H' : Hp} {σ σ' : St} {ρ ρ' : En} {C : Cl}
theorem own_wipe {vs : List Nat} {a : Addr} (h : Own (wipe σ vs) (wipeE ρ vs) a) : Own σ ρ a := by
  obtain ⟨i, s, h1, h2, h3⟩ := h
  obtain ⟨h4, h5⟩ := wipe_some h3
  rw [wipeE_out h5] at h1
  exact ⟨i, s, h1, h2, h4⟩
theorem Slot.weak {M M' : Addr → Prop} (w : ∀ a, M' a → M a) {u : SV} {v : Option V} (h : Slot K C F M H u v) : Slot K C F M' H u v := by
  cases u with
  | no => exact trivial
  | dat d => obtain ⟨x, e, h⟩ := h; exact ⟨x, e, h.weak w⟩
  | own ds => obtain ⟨l, xs, e, n, h1, h2⟩ := h; exact ⟨l, xs, e, n, h1, h2.weak w⟩
  | ownD ks ds => obtain ⟨l, xs, e, n, h1, h3, h2⟩ := h; exact ⟨l, xs, e, n, h1, h3, h2.weak w⟩
  | ownI c ns ds => obtain ⟨l, xs, e, n, h1, h3, h2⟩ := h; exact ⟨l, xs, e, n, h1, h3, h2.weak w⟩
  | bag => exact h
theorem ER.wipe (r : ER K C F H σ ρ) (vs : List Nat) : Step F σ ρ H (L2.wipe σ vs) (wipeE ρ vs) H ∧ ER K C F H (L2.wipe σ vs) (wipeE ρ vs) := by
  refine ⟨fun a o e n _ => ⟨e, fun z => n (own_wipe z)⟩, ⟨by rw [wipe_length, wipeE_length]; exact r.len, fun i s v h1 h2 => ?_, fun i j s u a h1 h2 h3 h4 h5 h6 => ?_, r.bag, r.there, r.tb⟩⟩
  · by_cases hi : i ∈ vs
    · rw [wipeE_in hi h1]; exact trivial
    · rw [wipeE_out hi] at h1
      rw [wipe_out hi] at h2
      exact (r.slot i s v h1 h2).weak fun a z => z.elim .inl fun q => .inr (own_wipe q)
  · obtain ⟨h5', n5⟩ := wipe_some h5
    obtain ⟨h6', n6⟩ := wipe_some h6
    rw [wipeE_out n5] at h1
    rw [wipeE_out n6] at h2
    exact r.apart i j s u a h1 h2 h3 h4 h5' h6'
/-- the slots vs are not known -/
def NoAt (vs : List Nat) (ρ : En) : Prop := ∀ i ∈ vs, ∀ s, ρ[i]? = some s → s = .no
theorem noAt_wipeE (ρ : En) (vs : List Nat) : NoAt vs (wipeE ρ vs) := fun _ hi _ e => wipeE_in hi e
theorem own_unwipe {vs : List Nat} {a : Addr} (hn : NoAt vs ρ) : Own σ ρ a ↔ Own (L2.wipe σ vs) ρ a := by
  constructor
  · rintro ⟨i, s, h1, h2, h3⟩
    by_cases hi : i ∈ vs
    · rw [hn i hi s h1] at h2; cases h2
    · exact ⟨i, s, h1, h2, by rw [wipe_out hi]; exact h3⟩
  · rintro ⟨i, s, h1, h2, h3⟩
    exact ⟨i, s, h1, h2, (wipe_some h3).1⟩
theorem ER.unwipe {vs : List Nat} (hn : NoAt vs ρ) (r : ER K C F H (L2.wipe σ vs) ρ) : ER K C F H σ ρ := by
  refine ⟨by rw [← r.len, wipe_length], fun i s v h1 h2 => ?_, fun i j s u a h1 h2 h3 h4 h5 h6 => ?_, r.bag, r.there, r.tb⟩
  · by_cases hi : i ∈ vs
    · rw [hn i hi s h1]; exact trivial
    · exact (r.slot i s v h1 (by rw [wipe_out hi]; exact h2)).weak fun a z => z.elim .inl fun q => .inr ((own_unwipe hn).mp q)
  · have q : ∀ (m : Nat) (s : SV), ρ[m]? = some s → isOwn s = true → m ∉ vs := fun m s h1 h2 hm => by rw [hn m hm s h1] at h2; cases h2
    exact r.apart i j s u a h1 h2 h3 h4 (by rw [wipe_out (q i s h1 h3)]; exact h5) (by rw [wipe_out (q j u h2 h4)]; exact h6)
/-- a new thing that may not be touched -/
def Fx.add (F : Fx) (p : Addr) : Fx := ⟨fun a => F.M a ∨ a = p, F.B, F.A⟩
theorem ER.add (r : ER K C F H σ ρ) {p : Addr} (hp : H p = none) (o : HO) : ER K C (F.add p) (upd H p o) σ ρ := by
  have ne : ∀ a u, H a = some u → a ≠ p := fun a u e => ne_of_none e hp
  have m : ∀ a u, ¬ MM F σ ρ a → H a = some u → ¬ MM (F.add p) σ ρ a ∧ upd H p o a = some u := fun a u n e => ⟨fun z => z.elim (fun q => q.elim (fun q => n (.inl q)) (ne a u e)) fun q => n (.inr q), by rw [upd_ne (ne a u e)]; exact e⟩
  have sm : Same H (upd H p o) := Same.laid _ hp
  refine ⟨r.len, fun i s v h1 h2 => ?_, r.apart, (r.bag.same sm).to ((r.bag.ok.more fun a φ z e => z.elim id fun q => (ne a _ e q).elim).same sm) fun a z => .inl z, fun a h => ?_, r.tb⟩
  · have q := r.slot i s v h1 h2
    cases s with
    | no => exact trivial
    | dat d => obtain ⟨x, e, z⟩ := q; exact ⟨x, e, Da.mono m d x z⟩
    | own ds => obtain ⟨l, xs, e, n, g1, g2⟩ := q; exact ⟨l, xs, e, fun z => z.elim n (ne l _ g1), sm _ _ g1, DaL.mono m ds xs g2⟩
    | ownD ks ds => obtain ⟨l, xs, e, n, g1, g3, g2⟩ := q; exact ⟨l, xs, e, fun z => z.elim n (ne l _ g1), sm _ _ g1, g3, DaL.mono m ds xs g2⟩
    | ownI c ns ds => obtain ⟨l, xs, e, n, g1, g3, g2⟩ := q; exact ⟨l, xs, e, fun z => z.elim n (ne l _ g1), sm _ _ g1, g3, DaL.mono m _ _ g2⟩
    | bag => exact q
  · rcases h with h | rfl
    · obtain ⟨u, e⟩ := r.there a h; exact ⟨u, sm a u e⟩
    · exact ⟨o, upd_same⟩
theorem ER.unadd {p : Addr} (r : ER K C (F.add p) H σ ρ) {H0 : Hp} (hb : F.B.In F.M H0) : ER K C F H σ ρ := by
  refine ⟨r.len, fun i s v h1 h2 => ?_, r.apart, ⟨r.bag.ok.weak fun a z => .inl z, hb.ex, hb.cm⟩, fun a h => r.there a (.inl h), r.tb⟩
  have w : ∀ a, MM F σ ρ a → MM (F.add p) σ ρ a := fun a z => z.elim (fun q => .inl (.inl q)) .inr
  have q := r.slot i s v h1 h2
  cases s with
  | no => exact trivial
  | dat d => obtain ⟨x, e, z⟩ := q; exact ⟨x, e, z.weak w⟩
  | own ds => obtain ⟨l, xs, e, n, g1, g2⟩ := q; exact ⟨l, xs, e, fun z => n (.inl z), g1, g2.weak w⟩
  | ownD ks ds => obtain ⟨l, xs, e, n, g1, g3, g2⟩ := q; exact ⟨l, xs, e, fun z => n (.inl z), g1, g3, g2.weak w⟩
  | ownI c ns ds => obtain ⟨l, xs, e, n, g1, g3, g2⟩ := q; exact ⟨l, xs, e, fun z => n (.inl z), g1, g3, g2.weak w⟩
  | bag => exact q
/-- what is owned may be touched -/
theorem ER.ownM (r : ER K C F H σ ρ) {a : Addr} (h : Own σ ρ a) : ¬ F.M a := by
  obtain ⟨i, s, h1, h2, h3⟩ := h
  have q := r.slot i s _ h1 h3
  cases s with
  | own ds => obtain ⟨l, xs, e, n, g1, g2⟩ := q; cases e; exact n
  | ownD ks ds => obtain ⟨l, xs, e, n, g1, g2⟩ := q; cases e; exact n
  | ownI c ns ds => obtain ⟨l, xs, e, n, g1, g2⟩ := q; cases e; exact n
  | no => cases h2
  | bag => cases h2
  | dat d => cases h2
theorem BagAt.upd' {b c p : Addr} {H : Hp} (o : HO) (h : BagAt b c H) (n : p ≠ b ∧ p ≠ c) : BagAt b c (upd H p o) := h.store o n
/-- the untouchable thing at p is written -/
theorem ER.updM (r : ER K C F H σ ρ) {p : Addr} (o : HO) (hp : F.M p) (nb : ¬ F.B.Ex p ∧ ∀ b c, F.B.bag = some (b, c) → p ≠ c) : ER K C F (upd H p o) σ ρ := by
  have m : ∀ a u, ¬ MM F σ ρ a → H a = some u → ¬ MM F σ ρ a ∧ upd H p o a = some u := fun a u n e => ⟨n, by rw [upd_ne (show a ≠ p from fun z => n (.inl (by rw [z]; exact hp)))]; exact e⟩
  refine ⟨r.len, fun i s v h1 h2 => ?_, r.apart, ⟨r.bag.ok.store o nb.1 nb.2 fun _ _ => hp, r.bag.ex, r.bag.cm⟩, fun a h => ?_, r.tb⟩
  · have q := r.slot i s v h1 h2
    cases s with
    | no => exact trivial
    | dat d => obtain ⟨x, e, z⟩ := q; exact ⟨x, e, Da.mono m d x z⟩
    | own ds => obtain ⟨l, xs, e, n, g1, g2⟩ := q; exact ⟨l, xs, e, n, by rw [upd_ne (show l ≠ p from fun z => n (by rw [z]; exact hp))]; exact g1, DaL.mono m ds xs g2⟩
    | ownD ks ds => obtain ⟨l, xs, e, n, g1, g3, g2⟩ := q; exact ⟨l, xs, e, n, by rw [upd_ne (show l ≠ p from fun z => n (by rw [z]; exact hp))]; exact g1, g3, DaL.mono m ds xs g2⟩
    | ownI c ns ds => obtain ⟨l, xs, e, n, g1, g3, g2⟩ := q; exact ⟨l, xs, e, n, by rw [upd_ne (show l ≠ p from fun z => n (by rw [z]; exact hp))]; exact g1, g3, DaL.mono m _ _ g2⟩
    | bag => exact q
  · by_cases e : a = p
    · subst e; exact ⟨o, upd_same⟩
    · obtain ⟨u, q⟩ := r.there a h
      exact ⟨u, by rw [upd_ne e]; exact q⟩
def dYes : DG Bool := fun ρ R _ => R true ρ
theorem toTs {X : Cx} {e : List Expr} {t t' : TT} (h : PTs X e t) (m : ∀ σ H Q, t' σ H Q → t σ H Q) : PTs X e t' := ⟨fun pins s σ H Q I q => h.run pins s σ H Q I (m σ H Q q)⟩
theorem r_yes : ∀ σ H Q, liftT L dYes σ H Q → tYes σ H Q := by
  rintro σ H Q ⟨F, ρ, R, X, er, ht, hR, hX⟩
  exact hR true ρ true H ht Step.refl er rfl
def noX : XP := fun _ _ => False
def lcL (g : DGt) (tt : DG Bool) (te : DT) (vs : List Nat) : List D → En → List D → (List D → En → Prop) → Prop
  | [], ρ, acc, k => k acc ρ
  | d :: ds, ρ, acc, k => g d ρ fun ρ2 => tt ρ2 (fun b ρ3 => if b = true then te ρ3 (fun y ρ4 => acc.length < 1000000 ∧ lcL g tt te vs ds (wipeE ρ4 vs) (acc ++ [y]) k) noX else lcL g tt te vs ds (wipeE ρ3 vs) acc k) noX
def dLc (ti : DG (List D)) (g : DGt) (tt : DG Bool) (te : DT) (vs : List Nat) : DT := fun ρ R X => ti ρ (fun ds ρ1 => lcL g tt te vs ds (wipeE ρ1 vs) [] fun acc ρ' => R (.lst acc) ρ') X
theorem r_lc {is vs : List Nat} {ti : DG (List D)} {g : DGt} {tt : DG Bool} {te : DT} (hv : ∀ i ∈ is, i ∈ vs) : ∀ σ H Q, lift L (dLc ti g tt te vs) σ H Q → tLc (liftI L ti) (liftG L is g) (liftT L tt) (lift L te) vs σ H Q := by
  rintro σ H Q ⟨F, ρ, R, X, er, ht, hR, hX⟩
  refine ⟨F, ρ, _, X, er, ht, fun ds ρ1 J H1 h1 st1 er1 it => ?_, hX⟩
  intro Dd hD
  have fe : FE F (F.add Dd) H1 := ⟨rfl, fun a h => h.elim .inl fun e => .inr (e ▸ hD)⟩
  have nbD := er1.bag.ok.apart hD
  have hMD : (F.add Dd).M Dd := .inr rfl
  obtain ⟨stw, erw⟩ := er1.wipe vs
  have er0 : ER L.K L.C (F.add Dd) (upd H1 Dd (.lst [])) (L2.wipe σ vs) (wipeE ρ1 vs) := erw.add hD _
  have st0 : Step F σ ρ1 H1 (L2.wipe σ vs) (wipeE ρ1 vs) (upd H1 Dd (.lst [])) := fun a o e n b => ⟨by rw [upd_ne (ne_of_none e hD)]; exact e, (stw a o e n b).2⟩
  refine ⟨fun i m H' => m = ds.length - i ∧ i ≤ ds.length ∧ ∃ ρ' acc vacc, NoAt vs ρ' ∧ Step F σ ρ1 H1 (L2.wipe σ vs) ρ' H' ∧ ER L.K L.C (F.add Dd) H' (L2.wipe σ vs) ρ' ∧ H' Dd = some (.lst vacc) ∧ DaL L.K L.C (MM (F.add Dd) (L2.wipe σ vs) ρ') H' acc vacc ∧
    lcL g tt te vs (ds.drop i) ρ' acc (fun acc ρ' => R (.lst acc) ρ'), ⟨ds.length, by simp, Nat.zero_le _, _, [], [], noAt_wipeE _ _, st0, er0, upd_same, DaL.nil, by simpa using h1⟩, ?_⟩
  rintro i m H' ⟨rfl, hi, ρ', acc, vacc, na, st, er', hDd, hacc, hk⟩
  obtain ⟨go, stop, yld⟩ := it (F.add Dd) _ ρ' H' (er1.stayF fe st) er'
  by_cases hlt : i < ds.length
  · refine .inr ⟨go i hlt, fun H'' => i + 1 ≤ ds.length ∧ ∃ ρ' acc vacc, NoAt vs ρ' ∧ Step F σ ρ1 H1 (L2.wipe σ vs) ρ' H'' ∧ ER L.K L.C (F.add Dd) H'' (L2.wipe σ vs) ρ' ∧ H'' Dd = some (.lst vacc) ∧ DaL L.K L.C (MM (F.add Dd) (L2.wipe σ vs) ρ') H'' acc vacc ∧
      lcL g tt te vs (ds.drop (i + 1)) ρ' acc (fun acc ρ' => R (.lst acc) ρ'), fun H'' q => ⟨ds.length - (i + 1), by omega, rfl, q⟩, fun x H3 y => ?_⟩
    obtain ⟨sm, d, e, da⟩ := yld i x H3 hlt y
    rw [drop_cons hlt e] at hk
    have er3 := er'.same sm
    have st3 : Step F (L2.wipe σ vs) ρ' H' (L2.wipe σ vs) ρ' H3 := Step.same sm
    refine ⟨F.add Dd, ρ', d, _, er3, da, hk, fun σ4 ρ4 k4 st4 er4 sq => ?_⟩
    have ew : L2.wipe σ4 vs = L2.wipe σ vs := (wipe_ext sq.1 fun j hj => sq.2 j fun z => hj (hv j z)).trans (wipe_wipe σ vs)
    refine ⟨ew, F.add Dd, ρ4, _, noX, er4, k4, fun b ρ5 b' H5 h5 st5 er5 eb => ?_, fun x ρ' H' cls dc hx => hx.elim⟩
    cases eb
    have keepD : ∀ {σa σb : St} {ρa ρb : En} {Ha Hb : Hp} {o : HO}, ER L.K L.C (F.add Dd) Ha σa ρa → Step (F.add Dd) σa ρa Ha σb ρb Hb → Ha Dd = some o → Hb Dd = some o := fun ea sa ho => (sa Dd _ ho (fun z => ea.ownM z hMD) nbD.1).1
    have accs : ∀ {σa σb : St} {ρa ρb : En} {Ha Hb : Hp}, ER L.K L.C (F.add Dd) Ha σa ρa → Step (F.add Dd) σa ρa Ha σb ρb Hb → DaL L.K L.C (MM (F.add Dd) σa ρa) Ha acc vacc → DaL L.K L.C (MM (F.add Dd) σb ρb) Hb acc vacc := fun ea sa h => ea.daL sa h
    have d5 : H5 Dd = some (.lst vacc) := keepD er4 st5 (sm _ _ hDd)
    have a4 := accs er3 st4 (hacc.same sm)
    have a5 := accs er4 st5 a4
    have stF : ∀ {σa σb : St} {ρa ρb : En} {Ha Hb : Hp}, Step (F.add Dd) σa ρa Ha σb ρb Hb → Step F σa ρa Ha σb ρb Hb := fun s => s
    have st15 := st.trans (st3.trans ((stF st4).trans (stF st5)))
    cases b with
    | false =>
      obtain ⟨sw, ew5⟩ := er5.wipe vs
      have a6 := er5.daL sw a5
      rw [ew] at sw ew5 a6
      exact ⟨hlt, wipeE ρ5 vs, acc, vacc, noAt_wipeE _ _, st15.trans (stF sw), ew5, d5, a6, h5⟩
    | true =>
      refine ⟨F.add Dd, ρ5, _, noX, er5, h5, fun w ρ6 yv H6 h6 st6 er6 dy => ?_, fun x ρ' H' cls dc hx => hx.elim⟩
      have d6 : H6 Dd = some (.lst vacc) := keepD er5 st6 d5
      have a6 := accs er5 st6 a5
      refine ⟨vacc, d6, by rw [a6.length]; exact Nat.lt_of_lt_of_le h6.1 (by decide), hlt, ?_⟩
      obtain ⟨sw, ew6⟩ := er6.wipe vs
      have a7 := er6.daL sw (a6.append (DaL.cons dy DaL.nil))
      rw [ew] at sw ew6 a7
      refine ⟨wipeE ρ6 vs, acc ++ [w], vacc ++ [yv], noAt_wipeE _ _, ?_, ew6.updM _ hMD nbD, upd_same, ?_, h6.2⟩
      · have st7 := st15.trans ((stF st6).trans (stF sw))
        exact fun a o e n b => ⟨by rw [upd_ne (ne_of_none e hD)]; exact (st7 a o e n b).1, (st7 a o e n b).2⟩
      · exact DaL.mono (fun a o n e => ⟨n, by rw [upd_ne fun z => n (.inl (.inr z))]; exact e⟩) _ _ a7
  · have e : i = ds.length := by omega
    subst e
    rw [List.drop_length] at hk
    refine .inl ⟨stop, ?_⟩
    have eru : ER L.K L.C F H' σ ρ' := (er'.unwipe na).unadd er1.bag
    have stu : Step F σ ρ1 H1 σ ρ' H' := fun a o e n b => ⟨(st a o e n b).1, fun z => (st a o e n b).2 ((own_unwipe na).mp z)⟩
    have nOwn : ¬ Own σ ρ' Dd := fun z => er'.ownM ((own_unwipe na).mp z) hMD
    have nM : ¬ F.M Dd := fun z => by obtain ⟨u, q⟩ := er1.there Dd z; rw [hD] at q; cases q
    exact hR _ ρ' _ H' hk (st1.trans stu) eru (Da.lst (fun z => z.elim nM nOwn) hDd (hacc.weak fun a z => z.elim (fun q => .inl (.inl q)) fun q => .inr ((own_unwipe na).mp q)))
end

end
end Ag
namespace Ag
open PySem L2
open C8 (pss_cut tCut)
section
variable {P : Program} {w : World} {K : PySem.W.Frag} {mg : Str → Option Value} {base : Heap} {cs : List (Str × Addr)}
/-! calls and defs -/
/-- all but the bag stays -/
def FStep (F : Fx) (H H' : Hp) : Prop := ∀ a o, H a = some o → ¬ F.B.Ex a → H' a = some o
abbrev DF := En → (D → Prop) → (Xc → Prop) → Prop
def spE (K : PySem.W.Frag) (C : Cl) (t : DF) : Sp := fun vs H Q E => ∃ (F : Fx) (ρ : En) (R : D → Prop) (X : Xc → Prop), ER K C F H (vs.map some) ρ ∧ (∀ s ∈ ρ, isOwn s = false) ∧ t ρ R X ∧
  (∀ d v H', R d → FStep F H H' → F.B.Ok F.M H' → Da K C F.M H' d v → Q v H') ∧
  (∀ x cls dc H', X x → FStep F H H' → F.B.Ok F.M H' → XRel K C F.M H' x cls dc → E cls dc H')
section
variable {L : Lx} {F : Fx} {H H' : Hp} {σ σ' : St} {ρ ρ' : En} {C : Cl}
theorem ER.fstep (r : ER K C F H σ ρ) (s : FStep F H H') (hb : F.B.Ok F.M H') : Step F σ ρ H σ ρ H' ∧ ER K C F H' σ ρ := by
  have m : ∀ a o, ¬ MM F σ ρ a → H a = some o → ¬ MM F σ ρ a ∧ H' a = some o := fun a o n e => ⟨n, s a o e (r.bag.off fun z => n (.inl z))⟩
  refine ⟨fun a o e n nb => ⟨s a o e nb, n⟩, ⟨r.len, fun i u v h1 h2 => ?_, r.apart, ⟨hb, r.bag.ex, r.bag.cm⟩, fun a h => ?_, r.tb⟩⟩
  · have q := r.slot i u v h1 h2
    have nl : ∀ l, ¬ F.M l → ¬ F.B.Ex l := fun l n => r.bag.off n
    cases u with
    | no => exact trivial
    | dat d => obtain ⟨x, e, z⟩ := q; exact ⟨x, e, Da.mono m d x z⟩
    | own ds => obtain ⟨l, xs, e, n, g1, g2⟩ := q; exact ⟨l, xs, e, n, s _ _ g1 (nl l n), DaL.mono m ds xs g2⟩
    | ownD ks ds => obtain ⟨l, xs, e, n, g1, g3, g2⟩ := q; exact ⟨l, xs, e, n, s _ _ g1 (nl l n), g3, DaL.mono m ds xs g2⟩
    | ownI c ns ds => obtain ⟨l, xs, e, n, g1, g3, g2⟩ := q; exact ⟨l, xs, e, n, s _ _ g1 (nl l n), g3, DaL.mono m _ _ g2⟩
    | bag => exact q
  · obtain ⟨o, e⟩ := r.there a h
    by_cases hbb : F.B.Ex a
    · rcases hbb with ⟨b, c, q, rfl⟩ | ⟨p, hp, rfl⟩
      · obtain ⟨xs, z⟩ := (hb.bag _ c q).lst
        exact ⟨_, z⟩
      · obtain ⟨ps, z, _⟩ := hb.tab p hp
        exact ⟨_, z⟩
    · exact ⟨o, s a o e hbb⟩
theorem ArgL.slots {M : Addr → Prop} : ∀ {as : En} {vs : List V}, ArgL K C F M H as vs → (vs.map some).length = as.length ∧ (∀ s ∈ as, isOwn s = false) ∧ ∀ (i : Nat) (s : SV) (v : Option V), as[i]? = some s → (vs.map some)[i]? = some v → Slot K C F M H s v
  | [], vs, h => by
    unfold ArgL at h
    subst h
    exact ⟨rfl, fun s hs => by simp at hs, fun i s v e => by simp at e⟩
  | s :: as, vs, h => by
    unfold ArgL at h
    obtain ⟨v, q, rfl, no, nn, sl, t⟩ := h
    obtain ⟨h1, h2, h3⟩ := ArgL.slots t
    refine ⟨by rw [List.map_cons, List.length_cons, List.length_cons, h1], fun u hu => ?_, fun i u w e1 e2 => ?_⟩
    · rcases List.mem_cons.mp hu with rfl | hu
      · exact no
      · exact h2 u hu
    · cases i with
      | zero => simp at e1 e2; subst e1 e2; exact sl
      | succ i => exact h3 i u w (by simpa using e1) (by simpa using e2)
theorem noOwn {as : En} {τ : St} (h : ∀ s ∈ as, isOwn s = false) (a : Addr) : ¬ Own τ as a := fun ⟨i, s, h1, h2, _⟩ => by
  rw [h s (List.mem_of_getElem? h1)] at h2; cases h2
/-- what is owned is a list, a dict, an instance -/
theorem ER.ownX (r : ER K C F H σ ρ) {a : Addr} {φ : Heap → Prop} (h : Own σ ρ a) (e : H a = some (.ext φ)) : False := by
  obtain ⟨i, s, h1, h2, h3⟩ := h
  have q := r.slot i s _ h1 h3
  cases s with
  | own ds => obtain ⟨l, xs, z, n, g1, g2⟩ := q; cases z; rw [e] at g1; cases g1
  | ownD ks ds => obtain ⟨l, xs, z, n, g1, g2⟩ := q; cases z; rw [e] at g1; cases g1
  | ownI c ns ds => obtain ⟨l, xs, z, n, g1, g2⟩ := q; cases z; rw [e] at g1; cases g1
  | no => cases h2
  | bag => cases h2
  | dat d => cases h2
/-- the callee's view -/
theorem ER.callee (r : ER K C F H σ ρ) {as : En} {vs : List V} (da : ArgL K C F (MM F σ ρ) H as vs) : ER K C ⟨MM F σ ρ, F.B, F.A⟩ H (vs.map some) as := by
  obtain ⟨h1, h2, h3⟩ := da.slots
  have w : ∀ a, MM ⟨MM F σ ρ, F.B, F.A⟩ (vs.map some) as a → MM F σ ρ a := fun a z => z.elim id fun q => (noOwn h2 a q).elim
  refine ⟨h1, fun i s v e1 e2 => ?_, fun i j s u a e1 e2 e3 => ?_, r.bag.to (r.bag.ok.more fun a φ z e => z.elim id fun q => (r.ownX q e).elim) fun a z => .inl z, fun a h => ?_, r.tb⟩
  · have q := h3 i s v e1 e2
    have no := h2 s (List.mem_of_getElem? e1)
    cases s with
    | no => exact trivial
    | dat d => obtain ⟨x, e, z⟩ := q; exact ⟨x, e, z.weak w⟩
    | own ds => cases no
    | ownD ks ds => cases no
    | ownI c ns ds => cases no
    | bag => exact q
  · rw [h2 s (List.mem_of_getElem? e1)] at e3; cases e3
  · rcases h with h | ⟨i, s, e1, e2, e3⟩
    · exact r.there a h
    · have q := r.slot i s _ e1 e3
      cases s with
      | own ds => obtain ⟨l, xs, e, n, g1, g2⟩ := q; cases e; exact ⟨_, g1⟩
      | ownD ks ds => obtain ⟨l, xs, e, n, g1, g2⟩ := q; cases e; exact ⟨_, g1⟩
      | ownI c ns ds => obtain ⟨l, xs, e, n, g1, g2⟩ := q; cases e; exact ⟨_, g1⟩
      | no => cases e2
      | bag => cases e2
      | dat d => cases e2
def dCall (t : DF) (ta : DG En) : DT := fun ρ R X => ta ρ (fun as ρ1 => t as (fun d => R d ρ1) (fun x => X x ρ1)) X
/-- behind the arguments -/
theorem call_in {t : DF} {as : En} {vs : List V} {Q : VK} {R : D → En → Prop} {X : XP} {ρ1 : En} {H1 : Hp} (h1 : t as (fun d => R d ρ1) (fun x => X x ρ1)) (st1 : Step F σ ρ H σ ρ1 H1) (er1 : ER L.K L.C F H1 σ ρ1) (da : ArgL L.K L.C F (MM F σ ρ1) H1 as vs)
    (hR : ∀ d ρ' v H', R d ρ' → Step F σ ρ H σ ρ' H' → ER L.K L.C F H' σ ρ' → Da L.K L.C (MM F σ ρ') H' d v → Q v H')
    (hX : ∀ x ρ' H' cls dc, X x ρ' → Step F σ ρ H σ ρ' H' → ER L.K L.C F H' σ ρ' → XRel L.K L.C (MM F σ ρ') H' x cls dc → L.E cls dc H') : spE L.K L.C t vs H1 Q L.E := by
  refine ⟨⟨MM F σ ρ1, F.B, F.A⟩, as, _, _, er1.callee da, da.slots.2.1, h1, fun d v H' hr fs hb dd => ?_, fun x cls dc H' hx fs hb xr => ?_⟩
  · obtain ⟨st2, er2⟩ := er1.fstep (H' := H') fs (hb.weak fun a z => .inl z)
    exact hR d ρ1 v H' hr (st1.trans st2) er2 dd
  · obtain ⟨st2, er2⟩ := er1.fstep (H' := H') fs (hb.weak fun a z => .inl z)
    exact hX x ρ1 H' cls dc hx (st1.trans st2) er2 xr
theorem r_call {t : DF} {ta : DG En} : ∀ σ H Q, lift L (dCall t ta) σ H Q → tCall (spE L.K L.C t) [] L.E (liftA L ta) σ H Q := by
  rintro σ H Q ⟨F, ρ, R, X, er, ht, hR, hX⟩
  refine ⟨F, ρ, _, X, er, ht, fun as ρ1 vs H1 h1 st1 er1 da => ?_, hX⟩
  show spE L.K L.C t (vs ++ []) H1 Q L.E
  rw [List.append_nil]
  exact call_in h1 st1 er1 da hR hX
theorem ArgL.paired {M : Addr → Prop} : ∀ {as : En} {vs : List V}, ArgL K C F M H as vs ↔ Paired (fun s v => isOwn s = false ∧ s ≠ .no ∧ Slot K C F M H s (some v)) as vs
  | [], vs => by
    unfold ArgL
    constructor
    · rintro rfl; exact .nil
    · intro h; cases h; rfl
  | s :: as, vs => by
    unfold ArgL
    constructor
    · rintro ⟨v, q, rfl, a, b, c, t⟩; exact .cons ⟨a, b, c⟩ (ArgL.paired.mp t)
    · intro h
      cases h with
      | cons r t => exact ⟨_, _, rfl, r.1, r.2.1, r.2.2, ArgL.paired.mpr t⟩
/-- by keywords: pm orders what is given -/
def dCallN (pm : En → En) (n m : Nat) (t : DF) (ta tk : DG En) : DT := fun ρ R X => ta ρ (fun as ρ1 => tk ρ1 (fun zs ρ2 => as.length = n ∧ zs.length = m ∧ t (pm (as ++ zs)) (fun d => R d ρ2) (fun x => X x ρ2)) X) X
theorem ArgL.length {M : Addr → Prop} {as : En} {vs : List V} (h : ArgL K C F M H as vs) : vs.length = as.length := by
  have := h.slots.1
  simpa using this
theorem ArgL.append {M : Addr → Prop} : ∀ {as bs : En} {vs ws : List V}, ArgL K C F M H as vs → ArgL K C F M H bs ws → ArgL K C F M H (as ++ bs) (vs ++ ws)
  | [], bs, vs, ws, h, t => by unfold ArgL at h; rw [h]; exact t
  | s :: as, bs, vs, ws, h, t => by
    unfold ArgL at h
    obtain ⟨v, q, rfl, a, b, c, r⟩ := h
    show ArgL K C F M H (s :: (as ++ bs)) (v :: (q ++ ws))
    unfold ArgL
    exact ⟨v, q ++ ws, rfl, a, b, c, ArgL.append r t⟩
theorem r_callN {pmE : En → En} {pmV : List V → List V} {n m : Nat} {t : DF} {ta tk : DG En} (hp : ∀ {G : SV → V → Prop} {as : En} {vs : List V}, Paired G as vs → Paired G (pmE as) (pmV vs)) :
    ∀ σ H Q, lift L (dCallN pmE n m t ta tk) σ H Q → tCallN n m (spE L.K L.C t) (fun vs zs => pmV (vs ++ zs)) L.E (liftA L ta) (liftA L tk) σ H Q := by
  rintro σ H Q ⟨F, ρ, R, X, er, ht, hR, hX⟩
  refine ⟨F, ρ, _, X, er, ht, fun as ρ1 vs H1 h1 st1 er1 da => ?_, hX⟩
  refine ⟨F, ρ1, _, X, er1, h1, fun zs ρ2 ws H2 h2 st2 er2 dz => ?_, fun x ρ' H' cls dc hx st er' xr => hX x ρ' H' cls dc hx (st1.trans st) er' xr⟩
  have da2 : ArgL L.K L.C F (MM F σ ρ2) H2 as vs := ArgL.mono (er1.stay st2) da
  have dz' : ArgL L.K L.C F (MM F σ ρ2) H2 zs ws := dz
  exact ⟨by rw [da2.length]; exact h2.1, by rw [dz'.length]; exact h2.2.1, call_in h2.2.2 (st1.trans st2) er2 (ArgL.paired.mpr (hp (ArgL.paired.mp (da2.append dz')))) hR hX⟩
/-- no exception -/
def noE : XK := fun _ _ _ => False
theorem repl_no {n : Nat} {i : Nat} {s : SV} (h : (List.replicate n SV.no)[i]? = some s) : s = .no := by
  rw [List.getElem?_replicate] at h
  split at h
  · cases h; rfl
  · cases h
/-- at the entry -/
theorem ER.start {N : List Str} {vs : List V} (r : ER K C F H (vs.map some) ρ) (hn : ∀ s ∈ ρ, isOwn s = false) : ER K C F H (L2.start N vs) (ρ ++ List.replicate (N.length - vs.length) .no) ∧ ∀ a, ¬ Own (L2.start N vs) (ρ ++ List.replicate (N.length - vs.length) .no) a := by
  have hl : ρ.length = vs.length := by have := r.len; simpa using this.symm
  have hn' : ∀ s ∈ ρ ++ List.replicate (N.length - vs.length) SV.no, isOwn s = false := fun s hs => by
    rcases List.mem_append.mp hs with h | h
    · exact hn s h
    · rw [List.eq_of_mem_replicate h]; rfl
  have no : ∀ a, ¬ Own (L2.start N vs) (ρ ++ List.replicate (N.length - vs.length) .no) a := fun a => noOwn hn' a
  refine ⟨⟨by simp [L2.start, hl], fun i s v h1 h2 => ?_, fun i j s u a h1 h2 h3 => ?_, r.bag, r.there, r.tb⟩, no⟩
  · by_cases hi : i < ρ.length
    · rw [List.getElem?_append_left hi] at h1
      have h2' : (vs.map some)[i]? = some v := by
        unfold L2.start at h2
        rw [List.getElem?_append_left (by simp; omega)] at h2
        exact h2
      exact (r.slot i s v h1 h2').weak fun a z => z.elim .inl fun q => (no a q).elim
    · rw [List.getElem?_append_right (by omega)] at h1
      rw [repl_no h1]; exact trivial
  · rw [hn' s (List.mem_of_getElem? h1)] at h3; cases h3
theorem body_in {N : List Str} {vs : List V} {tb : DS} {t : DF} {Q : VK} {E E' : XK} {ps : List Str} (hl : ∀ ρ R X, t ρ R X → ρ.length = ps.length) (hX : ∀ cls dc H, E cls dc H → E' cls dc H)
    (ht : ∀ ρ R X, t ρ R X → tb { nx := fun _ => R .non, rt := R, ex := fun x _ => X x } (ρ ++ List.replicate (N.length - ps.length) .no)) (h : spE K C t vs H Q E) :
    liftS ⟨K, C, E'⟩ tb { nx := fun _ H' => Q .non H', rt := Q } (L2.start N vs) H := by
  obtain ⟨F, ρ, R, X, er, hn, h, hR, hXx⟩ := h
  obtain ⟨er', no⟩ := er.start (N := N) hn
  have hv : vs.length = ps.length := by have := er.len; rw [hl _ _ _ h] at this; simpa using this
  rw [hv] at er' no
  have fs : ∀ {σ' ρ' H'}, Step F (L2.start N vs) (ρ ++ List.replicate (N.length - ps.length) .no) H σ' ρ' H' → FStep F H H' := fun st a o e nb => (st a o e (no a) nb).1
  refine ⟨F, _, _, er', ht _ _ _ h, ⟨fun σ' ρ' H' k st e => hR .non .non H' k (fs st) e.bag.ok Da.non, fun d v σ' ρ' H' k st e da => hR d v H' k (fs st) e.bag.ok da, fun _ _ _ k => k.elim, fun _ _ _ k => k.elim, fun x σ' ρ' H' cls dc k st e xr => hX _ _ _ (hXx x cls dc H' k (fs st) e.bag.ok ?_)⟩⟩
  obtain ⟨e1, d, vs', e2, e3, e4, e5⟩ := xr
  exact ⟨e1, d, vs', e2, e3, e4, e5.weak fun a z => .inl z⟩
/-- a def that raises nothing -/
theorem Fun.okD {x qual : Str} {st : Stmt} {f : Addr} {fd : FuncData} {N ps : List Str} {k : Nat} {t : DF} {tb : DS} (F : Fun K x qual st f fd) (S : FnScope N ps (defScope st)) (hl : ∀ ρ R X, t ρ R X → ρ.length = ps.length)
    (hbody : ∀ (cdv : Value) (A : Around) (outer : List Env) (s : Shared) (H : Hp) (E : XK), Room k (A.deeper (PyProof.Rows.envOfC qual (defScope st) s.heap.objs.size f cdv)) →
      PSs (cxOf CX0 P w K mg base N qual (defScope st) f cdv A outer s H E).nox (defBody st) (liftS ⟨K, C, E⟩ tb))
    (ht : ∀ ρ R X, t ρ R X → tb { nx := fun _ => R .non, rt := R, ex := fun x _ => X x } (ρ ++ List.replicate (N.length - ps.length) .no)) : FnOk P w K mg base CX0 (k + 1) f fd ps (spE K C t) := by
  refine F.ok S (fun vs H Q E h => ?_) (fun cdv A outer s H vs Q E hr h => ⟨_, hbody cdv A outer s H E hr, body_in hl (fun _ _ _ q => q) ht h⟩)
  obtain ⟨F, ρ, R, X, er, hn, h, _⟩ := h
  have := er.len
  rw [hl _ _ _ h] at this
  simpa using this
end
/-- a def's transformer out of its body's -/
def dDef (n k : Nat) (tb : DS) : DF := fun ρ R X => ρ.length = n ∧ tb { nx := fun _ => R .non, rt := R, ex := fun x _ => X x } (ρ ++ List.replicate k .no)

end
end Ag
namespace Ag
open PySem L2
open C8 (pss_cut tCut)
section
variable {P : Program} {w : World} {K : PySem.W.Frag} {mg : Str → Option Value} {base : Heap} {cs : List (Str × Addr)}
abbrev fSub : D → D → Option D := fInt fun i j => .int (i - j)
abbrev fLt : D → D → Option D := fInt fun i j => .bl (decide (i < j))
abbrev fLe : D → D → Option D := fInt fun i j => .bl (decide (i ≤ j))
abbrev fGt : D → D → Option D := fInt fun i j => .bl (decide (j < i))
abbrev fGe : D → D → Option D := fInt fun i j => .bl (decide (j ≤ i))
def fNeg : D → Option D
  | .int i => some (.int (-i))
  | _ => none
theorem toK {X : Cx} {e : List Keyword} {t t' : TA} (h : PK X e t) (m : ∀ σ H Q, t' σ H Q → t σ H Q) : PK X e t' := ⟨fun pos pins s σ H Q I q => h.run pos pins s σ H Q I (m σ H Q q)⟩
def strL (ss : List String) : List D := ss.map fun s => .str (cp s)
def tupS (ss : List String) : D := .tup (strL ss)
section
variable {L : Lx} {F : Fx} {H H' : Hp} {σ σ' : St} {ρ ρ' : En}
theorem ref_neg : RefR1 L (rU fun i => .int (-i)) fNeg := by
  intro M H x a d Q fr ha e k
  unfold fNeg at e
  split at e
  · cases ha.of_int; cases e
    exact ⟨_, rfl, k _ H same0 Da.int⟩
  · cases e
theorem strL_da {K : PySem.W.Frag} {C : Cl} {M : Addr → Prop} {H : Hp} : ∀ ss : List String, DaL K C M H (strL ss) (ss.map fun s => .str (Str.ofString s))
  | [] => DaL.nil
  | s :: ss => DaL.cons (by unfold Da; rw [S_cp]) (strL_da ss)
/-- a tuple of written texts of the module -/
theorem r_ktup {a : Addr} (ss : List String) (h : ∀ H : Hp, SqT L.K H a (ss.map fun s => V.str (Str.ofString s))) : ∀ σ H Q, lift L (dC (tupS ss)) σ H Q → tC (.ref a) σ H Q := r_c fun M H => by
  refine Da.tup (.inr ?_) (strL_da ss)
  rcases h fun _ => none with (q | ⟨o, q⟩) | q
  · cases q
  · cases q
  · exact q
theorem r_testOp {r : R2} {f : D → D → Option D} {ta tb : DT} (h : RefR2 L r f) : ∀ σ H Q, liftT L (dB (dOp f ta tb)) σ H Q → tTest (tOp r (lift L ta) (lift L tb)) σ H Q := fun σ H Q q => r_op h σ H _ (r_test σ H Q q)
theorem r_testChain {r r' : R2} {f f' : D → D → Option D} {ta tb tc : DT} (h : RefR2 L r f) (h' : RefR2 L r' f') : ∀ σ H Q, liftT L (dB (dChain f f' ta tb tc)) σ H Q → tTest (tChain r r' (lift L ta) (lift L tb) (lift L tc)) σ H Q := fun σ H Q q => r_chain h h' σ H _ (r_test σ H Q q)
theorem r_testIsN {t : DT} : ∀ σ H Q, liftT L (dB (dIsN t)) σ H Q → tB (tIsN (lift L t)) σ H Q := fun σ H Q q => r_isN σ H _ (r_B σ H Q q)
theorem r_testNotN {t : DT} : ∀ σ H Q, liftT L (dB (dNotN t)) σ H Q → tB (tNotN (lift L t)) σ H Q := fun σ H Q q => r_notN σ H _ (r_B σ H Q q)
theorem r_call0 {t : DF} : ∀ σ H Q, lift L (dCall t dNil) σ H Q → tCall (spE L.K L.C t) [] L.E tNil σ H Q := fun σ H Q q => r_nil σ H _ (r_call σ H Q q)
theorem r_callN0 {pmE : En → En} {pmV : List V → List V} {m : Nat} {t : DF} {tk : DG En} (hp : ∀ {G : SV → V → Prop} {as : En} {vs : List V}, Paired G as vs → Paired G (pmE as) (pmV vs)) :
    ∀ σ H Q, lift L (dCallN pmE 0 m t dNil tk) σ H Q → tCallN 0 m (spE L.K L.C t) (fun vs zs => pmV (vs ++ zs)) L.E tNil (liftA L tk) σ H Q := fun σ H Q q => r_nil σ H _ (r_callN hp σ H Q q)
theorem s_setLc {i : Nat} {is vs : List Nat} {ti : DG (List D)} {g : DGt} {tt : DG Bool} {te : DT} (hv : ∀ i ∈ is, i ∈ vs) : ∀ E σ H, liftS L (dAsg (dLc ti g tt te vs) (dName i)) E σ H → tAsg (tLc (liftI L ti) (liftG L is g) (liftT L tt) (lift L te) vs) (gName i) E σ H :=
  fun E σ H h => r_lc hv σ H _ (s_set E σ H h)
theorem FnOk.zero {CX : CXT} {f : Addr} {fd : FuncData} {ps : List Str} {C : Cl} {k : Nat} {t : DF} (h : ∀ ρ R X, t ρ R X → False) : FnOk P w K mg base CX k f fd ps (spE K C t) :=
  ⟨fun vs H Q E z => (by obtain ⟨F, ρ, R, X, er, hn, q, _⟩ := z; exact (h _ _ _ q).elim), fun A outer s H args us vs Q E _ _ _ _ z => (by obtain ⟨F, ρ, R, X, er, hn, q, _⟩ := z; exact (h _ _ _ q).elim)⟩
/-! lists that a slot owns -/
theorem own_get {i : Nat} {s : SV} {a : Addr} (h : ρ[i]? = some s) (hs : isOwn s = true) (hv : σ[i]? = some (some (.ref a))) : Own σ ρ a := ⟨i, s, h, hs, hv⟩
theorem own_setOwn {i : Nat} {s : SV} {v : V} {a : Addr} (h : Own (σ.set i (some v)) (ρ.set i s) a) : v = .ref a ∨ Own σ ρ a := by
  obtain ⟨j, u, h1, h2, h3⟩ := h
  by_cases e : j = i
  · subst e
    by_cases hj : j < σ.length
    · rw [List.getElem?_set_self hj] at h3
      injection h3 with h3; injection h3 with h3
      exact .inl h3
    · rw [List.getElem?_eq_none (by rw [List.length_set]; omega)] at h3
      cases h3
  · rw [List.getElem?_set_ne (Ne.symm e)] at h1 h3
    exact .inr ⟨j, u, h1, h2, h3⟩
/-- a new list at a slot -/
theorem ER.ownNew {K : PySem.W.Frag} {C : Cl} {i : Nat} {p : Addr} {ds : List D} {xs : List V} (r : ER K C F H σ ρ) (hp : H p = none) (hd : DaL K C (MM F σ ρ) H ds xs) :
    Step F σ ρ H (σ.set i (some (.ref p))) (ρ.set i (.own ds)) (upd H p (.lst xs)) ∧ ER K C F (upd H p (.lst xs)) (σ.set i (some (.ref p))) (ρ.set i (.own ds)) := by
  have sm : Same H (upd H p (.lst xs)) := Same.laid _ hp
  have nF : ¬ F.M p := fun z => by obtain ⟨o, e⟩ := r.there p z; rw [hp] at e; cases e
  have m : ∀ a o, ¬ MM F σ ρ a → H a = some o → ¬ MM F (σ.set i (some (.ref p))) (ρ.set i (.own ds)) a ∧ upd H p (.lst xs) a = some o := fun a o n e => ⟨fun z => z.elim (fun q => n (.inl q)) fun q => by
    rcases own_setOwn q with q | q
    · injection q with q; exact ne_of_none e hp q.symm
    · exact n (.inr q), sm a o e⟩
  refine ⟨fun a o e n _ => ⟨sm a o e, fun z => ?_⟩, ⟨by rw [List.length_set, List.length_set]; exact r.len, fun j u w h1 h2 => ?_, fun j k u u' a h1 h2 h3 h4 h5 h6 => ?_, r.bag.same sm, fun a h => let ⟨o, e⟩ := r.there a h; ⟨o, sm a o e⟩, r.tb⟩⟩
  · rcases own_setOwn z with q | q
    · injection q with q; exact ne_of_none e hp q.symm
    · exact n q
  · by_cases e : j = i
    · subst e
      by_cases hj : j < σ.length
      · rw [List.getElem?_set_self hj] at h2
        rw [List.getElem?_set_self (by rw [← r.len]; exact hj)] at h1
        cases h1; cases h2
        exact ⟨p, xs, rfl, nF, upd_same, DaL.mono m ds xs hd⟩
      · rw [List.getElem?_eq_none (by rw [List.length_set]; omega)] at h2
        cases h2
    · rw [List.getElem?_set_ne (Ne.symm e)] at h1 h2
      have q := r.slot j u w h1 h2
      cases u with
      | no => exact trivial
      | dat d' => obtain ⟨x, e, z⟩ := q; exact ⟨x, e, Da.mono m _ _ z⟩
      | own ds => obtain ⟨l, ys, e, n, h1, h2⟩ := q; exact ⟨l, ys, e, n, sm _ _ h1, DaL.mono m _ _ h2⟩
      | ownD ks ds => obtain ⟨l, ys, e, n, h1, h3, h2⟩ := q; exact ⟨l, ys, e, n, sm _ _ h1, h3, DaL.mono m _ _ h2⟩
      | ownI c ns ds => obtain ⟨l, ys, e, n, h1, h3, h2⟩ := q; exact ⟨l, ys, e, n, sm _ _ h1, h3, DaL.mono m _ _ h2⟩
      | bag => exact q
  · have no : ∀ (m : Nat) (s : SV), ρ[m]? = some s → isOwn s = true → σ[m]? = some (some (.ref p)) → False := fun m s q1 q2 q3 => r.newM hp ⟨m, s, q1, q2, q3⟩
    have at_i : ∀ (hi : i < σ.length), (σ.set i (some (V.ref p)))[i]? = some (some (.ref p)) := fun hi => List.getElem?_set_self hi
    by_cases e1 : j = i
    · by_cases e2 : k = i
      · exact e1.trans e2.symm
      · subst e1
        rw [List.getElem?_set_ne (Ne.symm e2)] at h2 h6
        by_cases hj : j < σ.length
        · rw [at_i hj] at h5
          cases h5
          exact (no k u' h2 h4 h6).elim
        · rw [List.getElem?_eq_none (by rw [List.length_set]; omega)] at h5; cases h5
    · rw [List.getElem?_set_ne (Ne.symm e1)] at h1 h5
      by_cases e2 : k = i
      · subst e2
        by_cases hk : k < σ.length
        · rw [at_i hk] at h6
          cases h6
          exact (no j u h1 h3 h5).elim
        · rw [List.getElem?_eq_none (by rw [List.length_set]; omega)] at h6; cases h6
      · rw [List.getElem?_set_ne (Ne.symm e2)] at h2 h6
        exact r.apart j k u u' a h1 h2 h3 h4 h5 h6
def dOwnL (i : Nat) (ta : DG En) : DS := fun G ρ => ta ρ (fun as ρ1 => ok (datL as) fun ds => ds.length ≤ 1000 ∧ G.nx (ρ1.set i (.own ds))) G.ex
theorem s_ownL {i : Nat} {ta : DG En} : ∀ E σ H, liftS L (dOwnL i ta) E σ H → tAsg (tLst (liftA L ta)) (gName i) E σ H := by
  rintro E σ H ⟨F, ρ, G, er, ht, g⟩
  refine ⟨F, ρ, _, G.ex, er, ht, fun as ρ1 xs H1 h1 st1 er1 da => ?_, g.lfx⟩
  obtain ⟨ds, e, hl, hr⟩ := h1
  have dl := ArgL.dats da e
  refine ⟨le1000 (by rw [dl.length]; exact hl), fun p hp => ?_⟩
  obtain ⟨st2, er2⟩ := er1.ownNew (i := i) hp dl
  exact g.nx _ _ _ hr (st1.trans st2) er2
/-- the list of a slot is changed -/
theorem ER.ownSet {K : PySem.W.Frag} {C : Cl} {i : Nat} {l : Addr} {ds ds' : List D} {xs' : List V} (r : ER K C F H σ ρ) (h : ρ[i]? = some (.own ds)) (hv : σ[i]? = some (some (.ref l))) (hd : DaL K C (MM F σ ρ) H ds' xs') :
    Step F σ ρ H σ (ρ.set i (.own ds')) (upd H l (.lst xs')) ∧ ER K C F (upd H l (.lst xs')) σ (ρ.set i (.own ds')) := by
  have hi : i < ρ.length := (List.getElem?_eq_some_iff.mp h).1
  have ow : ∀ a, Own σ (ρ.set i (.own ds')) a → Own σ ρ a := fun a ⟨j, u, h1, h2, h3⟩ => by
    by_cases e : j = i
    · subst e; exact ⟨j, _, h, rfl, h3⟩
    · rw [List.getElem?_set_ne (Ne.symm e)] at h1; exact ⟨j, u, h1, h2, h3⟩
  have oL : Own σ ρ l := ⟨i, _, h, rfl, hv⟩
  have nF : ¬ F.M l := r.ownM oL
  have m : ∀ a o, ¬ MM F σ ρ a → H a = some o → ¬ MM F σ (ρ.set i (.own ds')) a ∧ upd H l (.lst xs') a = some o := fun a o n e => ⟨fun z => z.elim (fun q => n (.inl q)) fun q => n (.inr (ow a q)), by rw [upd_ne (show a ≠ l from fun z => n (.inr (z ▸ oL)))]; exact e⟩
  refine ⟨fun a o e n _ => ⟨by rw [upd_ne (show a ≠ l from fun z => n (z ▸ oL))]; exact e, fun z => n (ow a z)⟩, ⟨by rw [List.length_set]; exact r.len, fun j u w h1 h2 => ?_, fun j k u u' a h1 h2 h3 h4 h5 h6 => ?_, ⟨r.bag.ok.store _ (r.bag.off nF) (fun b c e z => nF (z ▸ r.bag.cm b c e)) (fun φ e => (r.ownX oL e).elim), r.bag.ex, r.bag.cm⟩, fun a ha => ?_, r.tb⟩⟩
  · by_cases e : j = i
    · subst e
      rw [List.getElem?_set_self hi] at h1
      cases h1
      rw [hv] at h2; cases h2
      exact ⟨l, xs', rfl, nF, upd_same, DaL.mono m _ _ hd⟩
    · rw [List.getElem?_set_ne (Ne.symm e)] at h1
      have q := r.slot j u w h1 h2
      have ne : ∀ l', isOwn u = true → w = some (.ref l') → l' ≠ l := fun l' o e1 e2 => e (r.apart j i u _ l h1 h o rfl (by rw [h2, e1, e2]) hv)
      cases u with
      | no => exact trivial
      | dat d' => obtain ⟨x, e, z⟩ := q; exact ⟨x, e, Da.mono m _ _ z⟩
      | own ds => obtain ⟨l', ys, e, n, h1, h2⟩ := q; exact ⟨l', ys, e, n, by rw [upd_ne (ne l' rfl e)]; exact h1, DaL.mono m _ _ h2⟩
      | ownD ks ds => obtain ⟨l', ys, e, n, h1, h3, h2⟩ := q; exact ⟨l', ys, e, n, by rw [upd_ne (ne l' rfl e)]; exact h1, h3, DaL.mono m _ _ h2⟩
      | ownI c ns ds => obtain ⟨l', ys, e, n, h1, h3, h2⟩ := q; exact ⟨l', ys, e, n, by rw [upd_ne (ne l' rfl e)]; exact h1, h3, DaL.mono m _ _ h2⟩
      | bag => exact q
  · have back : ∀ (n : Nat) (s : SV), (ρ.set i (.own ds'))[n]? = some s → isOwn s = true → ∃ s', ρ[n]? = some s' ∧ isOwn s' = true := fun n s q o => by
      by_cases e : n = i
      · subst e; exact ⟨_, h, rfl⟩
      · rw [List.getElem?_set_ne (Ne.symm e)] at q; exact ⟨s, q, o⟩
    obtain ⟨s1, q1, o1⟩ := back j u h1 h3
    obtain ⟨s2, q2, o2⟩ := back k u' h2 h4
    exact r.apart j k s1 s2 a q1 q2 o1 o2 h5 h6
  · by_cases e : a = l
    · subst e; exact ⟨_, upd_same⟩
    · obtain ⟨o, q⟩ := r.there a ha
      exact ⟨o, by rw [upd_ne e]; exact q⟩
/-- x.append(e) -/
def dAppend (i : Nat) (ta : DG En) : DS := fun G ρ => (∃ ds, ρ[i]? = some (.own ds)) ∧ ta ρ (fun as ρ1 => match as, ρ1[i]? with
  | [.dat d], some (.own ds) => ds.length < 1000000 ∧ G.nx (ρ1.set i (.own (ds ++ [d])))
  | _, _ => False) G.ex
theorem s_append {i : Nat} {ta : DG En} : ∀ E σ H, liftS L (dAppend i ta) E σ H → tDrop (tBM L.K "list" rAppend (tVar i) (liftA L ta)) E σ H := by
  rintro E σ H ⟨F, ρ, G, er, ⟨⟨ds0, h0⟩, ht⟩, g⟩
  obtain ⟨v, hv, l, xs0, rfl, n0, q0, _⟩ := er.at h0
  refine ⟨_, hv, .inl ⟨rfl, _, SqL.of q0⟩, F, ρ, _, G.ex, er, ht, fun as ρ1 vs H1 h1 st1 er1 da => ?_, g.lfx⟩
  split at h1
  · rename_i d ds hi
    obtain ⟨y, rfl, hy⟩ := (ArgL.dats da (by rfl)).one
    have q := er1.slot i _ _ hi hv
    obtain ⟨l', xs, e, n, q1, q2⟩ := q
    cases e
    refine ⟨l, xs, y, rfl, rfl, q1, by rw [q2.length]; exact Nat.lt_of_lt_of_le h1.1 (by decide), ?_⟩
    obtain ⟨st2, er2⟩ := er1.ownSet hi hv (q2.append (DaL.cons hy DaL.nil))
    exact g.nx _ _ _ h1.2 (st1.trans st2) er2
  · exact h1.elim
end

end
end Ag
namespace Ag
open PySem L2
open C8 (pss_cut tCut)
section
variable {P : Program} {w : World} {K : PySem.W.Frag} {mg : Str → Option Value} {base : Heap} {cs : List (Str × Addr)}
/-! instances -/
section
variable {L : Lx} {F : Fx} {H H' : Hp} {σ σ' : St} {ρ ρ' : En}
theorem lookup_zip {f : Str} : ∀ {ns : List Str} {xs : List V} {i : Nat} {x : V}, ns.Nodup → ns[i]? = some f → xs[i]? = some x → (ns.zip xs).lookup f = some x
  | [], _, _, _, _, h, _ => by simp at h
  | n :: ns, [], i, x, _, _, h => by simp at h
  | n :: ns, y :: xs, 0, x, _, h1, h2 => by
    simp at h1 h2
    subst h1 h2
    rw [List.zip_cons_cons, List.lookup_cons, beq_self_eq_true]
  | n :: ns, y :: xs, i + 1, x, hn, h1, h2 => by
    have h1' : ns[i]? = some f := by simpa using h1
    have ne : n ≠ f := fun e => (List.nodup_cons.mp hn).1 (e ▸ List.mem_of_getElem? h1')
    rw [List.zip_cons_cons, List.lookup_cons]
    have : (f == n) = false := by simpa using Ne.symm ne
    rw [this]
    exact lookup_zip (List.nodup_cons.mp hn).2 h1' (by simpa using h2)
theorem lookup_zip_none {f : Str} : ∀ {ns : List Str} {xs : List V}, f ∉ ns → (ns.zip xs).lookup f = none
  | [], _, _ => rfl
  | n :: ns, [], _ => rfl
  | n :: ns, y :: xs, h => by
    have ne : (f == n) = false := by simpa using fun e : f = n => h (by rw [e]; exact List.mem_cons_self)
    rw [List.zip_cons_cons, List.lookup_cons, ne]
    exact lookup_zip_none fun z => h (List.mem_cons_of_mem _ z)
def fFld (c : Nat) (i : Nat) : D → Option D
  | .ins c' fs => if c' = c then fs[i]? else none
  | _ => none
theorem r_fld {c : Nat} {f : Str} {i : Nat} {t : DT} (hc : Cls L.K (L.C.adr c)) (hn : NoAttr L.K (L.C.adr c) f) (hf : (L.C.fld c)[i]? = some f) (hd : (L.C.fld c).Nodup) : ∀ σ H Q, lift L (dUn (fFld c i) t) σ H Q → tFld L.K (lift L t) f σ H Q :=
  r_un (r := fun x H1 Q => ∃ a C dx fs v, x = .ref a ∧ H1 a = some (.ins C dx fs) ∧ Cls L.K C ∧ NoAttr L.K C f ∧ fs.lookup f = some v ∧ Q v H1) fun M H x a d Q fr ha e k => by
    unfold fFld at e
    split at e
    · split at e
      · rename_i hcc
        subst hcc
        unfold Da at ha
        obtain ⟨p, dx, xs, rfl, n, h1, hl, h2⟩ := ha
        obtain ⟨v, e1, e2⟩ := h2.of_get e
        exact ⟨p, _, dx, _, v, rfl, h1, hc, hn, lookup_zip hd hf e1, k _ H same0 e2⟩
      · cases e
    · cases e
/-- o.m(..) -/
def isIns (c : Nat) : D → Bool
  | .ins c' _ => c' == c
  | _ => false
def dMeth (c : Nat) (t : DF) (ta : DT) (tr : DG En) : DT := fun ρ R X => ta ρ (fun d ρ1 => isIns c d = true ∧ tr ρ1 (fun as ρ2 => t (.dat d :: as) (fun z => R z ρ2) (fun x => X x ρ2)) X) X
theorem ins_at {K : PySem.W.Frag} {C : Cl} {M : Addr → Prop} {H : Hp} {c : Nat} {d : D} {v : V} (h : Da K C M H d v) (e : isIns c d = true) : ∃ a dx xs, v = .ref a ∧ H a = some (.ins (C.adr c) dx ((C.fld c).zip xs)) := by
  cases d with
  | ins c' fs =>
    have e' : c' = c := by simpa [isIns] using e
    subst e'
    unfold Da at h
    obtain ⟨p, dx, xs, rfl, n, h1, _⟩ := h
    exact ⟨p, dx, xs, rfl, h1⟩
  | _ => cases e
theorem r_meth {c : Nat} {m : Str} {t : DF} {ta : DT} {tr : DG En} (hm : m ∉ L.C.fld c) : ∀ σ H Q, lift L (dMeth c t ta tr) σ H Q → tMeth (L.C.adr c) m (spE L.K L.C t) [] L.E (lift L ta) (liftA L tr) σ H Q := by
  rintro σ H Q ⟨F, ρ, R, X, er, ht, hR, hX⟩
  refine ⟨F, ρ, _, X, er, ht, fun d ρ1 x H1 h1 st1 er1 da => ?_, hX⟩
  obtain ⟨a, dx, xs, rfl, ha⟩ := ins_at da h1.1
  refine ⟨a, dx, _, rfl, ha, lookup_zip_none hm, ?_⟩
  refine ⟨F, ρ1, _, X, er1, h1.2, fun as ρ2 vs H2 h2 st2 er2 das => ?_, fun x ρ' H' cls dc hx st er' xr => hX x ρ' H' cls dc hx (st1.trans st) er' xr⟩
  show spE L.K L.C t (.ref a :: (vs ++ [])) H2 Q L.E
  rw [List.append_nil]
  refine call_in h2 (st1.trans st2) er2 ?_ hR hX
  unfold ArgL
  exact ⟨_, _, rfl, rfl, (fun z => nomatch z), ⟨_, rfl, er1.da st2 da⟩, das⟩
theorem r_meth0 {c : Nat} {m : Str} {t : DF} {ta : DT} (hm : m ∉ L.C.fld c) : ∀ σ H Q, lift L (dMeth c t ta dNil) σ H Q → tMeth (L.C.adr c) m (spE L.K L.C t) [] L.E (lift L ta) tNil σ H Q := fun σ H Q q => by
  refine lf.mono (r_meth (L := L) (m := m) hm σ H Q q) fun x H1 z => ?_
  obtain ⟨a, dx, fs, e, h1, h2, h3⟩ := z
  exact ⟨a, dx, fs, e, h1, h2, r_nil σ H1 _ h3⟩
/-! the object that is built -/
/-- what a slot owns is changed -/
theorem ER.ownChg {K : PySem.W.Frag} {C : Cl} {i : Nat} {l : Addr} {s s' : SV} {o' : HO} (r : ER K C F H σ ρ) (h : ρ[i]? = some s) (hs : isOwn s = true) (hs' : isOwn s' = true) (hv : σ[i]? = some (some (.ref l)))
    (new : (∀ a o, ¬ MM F σ ρ a → H a = some o → ¬ MM F σ (ρ.set i s') a ∧ upd H l o' a = some o) → Slot K C F (MM F σ (ρ.set i s')) (upd H l o') s' (some (.ref l))) :
    Step F σ ρ H σ (ρ.set i s') (upd H l o') ∧ ER K C F (upd H l o') σ (ρ.set i s') := by
  have hi : i < ρ.length := (List.getElem?_eq_some_iff.mp h).1
  have ow : ∀ a, Own σ (ρ.set i s') a → Own σ ρ a := fun a ⟨j, u, h1, h2, h3⟩ => by
    by_cases e : j = i
    · subst e; exact ⟨j, _, h, hs, h3⟩
    · rw [List.getElem?_set_ne (Ne.symm e)] at h1; exact ⟨j, u, h1, h2, h3⟩
  have oL : Own σ ρ l := ⟨i, _, h, hs, hv⟩
  have nF : ¬ F.M l := r.ownM oL
  have m : ∀ a o, ¬ MM F σ ρ a → H a = some o → ¬ MM F σ (ρ.set i s') a ∧ upd H l o' a = some o := fun a o n e => ⟨fun z => z.elim (fun q => n (.inl q)) fun q => n (.inr (ow a q)), by rw [upd_ne (show a ≠ l from fun z => n (.inr (z ▸ oL)))]; exact e⟩
  refine ⟨fun a o e n _ => ⟨by rw [upd_ne (show a ≠ l from fun z => n (z ▸ oL))]; exact e, fun z => n (ow a z)⟩, ⟨by rw [List.length_set]; exact r.len, fun j u w h1 h2 => ?_, fun j k u u' a h1 h2 h3 h4 h5 h6 => ?_, ⟨r.bag.ok.store _ (r.bag.off nF) (fun b c e z => nF (z ▸ r.bag.cm b c e)) (fun φ e => (r.ownX oL e).elim), r.bag.ex, r.bag.cm⟩, fun a ha => ?_, r.tb⟩⟩
  · by_cases e : j = i
    · subst e
      rw [List.getElem?_set_self hi] at h1
      cases h1
      rw [hv] at h2; cases h2
      exact new m
    · rw [List.getElem?_set_ne (Ne.symm e)] at h1
      have q := r.slot j u w h1 h2
      have ne : ∀ l', isOwn u = true → w = some (.ref l') → l' ≠ l := fun l' o e1 e2 => e (r.apart j i u _ l h1 h o hs (by rw [h2, e1, e2]) hv)
      cases u with
      | no => exact trivial
      | dat d' => obtain ⟨x, e, z⟩ := q; exact ⟨x, e, Da.mono m _ _ z⟩
      | own ds => obtain ⟨l', ys, e, n, h1, h2⟩ := q; exact ⟨l', ys, e, n, by rw [upd_ne (ne l' rfl e)]; exact h1, DaL.mono m _ _ h2⟩
      | ownD ks ds => obtain ⟨l', ys, e, n, h1, h3, h2⟩ := q; exact ⟨l', ys, e, n, by rw [upd_ne (ne l' rfl e)]; exact h1, h3, DaL.mono m _ _ h2⟩
      | ownI c ns ds => obtain ⟨l', ys, e, n, h1, h3, h2⟩ := q; exact ⟨l', ys, e, n, by rw [upd_ne (ne l' rfl e)]; exact h1, h3, DaL.mono m _ _ h2⟩
      | bag => exact q
  · have back : ∀ (n : Nat) (u : SV), (ρ.set i s')[n]? = some u → isOwn u = true → ∃ u', ρ[n]? = some u' ∧ isOwn u' = true := fun n u q o => by
      by_cases e : n = i
      · subst e; exact ⟨_, h, hs⟩
      · rw [List.getElem?_set_ne (Ne.symm e)] at q; exact ⟨u, q, o⟩
    obtain ⟨s1, q1, o1⟩ := back j u h1 h3
    obtain ⟨s2, q2, o2⟩ := back k u' h2 h4
    exact r.apart j k s1 s2 a q1 q2 o1 o2 h5 h6
  · by_cases e : a = l
    · subst e; exact ⟨_, upd_same⟩
    · obtain ⟨o, q⟩ := r.there a ha
      exact ⟨o, by rw [upd_ne e]; exact q⟩
def putI (f : Str) (d : D) : List Str → List D → List Str × List D
  | n :: ns, x :: ds => if n = f then (n :: ns, d :: ds) else (n :: (putI f d ns ds).1, x :: (putI f d ns ds).2)
  | _, _ => ([f], [d])
theorem putI_of {K : PySem.W.Frag} {C : Cl} {M : Addr → Prop} {H : Hp} {f : Str} {d : D} {v : V} (hd : Da K C M H d v) : ∀ {ns : List Str} {ds : List D} {xs : List V}, ns.length = xs.length → DaL K C M H ds xs →
    ∃ ys, putF f v (ns.zip xs) = (putI f d ns ds).1.zip ys ∧ (putI f d ns ds).1.length = ys.length ∧ DaL K C M H (putI f d ns ds).2 ys
  | [], ds, xs, hl, h => by
    have e : xs = [] := List.length_eq_zero_iff.mp hl.symm
    subst e
    have e2 : ds = [] := h.nil_iff.mp rfl
    subst e2
    exact ⟨[v], rfl, rfl, DaL.cons hd DaL.nil⟩
  | n :: ns, ds, [], hl, h => by simp at hl
  | n :: ns, [], x :: xs, hl, h => by have := h.length; simp at this
  | n :: ns, e :: ds, x :: xs, hl, h => by
    unfold DaL at h
    obtain ⟨x', xs', ex, h1, h2⟩ := h
    cases ex
    unfold putI
    rw [List.zip_cons_cons]
    unfold putF
    by_cases q : n = f
    · rw [if_pos q, if_pos q]
      exact ⟨v :: xs, rfl, by simpa using hl, DaL.cons hd h2⟩
    · rw [if_neg q, if_neg q]
      obtain ⟨ys, e1, e2, e3⟩ := putI_of hd (ns := ns) (by simpa using hl) h2
      exact ⟨x :: ys, by rw [e1]; rfl, by simpa using e2, DaL.cons h1 e3⟩
/-- self.f = e -/
def dSetF (c : Nat) (i : Nat) (f : Str) (tv : DT) : DS := fun G ρ => tv ρ (fun d ρ1 => match ρ1[i]? with
  | some (.ownI c' ns ds) => c' = c ∧ ns.length < 1000 ∧ G.nx (ρ1.set i (.ownI c (putI f d ns ds).1 (putI f d ns ds).2))
  | _ => False) G.ex
theorem s_setF {c : Nat} {i : Nat} {f : Str} {tv : DT} (hc : Cls L.K (L.C.adr c)) (hn : NoAttr L.K (L.C.adr c) f) : ∀ E σ H, liftS L (dSetF c i f tv) E σ H → sFld L.K (tVar i) (lift L tv) f E σ H := by
  rintro E σ H ⟨F, ρ, G, er, ht, g⟩
  refine ⟨F, ρ, _, G.ex, er, ht, fun d ρ1 y H1 h1 st1 er1 da => ?_, g.lfx⟩
  split at h1
  · rename_i c' ns ds hi
    obtain ⟨ec, h1⟩ := h1
    subst ec
    obtain ⟨v, hv, l, q, rfl, nM, h2, h3, h4⟩ := er1.at hi
    refine ⟨_, hv, l, L.C.adr c', q.2, _, rfl, h2, hc, hn, ?_, ?_⟩
    · rw [List.length_zip, ← h3.1, Nat.min_self]; exact h1.1
    · obtain ⟨ys, e1, e2, e3⟩ := putI_of (f := f) da h3.1 h4
      rw [e1]
      obtain ⟨st2, er2⟩ := er1.ownChg (s' := .ownI c' (putI f d ns ds).1 (putI f d ns ds).2) (o' := .ins (L.C.adr c') q.2 ((putI f d ns ds).1.zip ys)) hi rfl rfl hv fun m => ⟨l, (ys, q.2), rfl, nM, upd_same, ⟨e2, h3.2⟩, DaL.mono m _ _ e3⟩
      exact g.nx _ _ _ h1.2 (st1.trans st2) er2
  · exact h1.elim
/-- self.f, of the object that is built -/
def dFldO (c : Nat) (i : Nat) (f : Str) : DT := fun ρ R _ => match ρ[i]? with
  | some (.ownI c' ns ds) => c' = c ∧ ns.Nodup ∧ ∃ (j : Nat) (d : D), ns[j]? = some f ∧ ds[j]? = some d ∧ R d ρ
  | _ => False
theorem r_fldO {c : Nat} {i : Nat} {f : Str} (hc : Cls L.K (L.C.adr c)) (hn : NoAttr L.K (L.C.adr c) f) : ∀ σ H Q, lift L (dFldO c i f) σ H Q → tFld L.K (tVar i) f σ H Q := by
  rintro σ H Q ⟨F, ρ, R, X, er, ht, hR, hX⟩
  unfold dFldO at ht
  split at ht
  · rename_i c' ns ds hi
    obtain ⟨ec, nd, j, d, h1, h2, hr⟩ := ht
    subst ec
    obtain ⟨v, hv, l, q, rfl, nM, h3, h4, h5⟩ := er.at hi
    obtain ⟨x, e1, e2⟩ := h5.of_get h2
    exact ⟨_, hv, l, _, q.2, _, x, rfl, h3, hc, hn, lookup_zip nd h1 e1, hR d ρ x H hr Step.refl er e2⟩
  · exact ht.elim
/-! C(..): __init__ fills the new object -/
/-- all but the object at a and the bag stays -/
def spI (K : PySem.W.Frag) (C : Cl) (c : Nat) (t : DF) : Sp := fun vs H Q E => ∃ (F : Fx) (ρ : En) (R : D → Prop) (X : Xc → Prop), ER K C F H (vs.map some) (.ownI c [] [] :: ρ) ∧ (∀ s ∈ ρ, isOwn s = false) ∧ t ρ R X ∧
  (∀ d H', R d → (∀ a o, H a = some o → a ≠ F.A → ¬ F.B.Ex a → H' a = some o) → F.B.Ok F.M H' → Da K C F.M H' d (.ref F.A) → Q .non H') ∧
  (∀ x cls dc H', X x → (∀ a o, H a = some o → a ≠ F.A → ¬ F.B.Ex a → H' a = some o) → F.B.Ok F.M H' → XRel K C F.M H' x cls dc → E cls dc H')
def dMake (t : DF) (dds : List D) (ta : DG En) : DT := fun ρ R X => ta ρ (fun as ρ1 => t (as ++ dds.map .dat) (fun d => R d ρ1) (fun x => X x ρ1)) X
theorem ArgL.ofDats {K : PySem.W.Frag} {C : Cl} {M : Addr → Prop} : ∀ {ds : List D} {vs : List V}, DaL K C M H ds vs → ArgL K C F M H (ds.map .dat) vs
  | [], vs, h => by unfold DaL at h; unfold List.map ArgL; exact h
  | d :: ds, vs, h => by
    unfold DaL at h
    obtain ⟨v, r, rfl, h1, h2⟩ := h
    show ArgL K C F M H (.dat d :: ds.map .dat) (v :: r)
    unfold ArgL
    exact ⟨v, r, rfl, rfl, (fun z => nomatch z), ⟨v, rfl, h1⟩, ArgL.ofDats h2⟩
theorem make_inF {c : Nat} {t : DF} {as : En} {vs : List V} {Q : VK} {R : D → Prop} {X : Xc → Prop} {ρ1 : En} {H1 : Hp} {x dx : Addr} (h1 : t as R X) (er1 : ER L.K L.C F H1 σ ρ1) (da : ArgL L.K L.C F (MM F σ ρ1) H1 as vs)
    (hR : ∀ d H', R d → FStep F H1 H' → F.B.Ok (MM F σ ρ1) H' → Da L.K L.C (MM F σ ρ1) H' d (.ref x) → Q (.ref x) H')
    (hX : ∀ x cls dc H', X x → FStep F H1 H' → F.B.Ok (MM F σ ρ1) H' → XRel L.K L.C (MM F σ ρ1) H' x cls dc → L.E cls dc H') (hx : H1 x = none) (hdx : H1 dx = none) (ne : dx ≠ x) :
    spI L.K L.C c t (.ref x :: vs) (upd (upd H1 dx (.own x)) x (.ins (L.C.adr c) dx [])) (fun v H2 => v = .non ∧ Q (.ref x) H2) L.E := by
  have sm1 : Same H1 (upd H1 dx (.own x)) := Same.laid _ hdx
  have hx1 : upd H1 dx (.own x) x = none := by rw [upd_ne (Ne.symm ne)]; exact hx
  have sm : Same H1 (upd (upd H1 dx (.own x)) x (.ins (L.C.adr c) dx [])) := sm1.trans (Same.laid _ hx1)
  have nM : ¬ MM F σ ρ1 x := er1.newMM hx
  have er2 := er1.same sm
  have das : ArgL L.K L.C F (MM F σ ρ1) (upd (upd H1 dx (.own x)) x (.ins (L.C.adr c) dx [])) as vs := ArgL.mono (fun a o n e => ⟨n, sm a o e⟩) da
  obtain ⟨l1, l2, l3⟩ := das.slots
  have nx : ∀ (i : Nat), (vs.map some)[i]? = some (some (V.ref x)) → as[i]? = some SV.no ∨ ∃ d, as[i]? = some (.dat d) ∨ as[i]? = some .bag := fun i e => by
    cases q : as[i]? with
    | none =>
      have := (List.getElem?_eq_some_iff.mp e).1
      rw [l1] at this
      rw [List.getElem?_eq_none_iff] at q
      omega
    | some s =>
      have no := l2 s (List.mem_of_getElem? q)
      cases s with
      | no => exact .inl rfl
      | dat d => exact .inr ⟨d, .inl rfl⟩
      | bag => exact .inr ⟨.non, .inr rfl⟩
      | own ds => cases no
      | ownD ks ds => cases no
      | ownI c ns ds => cases no
  have ow : ∀ a, Own ((V.ref x :: vs).map some) (.ownI c [] [] :: as) a → a = x := fun a ⟨i, s, h1, h2, h3⟩ => by
    cases i with
    | zero => simp at h3; exact h3.symm
    | succ i =>
      have no := l2 s (List.mem_of_getElem? (by simpa using h1))
      rw [no] at h2; cases h2
  have w : ∀ a o, ¬ MM F σ ρ1 a → upd (upd H1 dx (.own x)) x (.ins (L.C.adr c) dx []) a = some o → a ≠ x → ¬ MM ⟨MM F σ ρ1, F.B, x⟩ ((V.ref x :: vs).map some) (.ownI c [] [] :: as) a := fun a o n _ nx z => z.elim n fun q => nx (ow a q)
  have wH : ∀ a o, ¬ MM F σ ρ1 a → H1 a = some o → ¬ MM ⟨MM F σ ρ1, F.B, x⟩ ((V.ref x :: vs).map some) (.ownI c [] [] :: as) a ∧ upd (upd H1 dx (.own x)) x (.ins (L.C.adr c) dx []) a = some o := fun a o n e => ⟨w a o n (sm a o e) (ne_of_none e hx), sm a o e⟩
  have das' : ArgL L.K L.C F (MM ⟨MM F σ ρ1, F.B, x⟩ ((V.ref x :: vs).map some) (.ownI c [] [] :: as)) (upd (upd H1 dx (.own x)) x (.ins (L.C.adr c) dx [])) as vs := ArgL.mono wH da
  obtain ⟨_, _, l4⟩ := das'.slots
  refine ⟨⟨MM F σ ρ1, F.B, x⟩, as, _, _, ⟨by simpa using l1, fun i s v e1 e2 => ?_, fun i j s u a e1 e2 e3 e4 e5 e6 => ?_, er2.bag.to (er2.bag.ok.more fun a φ z e => z.elim id fun q => (er2.ownX q e).elim) fun a z => .inl z, fun a h => ?_, er1.tb⟩, l2, h1, fun d H' hr fs hb dd => ⟨rfl, ?_⟩, fun xx cls dc H' hxx fs hb xr => ?_⟩
  · cases i with
    | zero =>
      simp at e1 e2
      subst e1 e2
      exact ⟨x, ([], dx), rfl, nM, upd_same, ⟨rfl, rfl⟩, DaL.nil⟩
    | succ i =>
      have q := l4 i s v (by simpa using e1) (by simpa using e2)
      have no := l2 s (List.mem_of_getElem? (by simpa using e1))
      cases s with
      | no => exact trivial
      | dat d => exact q
      | bag => exact q
      | own ds => cases no
      | ownD ks ds => cases no
      | ownI c ns ds => cases no
  · have z : ∀ (m : Nat) (s : SV), (SV.ownI c [] [] :: as)[m]? = some s → isOwn s = true → m = 0 := fun m s q o => by
      cases m with
      | zero => rfl
      | succ m => rw [l2 s (List.mem_of_getElem? (by simpa using q))] at o; cases o
    rw [z i s e1 e3, z j u e2 e4]
  · obtain ⟨o, q⟩ : ∃ o, H1 a = some o := by
      rcases h with h | ⟨i, s, q1, q2, q3⟩
      · exact er1.there a h
      · have q := er1.slot i s _ q1 q3
        cases s with
        | own ds => obtain ⟨l, xs, e, n, g1, g2⟩ := q; cases e; exact ⟨_, g1⟩
        | ownD ks ds => obtain ⟨l, xs, e, n, g1, g2⟩ := q; cases e; exact ⟨_, g1⟩
        | ownI c ns ds => obtain ⟨l, xs, e, n, g1, g2⟩ := q; cases e; exact ⟨_, g1⟩
        | no => cases q2
        | bag => cases q2
        | dat d => cases q2
    exact ⟨o, sm a o q⟩
  · exact hR d H' hr (fun a o e nb => fs a o (sm a o e) (ne_of_none e hx) nb) hb dd
  · exact hX xx cls dc H' hxx (fun a o e nb => fs a o (sm a o e) (ne_of_none e hx) nb) hb xr
theorem make_in {c : Nat} {t : DF} {as : En} {vs : List V} {Q : VK} {R : D → En → Prop} {X : XP} {ρ1 : En} {H1 : Hp} {x dx : Addr} (h1 : t as (fun d => R d ρ1) (fun x => X x ρ1)) (st1 : Step F σ ρ H σ ρ1 H1) (er1 : ER L.K L.C F H1 σ ρ1) (da : ArgL L.K L.C F (MM F σ ρ1) H1 as vs)
    (hR : ∀ d ρ' v H', R d ρ' → Step F σ ρ H σ ρ' H' → ER L.K L.C F H' σ ρ' → Da L.K L.C (MM F σ ρ') H' d v → Q v H')
    (hX : ∀ x ρ' H' cls dc, X x ρ' → Step F σ ρ H σ ρ' H' → ER L.K L.C F H' σ ρ' → XRel L.K L.C (MM F σ ρ') H' x cls dc → L.E cls dc H') (hx : H1 x = none) (hdx : H1 dx = none) (ne : dx ≠ x) :
    spI L.K L.C c t (.ref x :: vs) (upd (upd H1 dx (.own x)) x (.ins (L.C.adr c) dx [])) (fun v H2 => v = .non ∧ Q (.ref x) H2) L.E := by
  refine make_inF h1 er1 da (fun d H' hr fs hb dd => ?_) (fun xx cls dc H' hxx fs hb xr => ?_) hx hdx ne
  · obtain ⟨st3, er3⟩ := er1.fstep (H' := H') fs (hb.weak fun a z => .inl z)
    exact hR d ρ1 _ H' hr (st1.trans st3) er3 dd
  · obtain ⟨st3, er3⟩ := er1.fstep (H' := H') fs (hb.weak fun a z => .inl z)
    exact hX xx ρ1 H' cls dc hxx (st1.trans st3) er3 xr
theorem r_make {c : Nat} {t : DF} {dds : List D} {dvs : List V} {ta : DG En} (hd : ∀ M H, DaL L.K L.C M H dds dvs) : ∀ σ H Q, lift L (dMake t dds ta) σ H Q → tMake (L.C.adr c) (spI L.K L.C c t) dvs L.E (liftA L ta) σ H Q := by
  rintro σ H Q ⟨F, ρ, R, X, er, ht, hR, hX⟩
  refine ⟨F, ρ, _, X, er, ht, fun as ρ1 vs H1 h1 st1 er1 da => ?_, hX⟩
  intro x dx hx hdx ne
  exact make_in h1 st1 er1 (ArgL.append da (ArgL.ofDats (hd _ _))) hR hX hx hdx ne
theorem r_make0 {c : Nat} {t : DF} {dds : List D} {dvs : List V} (hd : ∀ M H, DaL L.K L.C M H dds dvs) : ∀ σ H Q, lift L (dMake t dds dNil) σ H Q → tMake (L.C.adr c) (spI L.K L.C c t) dvs L.E tNil σ H Q := fun σ H Q q => r_nil σ H _ (r_make hd σ H Q q)
end

end
end Ag
namespace Ag
open PySem L2
open C8 (pss_cut tCut)
section
variable {P : Program} {w : World} {K : PySem.W.Frag} {mg : Str → Option Value} {base : Heap} {cs : List (Str × Addr)}
/-! __init__ and methods as defs -/
section
variable {F : Fx} {H H' : Hp} {σ σ' : St} {ρ ρ' : En} {C : Cl}
theorem ER.start' {N : List Str} {vs : List V} (r : ER K C F H (vs.map some) ρ) : ER K C F H (L2.start N vs) (ρ ++ List.replicate (N.length - vs.length) .no) ∧ ∀ a, Own (L2.start N vs) (ρ ++ List.replicate (N.length - vs.length) .no) a → Own (vs.map some) ρ a := by
  have hl : ρ.length = vs.length := by have := r.len; simpa using this.symm
  have low : ∀ (i : Nat) (s : SV), (ρ ++ List.replicate (N.length - vs.length) SV.no)[i]? = some s → isOwn s = true → i < ρ.length ∧ ρ[i]? = some s := fun i s h o => by
    by_cases hi : i < ρ.length
    · rw [List.getElem?_append_left hi] at h; exact ⟨hi, h⟩
    · rw [List.getElem?_append_right (by omega)] at h
      rw [repl_no h] at o; cases o
  have val : ∀ (i : Nat) (v : Option V), i < ρ.length → (L2.start N vs)[i]? = some v → (vs.map some)[i]? = some v := fun i v hi h => by
    unfold L2.start at h
    rwa [List.getElem?_append_left (by simp; omega)] at h
  have ow : ∀ a, Own (L2.start N vs) (ρ ++ List.replicate (N.length - vs.length) .no) a → Own (vs.map some) ρ a := fun a ⟨i, s, h1, h2, h3⟩ => by
    obtain ⟨hi, h1'⟩ := low i s h1 h2
    exact ⟨i, s, h1', h2, val i _ hi h3⟩
  refine ⟨⟨by simp [L2.start, hl], fun i s v h1 h2 => ?_, fun i j s u a h1 h2 h3 h4 h5 h6 => ?_, r.bag, r.there, r.tb⟩, ow⟩
  · by_cases hi : i < ρ.length
    · rw [List.getElem?_append_left hi] at h1
      exact (r.slot i s v h1 (val i v hi h2)).weak fun a z => z.elim .inl fun q => .inr (ow a q)
    · rw [List.getElem?_append_right (by omega)] at h1
      rw [repl_no h1]; exact trivial
  · obtain ⟨hi, h1'⟩ := low i s h1 h3
    obtain ⟨hj, h2'⟩ := low j u h2 h4
    exact r.apart i j s u a h1' h2' h3 h4 (val i _ hi h5) (val j _ hj h6)
theorem body_init {N : List Str} {vs : List V} {tb : DS} {t : DF} {Q : VK} {E E' : XK} {ps : List Str} {c : Nat} (hl : ∀ ρ R X, t ρ R X → ρ.length + 1 = ps.length) (hX : ∀ cls dc H, E cls dc H → E' cls dc H)
    (ht : ∀ ρ R X, t ρ R X → tb { nx := fun ρ' => ∃ ds, ρ'[0]? = some (.ownI c (C.fld c) ds) ∧ R (.ins c ds), rt := fun _ => False, ex := fun x _ => X x } (.ownI c [] [] :: (ρ ++ List.replicate (N.length - ps.length) .no))) (h : spI K C c t vs H Q E) :
    liftS ⟨K, C, E'⟩ tb { nx := fun _ H' => Q .non H', rt := Q } (L2.start N vs) H := by
  obtain ⟨F, ρ, R, X, er, hn, h, hR, hXx⟩ := h
  obtain ⟨er', ow⟩ := er.start' (N := N)
  have hv : vs.length = ps.length := by have := er.len; simp at this; rw [this]; exact hl _ _ _ h
  rw [hv] at er' ow
  have own0 : ∀ a, Own (L2.start N vs) (.ownI c [] [] :: ρ ++ List.replicate (N.length - ps.length) .no) a → a = F.A := fun a z => by
    obtain ⟨i, s, h1, h2, h3⟩ := ow a z
    have q := er.slot i s _ h1 h3
    cases i with
    | zero =>
      simp at h1; subst h1
      obtain ⟨l, xs, e, n, g1, g2, g3⟩ := q
      cases e; exact g2.2
    | succ i => rw [hn s (List.mem_of_getElem? (by simpa using h1))] at h2; cases h2
  have fs : ∀ {σ' ρ' H'}, Step F (L2.start N vs) (.ownI c [] [] :: ρ ++ List.replicate (N.length - ps.length) .no) H σ' ρ' H' → ∀ a o, H a = some o → a ≠ F.A → ¬ F.B.Ex a → H' a = some o := fun st a o e n nb => (st a o e (fun z => n (own0 a z)) nb).1
  refine ⟨F, _, _, er', ht _ _ _ h, ⟨fun σ' ρ' H' k st e => ?_, fun d v σ' ρ' H' k => k.elim, fun _ _ _ k => k.elim, fun _ _ _ k => k.elim, fun x σ' ρ' H' cls dc k st e xr => hX _ _ _ (hXx x cls dc H' k (fs st) e.bag.ok ?_)⟩⟩
  · obtain ⟨ds, h0, hr⟩ := k
    obtain ⟨v, hv0, l, q, rfl, nM, g1, g2, g3⟩ := e.at h0
    refine hR _ H' hr (fs st) e.bag.ok ?_
    unfold Da
    obtain ⟨g2a, g2b⟩ := g2
    subst g2b
    exact ⟨F.A, q.2, q.1, rfl, nM, g1, g2a, g3.weak fun a z => .inl z⟩
  · obtain ⟨e1, d, vs', e2, e3, e4, e5⟩ := xr
    exact ⟨e1, d, vs', e2, e3, e4, e5.weak fun a z => .inl z⟩
theorem okDf {x qual : Str} {params : Arguments} {body : List Stmt} {scope : Scope} {dvs : List V} {kws : List (Str × V)} {f : Addr} {fd : FuncData} {N ps : List Str} {k : Nat} {sp : Sp} (F : FunD K x qual params body scope dvs kws f fd) (S : FnScope N ps scope) (len : ∀ vs H Q E, sp vs H Q E → vs.length = ps.length)
    (hbody : ∀ (cdv : Value) (A : Around) (outer : List Env) (s : Shared) (H : Hp) (vs : List V) (Q : VK) (E : XK), Room k (A.deeper (PyProof.Rows.envOfC qual scope s.heap.objs.size f cdv)) → sp vs H Q E →
      ∃ t, PSs (cxOf CX0 P w K mg base N qual scope f cdv A outer s H E).nox body t ∧ t { nx := fun _ H' => Q .non H', rt := Q } (L2.start N vs) H) : FnOk P w K mg base CX0 (k + 1) f fd ps sp :=
  F.ok S len fun cdv A outer s H vs Q E hr h => let ⟨t, h1, h2⟩ := hbody cdv A outer s H vs Q E hr h; ⟨t, h1.nox, h2⟩
theorem spI_len {c : Nat} {t : DF} {n : Nat} (hl : ∀ ρ R X, t ρ R X → ρ.length + 1 = n) : ∀ vs H Q E, spI K C c t vs H Q E → vs.length = n := fun vs H Q E h => by
  obtain ⟨F, ρ, R, X, er, hn, h, _⟩ := h
  have := er.len
  simp at this
  rw [this]; exact hl _ _ _ h
theorem spE_len {t : DF} {n : Nat} (hl : ∀ ρ R X, t ρ R X → ρ.length = n) : ∀ vs H Q E, spE K C t vs H Q E → vs.length = n := fun vs H Q E h => by
  obtain ⟨F, ρ, R, X, er, hn, h, _⟩ := h
  have := er.len
  rw [hl _ _ _ h] at this
  simpa using this
/-- an __init__ that raises nothing -/
theorem FunD.okI {x qual : Str} {params : Arguments} {body : List Stmt} {scope : Scope} {dvs : List V} {kws : List (Str × V)} {f : Addr} {fd : FuncData} {N ps : List Str} {k : Nat} {t : DF} {tb : DS} {c : Nat} (F : FunD K x qual params body scope dvs kws f fd) (S : FnScope N ps scope) (hl : ∀ ρ R X, t ρ R X → ρ.length + 1 = ps.length)
    (hbody : ∀ (cdv : Value) (A : Around) (outer : List Env) (s : Shared) (H : Hp) (E : XK), Room k (A.deeper (PyProof.Rows.envOfC qual scope s.heap.objs.size f cdv)) →
      PSs (cxOf CX0 P w K mg base N qual scope f cdv A outer s H E).nox body (liftS ⟨K, C, E⟩ tb))
    (ht : ∀ ρ R X, t ρ R X → tb { nx := fun ρ' => ∃ ds, ρ'[0]? = some (.ownI c (C.fld c) ds) ∧ R (.ins c ds), rt := fun _ => False, ex := fun x _ => X x } (.ownI c [] [] :: (ρ ++ List.replicate (N.length - ps.length) .no))) : FnOk P w K mg base CX0 (k + 1) f fd ps (spI K C c t) :=
  okDf F S (spI_len hl) fun cdv A outer s H vs Q E hr h => ⟨_, hbody cdv A outer s H E hr, body_init hl (fun _ _ _ q => q) ht h⟩
theorem FunD.okD {x qual : Str} {params : Arguments} {body : List Stmt} {scope : Scope} {dvs : List V} {kws : List (Str × V)} {f : Addr} {fd : FuncData} {N ps : List Str} {k : Nat} {t : DF} {tb : DS} (F : FunD K x qual params body scope dvs kws f fd) (S : FnScope N ps scope) (hl : ∀ ρ R X, t ρ R X → ρ.length = ps.length)
    (hbody : ∀ (cdv : Value) (A : Around) (outer : List Env) (s : Shared) (H : Hp) (E : XK), Room k (A.deeper (PyProof.Rows.envOfC qual scope s.heap.objs.size f cdv)) →
      PSs (cxOf CX0 P w K mg base N qual scope f cdv A outer s H E).nox body (liftS ⟨K, C, E⟩ tb))
    (ht : ∀ ρ R X, t ρ R X → tb { nx := fun _ => R .non, rt := R, ex := fun x _ => X x } (ρ ++ List.replicate (N.length - ps.length) .no)) : FnOk P w K mg base CX0 (k + 1) f fd ps (spE K C t) :=
  okDf F S (spE_len hl) fun cdv A outer s H vs Q E hr h => ⟨_, hbody cdv A outer s H E hr, body_in hl (fun _ _ _ q => q) ht h⟩
end
def dInit (c : Nat) (flds : List Str) (n k : Nat) (tb : DS) : DF := fun ρ R X => ρ.length + 1 = n ∧ tb { nx := fun ρ' => ∃ ds, ρ'[0]? = some (.ownI c flds ds) ∧ R (.ins c ds), rt := fun _ => False, ex := fun x _ => X x } (.ownI c [] [] :: (ρ ++ List.replicate k .no))

end
end Ag
namespace Ag
open PySem L2
open C8 (pss_cut tCut)
section
variable {P : Program} {w : World} {K : PySem.W.Frag} {mg : Str → Option Value} {base : Heap} {cs : List (Str × Addr)}
/-! enumerate over a tuple and over a text -/
theorem meets_enum0 {v : Value} {o : Obj} {H : Heap → Prop} (B : Begins v o H) :
    Meets (Builtin.«enumerate.__new__» ⟨[.type "enumerate", v], []⟩) (fun _ R s => H s.heap ∧ R (.ok (.ret (.ref (s.heap.push o).objs.size)))
        { s with heap := (s.heap.push o).push { cls := .type "enumerate", data := .fields #[.none, .bool false, .ref s.heap.objs.size, rawInt 0, .none, .none] } }) :=
  .of_wp fun prog w A R s h => by
    obtain ⟨hp, g, d, tk, os⟩ := s
    obtain ⟨h0, h⟩ := h
    have hsub := sub_enumerate
    have q1 : ∀ {A : Around} {Q : Value → Shared → Prop} {E : Value → Shared → Prop}, Q (.ref hp.objs.size) ⟨hp.push o, g, d, tk, os⟩ → wpAny (model prog w) A (pyIter v) Q E ⟨hp, g, d, tk, os⟩ := fun {A Q E} hq => B.iter prog w A E ⟨hp, g, d, tk, os⟩ Q h0 hq
    wp_walk using q1
    refine wpAny_stack_any fun st => wpAny_pure ?_
    split
    · rename_i c _ _ _ _ _
      cases (c == Value.type "enumerate") <;> (wp_walk using q1; exact ⟨_, rfl, h⟩)
    · wp_walk using q1
      exact ⟨_, rfl, h⟩
theorem enum_begins0 {prog : Program} {w : World} {A : Around} {E : Value → Shared → Prop} {s : Shared} {v : Value} {o : Obj} {H : Heap → Prop} {Q : Value → Shared → Prop} (B : Begins v o H) (h1 : H s.heap)
    (h : ∀ h', IsEnum h' (s.heap.objs.size + 1) s.heap.objs.size 0 .none → h'.get? s.heap.objs.size = some o → (∀ b o, s.heap.get? b = some o → h'.get? b = some o) → Q (.ref (s.heap.objs.size + 1)) { s with heap := h' }) :
    wpAny (model prog w) A (call (.type "enumerate") [v]) Q E s := by
  refine callType_new F.called_enumerate (by decide) (F.typeCall_enumerate_1 _) (F.newCall_enumerate_1 _) (fun obj => F.args_object_init_2 obj _) F.entry_enumerate_new (meets_enum0 B) ⟨h1, ?_⟩
  have hz : (s.heap.push o).objs.size = s.heap.objs.size + 1 := Heap.size_push ..
  have he := Heap.get?_push_size (s.heap.push o) (o := { cls := .type "enumerate", data := .fields #[.none, .bool false, .ref s.heap.objs.size, rawInt 0, .none, .none] }) rfl
  show _ ∧ _
  rw [hz] at he ⊢
  exact ⟨⟨_, he, rfl⟩, h _ he (Heap.get?_push_of_some _ (Heap.get?_push_size _ B.free)) fun b o x => Heap.get?_push_of_some _ (Heap.get?_push_of_some _ x)⟩
/-- the tuple at a, each item in a new pair -/
def IteT (K : PySem.W.Frag) (a : Addr) : It :=
  ⟨fun i H => ∃ (xs : List V) (x : V), SqT K H a xs ∧ xs[i]? = some x, fun i H v H' => ∃ T x, v = .ref T ∧ H T = none ∧ H' = upd H T (.tup [.int (i : Nat), x]) ∧ ∀ xs, SqT K H a xs → xs[i]? = some x, fun i H => ∃ xs : List V, SqT K H a xs ∧ xs.length ≤ i⟩
/-- the text z, each sign in a new pair -/
def IteS (z : Str) : It :=
  ⟨fun i _ => i < z.cps.size, fun i H v H' => ∃ T c, v = .ref T ∧ H T = none ∧ z.cps[i]? = some c ∧ H' = upd H T (.tup [.int (i : Nat), .str ⟨#[c]⟩]), fun i _ => z.cps.size ≤ i⟩
theorem enum_step {X : Cx} {pins : List (Addr × Obj)} {s : Shared} {σ : St} {H : Hp} {E : Value → Shared → Prop} {e it : Addr} {fp : List Addr} {n i : Nat} {Pv : Nat → Value → Prop} {St : Nat → Heap → Prop} {old : Value} {elts : List Expr} {kk : Nat} {tpos : Pos} {Y : V → Hp → Prop} {tn : Heap → Prop}
    (D : Draws X.prog X.w X.A.in1 it fp n Pv St) (I : Inv X pins σ H s) (hf : ∀ b ∈ [e, it], FpOk X pins H b) (he : IsEnum s.heap e it i old) (hst : St i s.heap) (hlt : i < n) (hne : e ≠ it) (hef : e ∉ fp) (hif : it ∈ fp)
    (hv : ∀ u, Pv i u → ∃ x, RelV x u ∧ ∀ T, H T = none → Y (.ref T) (upd H T (.tup [.int (i : Nat), x])))
    (ht : ∀ (h' : Heap) (old' : Value), IsEnum h' e it (((i + 1 : Nat)) : Int) old' → St (i + 1) h' → tn h') :
    wpAny (model X.prog X.w) X.A (pyNext (.ref e)) (fun r s1 => ∃ u, r = some u ∧
      wpAny (model X.prog X.w) X.A (letOwnedTupleGo (.Tuple elts kk tpos) (.ref e) u) (fun _ s2 => ∃ x H', Inv X pins σ H' s2 ∧ RelV x u ∧ Y x H' ∧ tn s2.heap ∧ ∀ b ∈ [e, it], H' b = none) E s1) E s := by
  have hel : e < s.heap.objs.size := Heap.lt_size he
  have hil : it < s.heap.objs.size := by
    obtain ⟨o, q⟩ := D.live _ _ hst
    exact Heap.lt_size q
  refine wpAny_pyNext_enum_itemD D he hst hlt hne hef fun u h' tk hP ho hst' hT hsz hk => ?_
  obtain ⟨x, rx, hY⟩ := hv u hP
  refine ⟨_, rfl, wpAny_letOwnedTupleGo_enum (s := { s with heap := h', toks := tk + 1 }) ho fun h'' he' sb => ?_⟩
  have hT2 : h''.get? s.heap.objs.size = some { cls := .type "tuple", data := .seq #[.int i tk, u] } := (sb.2 _ (Nat.ne_of_gt hel)).trans hT
  have new : ObjOk X.prog X.w (upd H s.heap.objs.size (.tup [.int (i : Nat), x])) h'' s.heap.objs.size (.tup [.int (i : Nat), x]) :=
    ⟨by show 2 ≤ sizeLine; decide, [.int i tk, u], .cons ⟨_, rfl⟩ (.cons rx .nil), ⟨_, hT2, rfl, _, rfl⟩⟩
  have I1 : Inv X pins σ (upd H s.heap.objs.size (.tup [.int (i : Nat), x])) { s with heap := h'', toks := tk + 1 } :=
    I.turnedNew (ch := [e, it]) (fun b ob hb q => (sb.2 b (fun z => hb (by simp [z]))).trans (hk b ob (fun z => hb (by simp [z])) (fun z => hb (by simp [z])) q)) hf (Nat.le_refl _) new
  refine ⟨.ref s.heap.objs.size, _, I1, rfl, hY _ (I.hok.fresh (Nat.le_refl _)), ht h'' _ (by rw [show ((i + 1 : Nat) : Int) = (i : Int) + 1 by omega]; exact he') (D.frame _ _ _ hst' fun b hb o q => (sb.2 b (fun z => hef (z ▸ hb))).trans q), fun b hb => ?_⟩
  have hb' : b < s.heap.objs.size := by
    rcases (show b = e ∨ b = it by simpa using hb) with z | z
    · rw [z]; exact hel
    · rw [z]; exact hil
  rw [upd_ne (Nat.ne_of_lt hb')]
  exact (hf b hb).1
theorem turn_enumT {P : Program} {w : World} {K : PySem.W.Frag} {elts : List Expr} {kk : Nat} {tpos : Pos} (a e it : Addr) :
    Turn P w K (.Tuple elts kk tpos) (IteT K a) [e, it] e (fun i h => (∃ old, IsEnum h e it ((i : Nat) : Int) old) ∧ h.IsTupleIter it a i ∧ e ≠ it) where
  mem := by simp
  obj := fun i h st b hb => by
    obtain ⟨⟨old, he⟩, ⟨o, ho, hc, hd⟩, _⟩ := st
    rcases (show b = e ∨ b = it by simpa using hb) with z | z
    · rw [z]; exact ⟨_, he, fun v q => nomatch q⟩
    · rw [z]; exact ⟨o, ho, fun v q => by rw [hd] at q; cases q⟩
  keep := fun i h h' st k => let ⟨⟨old, he⟩, hi, hne⟩ := st; ⟨⟨old, k e (by simp) _ he⟩, hi.at fun o q => k it (by simp) o q, hne⟩
  item := by
    intro X hP hw hK hc i pins s σ H E I hf st hg
    subst hP hw hK
    obtain ⟨⟨old, he⟩, hit, hne⟩ := st
    obtain ⟨xs, x, hq, hx⟩ := hg
    obtain ⟨its, rv, p, hz⟩ := I.tuple hq
    obtain ⟨u, hu, ru⟩ := rv.get hx
    have pT : s.heap.IsTuple a its.toArray := p
    have na : a ≠ it := fun z => by
      obtain ⟨o1, e1, c1, _⟩ := pT
      obtain ⟨o2, e2, c2, _⟩ := hit
      rw [z, e2] at e1
      cases e1
      rw [c1] at c2
      exact absurd c2 (by decide)
    have ne : e ≠ a := fun z => by
      obtain ⟨o1, e1, c1, _⟩ := pT
      rw [← z, he] at e1
      cases e1
      have c1 : Value.type "enumerate" = Value.type "tuple" := c1
      exact absurd c1 (by decide)
    have D := Draws.tuple (prog := X.prog) (w := X.w) (A := X.A.in1) (I.ok.hd hc) it a na its.toArray
    have hlt : i < its.toArray.size := by
      obtain ⟨h1, _⟩ := List.getElem?_eq_some_iff.mp hu
      simpa using h1
    refine enum_step (Y := (IteT X.K a).yld i H) (tn := fun h => (∃ old, IsEnum h e it (((i + 1 : Nat)) : Int) old) ∧ h.IsTupleIter it a (i + 1) ∧ e ≠ it) D I hf he ⟨hit, pT⟩ hlt hne (by simp [hne, ne]) (by simp) (fun u' hu' => ?_) fun h' old' e1 st' => ⟨⟨_, e1⟩, st'.1, hne⟩
    have e2 : its[i]? = some u' := by simpa using hu'
    rw [hu] at e2
    cases e2
    exact ⟨x, ru, fun T hT => ⟨T, x, rfl, hT, rfl, fun ys hy => by rw [I.tuple_inj hy hq]; exact hx⟩⟩
  done := by
    intro X hP hw hK hc i pins s σ H E I hf st hg
    subst hP hw hK
    obtain ⟨⟨old, he⟩, hit, hne⟩ := st
    obtain ⟨xs, hq, hx⟩ := hg
    obtain ⟨its, rv, p, hz⟩ := I.tuple hq
    obtain ⟨f0, f1, f2, f3, f4, f5⟩ := hf it (by simp)
    have hl := rv.length
    have D : Draws X.prog X.w X.A.in1 it [it, a] i (fun _ _ => True) (fun j h => j = i ∧ h.IsTupleIter it a i ∧ h.IsTuple a its.toArray) := {
      live := fun _ _ st => let ⟨o, ho, _⟩ := st.2.1; ⟨o, ho⟩
      frame := fun _ _ _ st hk => ⟨st.1, st.2.1.at fun o e => hk it (by simp) o e, st.2.2.at fun o e => hk a (by simp) o e⟩
      item := fun j _ _ _ hj st _ => absurd st.1 (Nat.ne_of_lt hj)
      done := fun s Q E st hE => wpAny_nextOf_tuple_end (I.ok.hd hc) st.2.1 st.2.2 (by simp; omega) hE }
    exact wpAny_pyNext_enum_endD D he ⟨rfl, hit, p⟩ fun h' eb => ⟨rfl, I.turned (t' := s.toks) (fun b o hb q => eb b o hb q) f0 f1 f3 f4 f5⟩
  self := fun A i s Q E st h => let ⟨⟨_, he⟩, _⟩ := st; wpAny_pyIter_enum he h
theorem turn_enumS {P : Program} {w : World} {K : PySem.W.Frag} {elts : List Expr} {kk : Nat} {tpos : Pos} (z : Str) (t : Tok) (e it : Addr) :
    Turn P w K (.Tuple elts kk tpos) (IteS z) [e, it] e (fun i h => i ≤ z.cps.size ∧ (∃ old, IsEnum h e it ((i : Nat) : Int) old) ∧ h.IsStrIter it (strIterType z) z t i ∧ e ≠ it) where
  mem := by simp
  obj := fun i h st b hb => by
    obtain ⟨_, ⟨old, he⟩, ⟨o, ho, hc, hd⟩, _⟩ := st
    rcases (show b = e ∨ b = it by simpa using hb) with z | z
    · rw [z]; exact ⟨_, he, fun v q => nomatch q⟩
    · rw [z]; exact ⟨o, ho, fun v q => by rw [hd] at q; cases q⟩
  keep := fun i h h' st k => let ⟨hl, ⟨old, he⟩, hi, hne⟩ := st; ⟨hl, ⟨old, k e (by simp) _ he⟩, (let ⟨o, h1, h2, h3⟩ := hi; ⟨o, k it (by simp) o h1, h2, h3⟩), hne⟩
  item := by
    intro X hP hw hK hc i pins s σ H E I hf st hg
    subst hP hw hK
    obtain ⟨_, ⟨old, he⟩, hit, hne⟩ := st
    have D := Draws.text (prog := X.prog) (w := X.w) (A := X.A.in1) (I.ok.hd hc) it z t
    refine enum_step (Y := (IteS z).yld i H) (tn := fun h => i + 1 ≤ z.cps.size ∧ (∃ old, IsEnum h e it (((i + 1 : Nat)) : Int) old) ∧ h.IsStrIter it (strIterType z) z t (i + 1) ∧ e ≠ it) D I hf he hit hg hne (by simp [hne]) (by simp) (fun u' hu' => ?_) fun h' old' e1 st' => ⟨hg, ⟨_, e1⟩, st', hne⟩
    obtain ⟨c, v, hc', rfl⟩ := hu'
    exact ⟨.str ⟨#[c]⟩, ⟨_, rfl⟩, fun T hT => ⟨T, c, rfl, hT, hc', rfl⟩⟩
  done := by
    intro X hP hw hK hc i pins s σ H E I hf st hg
    subst hP hw hK
    obtain ⟨hl, ⟨old, he⟩, hit, hne⟩ := st
    obtain ⟨f0, f1, f2, f3, f4, f5⟩ := hf it (by simp)
    have ei : i = z.cps.size := Nat.le_antisymm hl hg
    subst ei
    have D := Draws.text (prog := X.prog) (w := X.w) (A := X.A.in1) (I.ok.hd hc) it z t
    exact wpAny_pyNext_enum_endD D he hit fun h' eb => ⟨rfl, I.turned (t' := s.toks) (fun b o hb q => eb b o hb q) f0 f1 f3 f4 f5⟩
  self := fun A i s Q E st h => let ⟨_, ⟨_, he⟩, _⟩ := st; wpAny_pyIter_enum he h
def iEnumA (K : PySem.W.Frag) (ta : TA) : TI := fun σ H R => ta σ H fun vs H1 => (∃ a xs, vs = [.ref a] ∧ ((SqL K H1 a xs ∧ R (Ite K a) H1) ∨ (SqT K H1 a xs ∧ R (IteT K a) H1))) ∨ ∃ z, vs = [.str z] ∧ R (IteS z) H1
/-- enumerate over a list, a tuple, a text -/
theorem pi_enumA {X : Cx} {e : Expr} {ta : TA} {p pos tpos : Pos} {elts : List Expr} {kk : Nat} (hg : Gl X "enumerate") (hm : X.mg "enumerate" = none) (ha : PA X [e] ta) (hs : starEach [e] X.env = [(false, eval e X.env)] := by rfl) :
    PI X (.Tuple elts kk tpos) (.Call (.Name "enumerate" p) [e] [] pos) (iEnumA X.K ta) := by
  refine ⟨fun pins s σ H R I h => ?_⟩
  refine PyProof.Rows.Call_ (ld_blt I hg hm PyProof.Rows.boot_enumerate (PyProof.Rows.callWith_type1 (thn (ha.run pos pins s σ H _ I h) fun us s1 ⟨vs, H1, I1, r1, q1⟩ => ?_) hs rfl))
  have two : ∀ {b : Addr}, b ∈ [s1.heap.objs.size + 1, s1.heap.objs.size] → FpOk X pins H1 b := fun {b} hb => by
    have hle : s1.heap.objs.size ≤ b := by
      rcases (show b = s1.heap.objs.size + 1 ∨ b = s1.heap.objs.size by simpa using hb) with z | z
      · rw [z]; exact Nat.le_add_right _ _
      · rw [z]; exact Nat.le_refl _
    exact I1.fpOk hle (I1.hok.fresh hle)
  rcases q1 with ⟨a, xs, ex, ⟨hq, q⟩ | ⟨hq, q⟩⟩ | ⟨z, ex, q⟩
  all_goals
    subst ex
    obtain ⟨u, rfl, r⟩ := vals1 r1
  · cases r
    obtain ⟨its, rv, p', hz⟩ := I1.list hq
    refine call_enumerate_list p'.isList fun h' he hit hsz hk => wpAny_pyIter_enum he ?_
    exact ⟨s1.heap.objs.size + 1, [s1.heap.objs.size + 1, s1.heap.objs.size], _, _, H1, rfl, I1.kept (t' := s1.toks) hk, turn_enum a (s1.heap.objs.size + 1) s1.heap.objs.size, ⟨⟨.none, he⟩, hit, Nat.succ_ne_self _⟩, fun b hb => two hb, q⟩
  · cases r
    obtain ⟨its, rv, p', hz⟩ := I1.tuple hq
    refine enum_begins0 (begins_tuple a its.toArray) p' fun h' he hit hk => wpAny_pyIter_enum he ?_
    exact ⟨s1.heap.objs.size + 1, [s1.heap.objs.size + 1, s1.heap.objs.size], _, _, H1, rfl, I1.kept (t' := s1.toks) hk, turn_enumT a (s1.heap.objs.size + 1) s1.heap.objs.size, ⟨⟨.none, he⟩, ⟨_, hit, rfl, rfl⟩, Nat.succ_ne_self _⟩, fun b hb => two hb, q⟩
  · obtain ⟨t, rfl⟩ := r
    refine enum_begins0 (begins_text z t) trivial fun h' he hit hk => wpAny_pyIter_enum he ?_
    exact ⟨s1.heap.objs.size + 1, [s1.heap.objs.size + 1, s1.heap.objs.size], _, _, H1, rfl, I1.kept (t' := s1.toks) hk, turn_enumS z t (s1.heap.objs.size + 1) s1.heap.objs.size, ⟨Nat.zero_le _, ⟨.none, he⟩, ⟨_, hit, rfl, rfl⟩, Nat.succ_ne_self _⟩, fun b hb => two hb, q⟩
theorem walk_enumT {K : PySem.W.Frag} {a : Addr} {xs : List V} : Walk (IteT K a) xs.length (fun H => SqT K H a xs) (YPair (fun i => some (.int (i : Nat))) (fun i => xs[i]?)) := by
  refine ⟨fun i _ hi q => ⟨xs, xs[i], q, by simp [hi]⟩, fun _ q => ⟨xs, q, Nat.le_refl _⟩, fun i H v H' _ q y => ?_⟩
  obtain ⟨T, x, h1, h2, h3, h4⟩ := y
  exact ⟨T, _, x, h1, h2, h3, rfl, h4 xs q⟩
theorem walk_enumS {z : Str} : Walk (IteS z) z.cps.size (fun _ => True) (YPair (fun i => some (.int (i : Nat))) (fun i => z.cps[i]?.map fun c => .str ⟨#[c]⟩)) := by
  refine ⟨fun i _ hi _ => hi, fun _ _ => Nat.le_refl _, fun i H v H' _ _ y => ?_⟩
  obtain ⟨T, c, h1, h2, h3, h4⟩ := y
  exact ⟨T, _, _, h1, h2, h4, rfl, (show z.cps[i]?.map _ = _ by rw [h3]; rfl)⟩

end
end Ag
namespace Ag
open PySem L2
open C8 (pss_cut tCut)
section
variable {P : Program} {w : World} {K : PySem.W.Frag} {mg : Str → Option Value} {base : Heap} {cs : List (Str × Addr)}
section
variable {X : Cx} {x : Str} {C f : Addr} {fd : FuncData} {ps : List Str} {sp : Sp} {dvs : List V} {k : Nat} {e : Expr} {es : List Expr} {t : TA} {p pos : Pos} {CX : CXT} {Ex : XK}
theorem pe_makeD (hb : ∃ ds, Vals dvs ds ∧ Binds X.K fd ps ds) (M : Mk X.K C f) (Fn : FnOk X.prog X.w X.K X.mg X.base CX k f fd ps sp) (hr : Room (k + 1) X.A) (hg : Gl X x) (hm : X.mg x = some (.ref C)) (hx : Passes CX X Ex)
    (ha : PA X (e :: es) t) (hdb : (x == ("__debug__" : Str)) = false := by decide) (he : starEach (e :: es) X.env = (false, eval e X.env) :: starEach es X.env := by rfl) (hpl : (backTo pos (starEach es X.env)).any (·.1) = false := by rfl) :
    PE X (.Call (.Name x p) (e :: es) [] pos) (tMake C sp dvs Ex t) :=
  let ⟨_, h1, h2⟩ := hb; pe_make M Fn hr hg hm h2 h1 hx ha hdb he hpl
theorem pe_makeD0 (hb : ∃ ds, Vals dvs ds ∧ Binds X.K fd ps ds) (M : Mk X.K C f) (Fn : FnOk X.prog X.w X.K X.mg X.base CX k f fd ps sp) (hr : Room (k + 1) X.A) (hg : Gl X x) (hm : X.mg x = some (.ref C)) (hx : Passes CX X Ex)
    (hdb : (x == ("__debug__" : Str)) = false := by decide) : PE X (.Call (.Name x p) [] [] pos) (tMake C sp dvs Ex tNil) :=
  let ⟨_, h1, h2⟩ := hb; pe_make0 M Fn hr hg hm h2 h1 hx hdb
/-- o.m(k = v, ..) -/
def tMethK (C : Addr) (m : Str) (n : Nat) (sp : Sp) (gV : List V → List V → List V) (Ex : XK) (ta : TE) (tk : TA) : TE := fun σ H Q => ta σ H fun x H1 => ∃ a dx fs, x = .ref a ∧ H1 a = some (.ins C dx fs) ∧ fs.lookup m = none ∧
  tk σ H1 fun zs H2 => zs.length = n ∧ sp (gV [x] zs) H2 Q Ex
theorem pe_methK {m : Str} {o : Expr} {ta : TE} {tk : TA} {kws : List Keyword} {ks : List Str} {g : List Value → List Value → List Value} {gV : List V → List V → List V} {apos : Pos} {pl : Sem Bool} (he : PE X o ta) (c : Cls X.K C) (hm : Meth X.K C m f)
    (Fn : FnOk X.prog X.w X.K X.mg X.base CX k f fd ps sp) (hr : Room k X.A) (hb : KBn X.K fd ps 1 ks g gV) (hx : Passes CX X Ex) (hkw : PK X kws tk)
    (hall : (backToKw pos (keywordEach kws X.env)).all (·.1.isSome) = true := by rfl) (hks : (backToKw pos (keywordEach kws X.env)).filterMap (·.1) = ks := by rfl)
    (hpl : ((backTo pos (starEach [] X.env)).any (·.1) || (backToKw pos (keywordEach kws X.env)).any (·.1.isNone)) = false := by rfl)
    (ht : eval (.Call (.Attribute o m apos) [] kws pos) X.env = (do
      let ov ← eval o X.env
      standAt apos.atName
      let (f, first) ← holding [ov] (getMethod ov m pl)
      callWith pos f first (backTo pos (starEach [] X.env)) (backToKw pos (keywordEach kws X.env))) := by rfl) :
    PE X (.Call (.Attribute o m apos) [] kws pos) (tMethK C m ks.length sp gV Ex ta tk) := by
  constructor
  intro pins s σ H Q I h
  refine PySem.W.methodCall_KW (pl := pl) (thn (he.run pins s σ H _ I h) fun u s1 ⟨x, H1, I1, rx, a, dx, fs, ex, ea, l, q⟩ => ?_) ht
  subst ex
  obtain rfl : u = Value.ref a := rx
  refine getmeth_ok I1 ea c hm l ?_
  refine PySem.W.callWith_KW0 (first := [.ref a]) (h₀ := X.base) I.ok.mod.kin hm.kp hall ?_ hpl
  refine thn (hkw.run pos pins s1 σ H1 _ I1 q) ?_
  rintro ws s2 ⟨zs, H2, I2, rz, l2, q2⟩
  refine ⟨I2.kIn, ?_⟩
  rw [hks]
  exact run_fnN (us := [.ref a]) (vs := [.ref a]) Fn hr hb hx I2 (.cons rfl .nil) rz rfl l2 q2
end

end
end Ag
namespace Ag
open PySem L2
open C8 (pss_cut tCut)
section
variable {P : Program} {w : World} {K : PySem.W.Frag} {mg : Str → Option Value} {base : Heap} {cs : List (Str × Addr)}
/-! enumerate, stars, own operators -/
section
variable {L : Lx} {F : Fx} {H H' : Hp} {σ σ' : St} {ρ ρ' : En}
def enumL (ds : List D) : List D := (ds.zipIdx).map fun p => .tup [.int (p.2 : Nat), p.1]
theorem enumL_get {ds : List D} {i : Nat} {d : D} (h : ds[i]? = some d) : (enumL ds)[i]? = some (.tup [.int (i : Nat), d]) := by
  unfold enumL
  simp [List.getElem?_zipIdx, h]
theorem enumL_len (ds : List D) : (enumL ds).length = ds.length := by simp [enumL]
def itemsE (ta : DG En) : DG (List D) := fun ρ R X => ta ρ (fun as ρ1 => match as with
  | [.dat (.lst ds)] => R (enumL ds) ρ1
  | [.dat (.tup ds)] => R (enumL ds) ρ1
  | [.dat (.str l)] => R (enumL (l.map fun c => .str [c])) ρ1
  | _ => False) X
/-- pairs of a number and an item, each new -/
theorem isIt_enum {J : It} {ds : List D} (hgo : ∀ F' σ' ρ' H', Stay F σ ρ H F' σ' ρ' H' → ER L.K L.C F' H' σ' ρ' → (∀ i, i < ds.length → J.go i H') ∧ J.stop ds.length H' ∧
      ∀ i v H'', i < ds.length → J.yld i H' v H'' → ∃ T x d, v = .ref T ∧ H' T = none ∧ H'' = upd H' T (.tup [.int (i : Nat), x]) ∧ ds[i]? = some d ∧ Da L.K L.C (MM F' σ' ρ') H' d x) : IsIt L F σ ρ H J (enumL ds) := by
  intro F' σ' ρ' H' st er'
  obtain ⟨go, stop, yld⟩ := hgo F' σ' ρ' H' st er'
  rw [enumL_len]
  refine ⟨go, stop, fun i v H'' hi y => ?_⟩
  obtain ⟨T, x, d, rfl, hT, rfl, e, da⟩ := yld i v H'' hi y
  have sm : Same H' (upd H' T (.tup [.int (i : Nat), x])) := Same.laid _ hT
  exact ⟨sm, _, enumL_get e, Da.tup (.inl ⟨er'.newMM hT, upd_same⟩) (DaL.cons Da.int (DaL.cons (da.same sm) DaL.nil))⟩
theorem i_enum {ta : DG En} : ∀ σ H R, liftI L (itemsE ta) σ H R → iEnumA L.K (liftA L ta) σ H R := by
  rintro σ H R ⟨F, ρ, R', X, er, ht, hR, hX⟩
  refine ⟨F, ρ, _, X, er, ht, fun as ρ1 vs H1 h st er1 da => ?_, hX⟩
  split at h
  · obtain ⟨v, rfl, h1⟩ := (ArgL.dats da (by rfl)).one
    unfold Da at h1
    obtain ⟨a, xs, rfl, nM, h1, h2⟩ := h1
    refine .inl ⟨a, xs, rfl, .inl ⟨SqL.of h1, hR _ ρ1 _ H1 h st er1 (isIt_enum fun F' σ' ρ' H' st' er' => ?_)⟩⟩
    have hs : SqL L.K H' a xs := SqL.of (st' a _ nM h1).2
    have dl := DaL.mono st' _ _ h2
    have w := walk_enum (K := L.K) (a := a) (xs := xs)
    rw [dl.length] at w
    refine ⟨fun i hi => w.goes i H' hi hs, w.stops H' hs, fun i v H'' hi y => ?_⟩
    obtain ⟨T, x, y2, rfl, hT, rfl, e1, e2⟩ := w.yields i H' v H'' hi hs y
    cases e1
    obtain ⟨d, q1, q2⟩ := dl.get e2
    exact ⟨T, y2, d, rfl, hT, rfl, q1, q2⟩
  · obtain ⟨v, rfl, h1⟩ := (ArgL.dats da (by rfl)).one
    obtain ⟨a, xs, rfl, h1, h2⟩ := h1.of_tupR
    refine .inl ⟨a, xs, rfl, .inr ⟨h1.sq, hR _ ρ1 _ H1 h st er1 (isIt_enum fun F' σ' ρ' H' st' er' => ?_)⟩⟩
    have hs : SqT L.K H' a xs := RT.stay h1 st'
    have dl := DaL.mono st' _ _ h2
    have hlen := dl.length
    refine ⟨fun i hi => ⟨xs, xs[i]'(by omega), hs, by simp [show i < xs.length by omega]⟩, ⟨xs, hs, by omega⟩, fun i v H'' hi y => ?_⟩
    obtain ⟨T, x, rfl, hT, rfl, e2⟩ := y
    obtain ⟨d, q1, q2⟩ := dl.get (e2 xs hs)
    exact ⟨T, x, d, rfl, hT, rfl, q1, q2⟩
  · obtain ⟨v, rfl, h1⟩ := (ArgL.dats da (by rfl)).one
    cases h1.of_str
    rename_i l
    refine .inr ⟨_, rfl, hR _ ρ1 _ H1 h st er1 (isIt_enum fun F' σ' ρ' H' st' er' => ?_)⟩
    refine ⟨fun i hi => by simpa [IteS] using hi, by simp [IteS], fun i v H'' hi y => ?_⟩
    obtain ⟨T, c, rfl, hT, e, rfl⟩ := y
    exact ⟨T, _, .str [c], rfl, hT, rfl, by simpa using e, Da.str⟩
  · exact h.elim
/-- *e among arguments -/
def dStar (ta : DT) (tr : DG En) : DG En := fun ρ R X => ta ρ (fun a ρ1 => match a with
  | .lst ds => tr ρ1 (fun as ρ2 => R (ds.map .dat ++ as) ρ2) X
  | .tup ds => tr ρ1 (fun as ρ2 => R (ds.map .dat ++ as) ρ2) X
  | _ => False) X
theorem r_star {ta : DT} {tr : DG En} : ∀ σ H Q, liftA L (dStar ta tr) σ H Q → StX.tStar L.K (lift L ta) (liftA L tr) σ H Q := by
  rintro σ H Q ⟨F, ρ, R, X, er, ht, hR, hX⟩
  refine ⟨F, ρ, _, X, er, ht, fun a ρ1 x H1 h1 st1 er1 da => ?_, hX⟩
  cases a with
  | lst ds =>
    obtain ⟨p, xs, rfl, q1, q2⟩ := Da.of_lst da
    refine ⟨p, xs, rfl, .inr (SqL.of q1), F, ρ1, _, X, er1, h1, fun as ρ2 ys H2 h2 st2 er2 das => ?_, fun x ρ' H' cls dc hx st er' xr => hX x ρ' H' cls dc hx (st1.trans st) er' xr⟩
    exact hR _ ρ2 _ H2 h2 (st1.trans st2) er2 (ArgL.append (ArgL.ofDats (er1.daL st2 q2)) das)
  | tup ds =>
    obtain ⟨p, xs, rfl, q1, q2⟩ := Da.of_tup da
    refine ⟨p, xs, rfl, .inl q1, F, ρ1, _, X, er1, h1, fun as ρ2 ys H2 h2 st2 er2 das => ?_, fun x ρ' H' cls dc hx st er' xr => hX x ρ' H' cls dc hx (st1.trans st) er' xr⟩
    exact hR _ ρ2 _ H2 h2 (st1.trans st2) er2 (ArgL.append (ArgL.ofDats (er1.daL st2 q2)) das)
  | _ => exact h1.elim
/-! a + b by an own __add__ -/
def rOwn (C : Addr) (sp : Sp) (E : XK) : R2 := fun x y H Q => ∃ a b dx dy fs gs, x = .ref a ∧ y = .ref b ∧ H a = some (.ins C dx fs) ∧ H b = some (.ins C dy gs) ∧ sp [x, y] H (fun v H' => (∃ p, v = .ref p) ∧ Q v H') E
theorem op_own {X : Cx} {CX : CXT} {k : Nat} {C f : Addr} {fd : FuncData} {ps : List Str} {sp : Sp} {E : XK} (Fn : FnOk X.prog X.w X.K X.mg X.base CX k f fd ps sp) (hs : PySem.W.findIn X.K (.ref C) "__add__" = some (some (.ref f)))
    (hf : PySem.W.isFn X.K (.ref f) = true) (hc : PySem.W.selfFirst X.K C = true) (hb : Binds X.K fd ps []) (hr : Room k X.A) (hx : Passes CX X E) : OpR X (binaryOp .Add) (rOwn C sp E) := by
  intro pins s σ H x y v u Q I rx ry h
  obtain ⟨a, b, dx, dy, fs, gs, rfl, rfl, ha, hb', hsp⟩ := h
  cases rx
  cases ry
  obtain ⟨mA, J, _⟩ := ins_get I.hok ha
  obtain ⟨mB, J', _⟩ := ins_get I.hok hb'
  obtain ⟨od, J, _⟩ := J.look
  obtain ⟨od', J', _⟩ := J'.look
  obtain ⟨m, hF⟩ := I.fr
  refine PySem.W.binop_K (op := .Add) hF I.ok.mod.kin J J'.type hc hs hf ?_
  refine thn (run_fn (us := [.ref a, .ref b]) (vs := [.ref a, .ref b]) (dvs := []) Fn hr hb .nil hx I (.cons rfl (.cons rfl .nil)) hsp) fun w s' q => ?_
  obtain ⟨z, H', I', rz, ⟨p, rfl⟩, q⟩ := q
  cases rz
  exact ⟨.ref p, H', I', rfl, q⟩
/-- a + b: own objects -/
def dOwn (c : Nat) (t : DF) (ta tb : DT) : DT := fun ρ R X => ta ρ (fun a ρ1 => tb ρ1 (fun b ρ2 => isIns c a = true ∧ isIns c b = true ∧ t [.dat a, .dat b] (fun d => isIns c d = true ∧ R d ρ2) (fun x => X x ρ2)) X) X
theorem r_own {c : Nat} {t : DF} {ta tb : DT} : ∀ σ H Q, lift L (dOwn c t ta tb) σ H Q → tOp (rOwn (L.C.adr c) (spE L.K L.C t) L.E) (lift L ta) (lift L tb) σ H Q := by
  rintro σ H Q ⟨F, ρ, R, X, er, ht, hR, hX⟩
  refine ⟨F, ρ, _, X, er, ht, fun a ρ1 x H1 h1 st1 er1 da => ?_, hX⟩
  refine ⟨F, ρ1, _, X, er1, h1, fun b ρ2 y H2 h2 st2 er2 db => ?_, fun x ρ' H' cls dc hx st er' xr => hX x ρ' H' cls dc hx (st1.trans st) er' xr⟩
  have da2 := er1.da st2 da
  obtain ⟨p, dx, xs, rfl, hp⟩ := ins_at da2 h2.1
  obtain ⟨q, dy, ys, rfl, hq⟩ := ins_at db h2.2.1
  refine ⟨p, q, dx, dy, _, _, rfl, rfl, hp, hq, ?_⟩
  refine call_in (R := fun d ρ' => isIns c d = true ∧ R d ρ') h2.2.2 (st1.trans st2) er2 ?_ (fun d ρ' v H' r st er' dd => ?_) hX
  · unfold ArgL
    refine ⟨_, _, rfl, rfl, (fun z => nomatch z), ⟨_, rfl, da2⟩, ?_⟩
    unfold ArgL
    refine ⟨_, _, rfl, rfl, (fun z => nomatch z), ⟨_, rfl, db⟩, ?_⟩
    unfold ArgL
    rfl
  · obtain ⟨p', _, _, e, _⟩ := ins_at dd r.1
    exact ⟨⟨p', e⟩, hR d ρ' v H' r.2 st er' dd⟩
/-! def m(self, *rest) -/
/-- n plain values, the rest becomes a tuple -/
def starT (n : Nat) (t : DF) : DF := fun ρ R X => ∃ ds, n ≤ ρ.length ∧ datL (ρ.drop n) = some ds ∧ ds.length ≤ 1000 ∧ t (ρ.take n ++ [.dat (.tup ds)]) R X
theorem ArgL.take {K : PySem.W.Frag} {C : Cl} {M : Addr → Prop} : ∀ {as : En} {vs : List V} (n : Nat), ArgL K C F M H as vs → ArgL K C F M H (as.take n) (vs.take n)
  | [], vs, n, h => by unfold ArgL at h; subst h; simp [ArgL]
  | s :: as, vs, 0, h => by simp [ArgL]
  | s :: as, vs, n + 1, h => by
    unfold ArgL at h
    obtain ⟨v, q, rfl, a, b, c, r⟩ := h
    rw [List.take_succ_cons, List.take_succ_cons]
    unfold ArgL
    exact ⟨v, _, rfl, a, b, c, ArgL.take n r⟩
theorem ArgL.drop {K : PySem.W.Frag} {C : Cl} {M : Addr → Prop} : ∀ {as : En} {vs : List V} (n : Nat), ArgL K C F M H as vs → ArgL K C F M H (as.drop n) (vs.drop n)
  | [], vs, n, h => by unfold ArgL at h; subst h; simp [ArgL]
  | s :: as, vs, 0, h => by simpa using h
  | s :: as, vs, n + 1, h => by
    unfold ArgL at h
    obtain ⟨v, q, rfl, a, b, c, r⟩ := h
    simpa using ArgL.drop n r
/-- slots without own things are arguments -/
theorem ER.args {K : PySem.W.Frag} {C : Cl} : ∀ {vs : List V} {ρ : En}, (∀ s ∈ ρ, isOwn s = false ∧ s ≠ .no) → (vs.map some).length = ρ.length → (∀ (i : Nat) (s : SV) (v : Option V), ρ[i]? = some s → (vs.map some)[i]? = some v → Slot K C F F.M H s v) → ArgL K C F F.M H ρ vs
  | [], [], _, _, _ => by unfold ArgL; rfl
  | v :: vs, s :: ρ, h1, h2, h3 => by
    unfold ArgL
    exact ⟨v, vs, rfl, (h1 s List.mem_cons_self).1, (h1 s List.mem_cons_self).2, h3 0 s _ rfl rfl, ER.args (fun u hu => h1 u (List.mem_cons_of_mem _ hu)) (by simpa using h2) fun i u w e1 e2 => h3 (i + 1) u w (by simpa using e1) (by simpa using e2)⟩
  | [], s :: ρ, _, h2, _ => by simp at h2
  | v :: vs, [], _, h2, _ => by simp at h2
def spES (K : PySem.W.Frag) (C : Cl) (t : DF) : Sp := fun vs H Q E => ∃ (F : Fx) (ρ : En) (R : D → Prop) (X : Xc → Prop), ArgL K C F F.M H ρ vs ∧ (F.B.In F.M H ∧ F.B.tab = C.tab) ∧ (∀ a, F.M a → ∃ o, H a = some o) ∧ t ρ R X ∧
  (∀ d v H', R d → FStep F H H' → F.B.Ok F.M H' → Da K C F.M H' d v → Q v H') ∧
  (∀ x cls dc H', X x → FStep F H H' → F.B.Ok F.M H' → XRel K C F.M H' x cls dc → E cls dc H')
theorem er_of {K : PySem.W.Frag} {C : Cl} {vs : List V} (ha : ArgL K C F F.M H ρ vs) (hb : F.B.In F.M H ∧ F.B.tab = C.tab) (ht : ∀ a, F.M a → ∃ o, H a = some o) : ER K C F H (vs.map some) ρ := by
  obtain ⟨h1, h2, h3⟩ := ha.slots
  exact ⟨h1, fun i s v e1 e2 => (h3 i s v e1 e2).weak fun a z => z.elim id fun q => (noOwn h2 a q).elim, fun i j s u a e1 e2 e3 => (by rw [h2 s (List.mem_of_getElem? e1)] at e3; cases e3), hb.1, ht, hb.2⟩
/-- the promise of a starred def, by its body's -/
theorem spES_star {K : PySem.W.Frag} {C : Cl} {t : DF} {n : Nat} {vs : List V} {Q : VK} {E : XK} (h : spES K C (starT n t) vs H Q E) :
    ∃ ws rest, vs = ws ++ rest ∧ ws.length = n ∧ rest.length ≤ sizeLine ∧ ∀ p, H p = Option.none → spE K C t (ws ++ [V.ref p]) (upd H p (.tup rest)) Q E := by
  obtain ⟨F, ρ, R, X, ha, hb, hth, ⟨ds, hn, hd, hl, ht⟩, hR, hX⟩ := h
  have dl := ArgL.dats (ha.drop n) hd
  refine ⟨vs.take n, vs.drop n, (List.take_append_drop n vs).symm, ?_, le1000 (by rw [dl.length]; exact hl), fun p hp => ?_⟩
  · rw [List.length_take, ha.length]; omega
  · have sm : Same H (upd H p (.tup (vs.drop n))) := Same.laid _ hp
    have nM : ¬ F.M p := fun z => by obtain ⟨o, e⟩ := hth p z; rw [hp] at e; cases e
    have ha2 : ArgL K C F F.M (upd H p (.tup (vs.drop n))) (ρ.take n ++ [.dat (.tup ds)]) (vs.take n ++ [.ref p]) := by
      refine ArgL.append (ArgL.mono (fun a o n e => ⟨n, sm a o e⟩) (ha.take n)) ?_
      unfold ArgL
      refine ⟨_, _, rfl, rfl, (fun z => nomatch z), ⟨_, rfl, Da.tup (.inl ⟨nM, upd_same⟩) (dl.same sm)⟩, ?_⟩
      unfold ArgL
      rfl
    refine ⟨F, _, R, X, er_of ha2 ⟨hb.1.same sm, hb.2⟩ (fun a z => let ⟨o, e⟩ := hth a z; ⟨o, sm a o e⟩), ha2.slots.2.1, ht, fun d v H' r fs hbb da => hR d v H' r (fun a o e nb => fs a o (sm a o e) nb) hbb da, fun x cls dc H' r fs hbb xr => hX x cls dc H' r (fun a o e nb => fs a o (sm a o e) nb) hbb xr⟩
def dMethR (c : Nat) (t : DF) (ta : DT) (tr : DG En) : DT := dMeth c t ta tr
theorem callR_in {t : DF} {as : En} {vs : List V} {Q : VK} {R : D → En → Prop} {X : XP} {ρ1 : En} {H1 : Hp} (h1 : t as (fun d => R d ρ1) (fun x => X x ρ1)) (st1 : Step F σ ρ H σ ρ1 H1) (er1 : ER L.K L.C F H1 σ ρ1) (da : ArgL L.K L.C F (MM F σ ρ1) H1 as vs)
    (hR : ∀ d ρ' v H', R d ρ' → Step F σ ρ H σ ρ' H' → ER L.K L.C F H' σ ρ' → Da L.K L.C (MM F σ ρ') H' d v → Q v H')
    (hX : ∀ x ρ' H' cls dc, X x ρ' → Step F σ ρ H σ ρ' H' → ER L.K L.C F H' σ ρ' → XRel L.K L.C (MM F σ ρ') H' x cls dc → L.E cls dc H') : spES L.K L.C t vs H1 Q L.E := by
  have er2 := er1.callee da
  have da2 : ArgL L.K L.C ⟨MM F σ ρ1, F.B, F.A⟩ (MM F σ ρ1) H1 as vs := by
    rw [ArgL.paired] at da ⊢
    exact Paired.mapP da fun s v z => ⟨z.1, z.2.1, by
      obtain ⟨no, _, sl⟩ := z
      cases s with
      | dat d => exact sl
      | bag => exact sl
      | no => exact trivial
      | own ds => cases no
      | ownD ks ds => cases no
      | ownI c ns ds => cases no⟩
  refine ⟨⟨MM F σ ρ1, F.B, F.A⟩, as, _, _, da2, ⟨er2.bag, er2.tb⟩, er2.there, h1, fun d v H' hr fs hb dd => ?_, fun x cls dc H' hx fs hb xr => ?_⟩
  · obtain ⟨st2, er3⟩ := er1.fstep (H' := H') fs (hb.weak fun a z => .inl z)
    exact hR d ρ1 v H' hr (st1.trans st2) er3 dd
  · obtain ⟨st2, er3⟩ := er1.fstep (H' := H') fs (hb.weak fun a z => .inl z)
    exact hX x ρ1 H' cls dc hx (st1.trans st2) er3 xr
theorem r_methR {c : Nat} {m : Str} {t : DF} {ta : DT} {tr : DG En} (hm : m ∉ L.C.fld c) : ∀ σ H Q, lift L (dMethR c t ta tr) σ H Q → tMethR (L.C.adr c) m (spES L.K L.C t) L.E (lift L ta) (liftA L tr) σ H Q := by
  rintro σ H Q ⟨F, ρ, R, X, er, ht, hR, hX⟩
  refine ⟨F, ρ, _, X, er, ht, fun d ρ1 x H1 h1 st1 er1 da => ?_, hX⟩
  obtain ⟨a, dx, xs, rfl, ha⟩ := ins_at da h1.1
  refine ⟨a, dx, _, rfl, ha, lookup_zip_none hm, ?_⟩
  refine ⟨F, ρ1, _, X, er1, h1.2, fun as ρ2 vs H2 h2 st2 er2 das => ?_, fun x ρ' H' cls dc hx st er' xr => hX x ρ' H' cls dc hx (st1.trans st) er' xr⟩
  refine callR_in h2 (st1.trans st2) er2 ?_ hR hX
  unfold ArgL
  exact ⟨_, _, rfl, rfl, (fun z => nomatch z), ⟨_, rfl, er1.da st2 da⟩, das⟩
theorem r_methR0 {c : Nat} {m : Str} {t : DF} {ta : DT} (hm : m ∉ L.C.fld c) : ∀ σ H Q, lift L (dMethR c t ta dNil) σ H Q → tMethR (L.C.adr c) m (spES L.K L.C t) L.E (lift L ta) tNil σ H Q := fun σ H Q q => by
  refine lf.mono (r_methR (L := L) (m := m) hm σ H Q q) fun x H1 z => ?_
  obtain ⟨a, dx, fs, e, h1, h2, h3⟩ := z
  exact ⟨a, dx, fs, e, h1, h2, r_nil σ H1 _ h3⟩
/-- o.m() of a starred def -/
theorem pe_methR0 {X : Cx} {CX : CXT} {k : Nat} {C f : Addr} {m : Str} {sp : Sp} {E : XK} {o : Expr} {ta : TE} {apos pos : Pos} {pl : Sem Bool} (he : PE X o ta) (c : Cls X.K C) (hm : Meth X.K C m f)
    (Fn : FnR X.prog X.w X.K X.mg X.base CX k f sp) (hr : Room k X.A) (hx : Passes CX X E)
    (ht : eval (.Call (.Attribute o m apos) [] [] pos) X.env = (do
      let ov ← eval o X.env
      standAt apos.atName
      let (f, first) ← holding [ov] (getMethod ov m pl)
      callWith pos f first (backTo pos (starEach [] X.env)) (backToKw pos (keywordEach [] X.env))) := by rfl) :
    PE X (.Call (.Attribute o m apos) [] [] pos) (tMethR C m sp E ta tNil) := by
  constructor
  intro pins s σ H Q I h
  refine PySem.W.methodCall_KW (pl := pl) (thn (he.run pins s σ H _ I h) fun u s1 ⟨x, H1, I1, rx, a, dx, fs, ex, ea, l, q⟩ => ?_) ht
  subst ex
  obtain rfl : u = Value.ref a := rx
  refine getmeth_ok I1 ea c hm l ?_
  exact PySem.W.callWith_K0 (first := [.ref a]) I1.kIn hm.kp (wpAny_call (run_fnR (us := [.ref a]) (vs := [.ref a]) Fn hr hx I1 (.cons rfl .nil) q))
/-! C(.., k = v) -/
def dMakeK (pm : En → En) (n m : Nat) (t : DF) (ta tk : DG En) : DT := fun ρ R X => ta ρ (fun as ρ1 => tk ρ1 (fun zs ρ2 => as.length = n ∧ zs.length = m ∧ t (pm (as ++ zs)) (fun d => R d ρ2) (fun x => X x ρ2)) X) X
theorem r_makeK {c : Nat} {pmE : En → En} {gV : List V → List V → List V} {pmV : List V → List V} {n m : Nat} {t : DF} {ta tk : DG En} (hp : ∀ {G : SV → V → Prop} {as : En} {vs : List V}, Paired G as vs → Paired G (pmE as) (pmV vs)) (hg : ∀ x vs zs, gV (x :: vs) zs = x :: pmV (vs ++ zs)) :
    ∀ σ H Q, lift L (dMakeK pmE n m t ta tk) σ H Q → tMakeK (L.C.adr c) n m (spI L.K L.C c t) gV L.E (liftA L ta) (liftA L tk) σ H Q := by
  rintro σ H Q ⟨F, ρ, R, X, er, ht, hR, hX⟩
  refine ⟨F, ρ, _, X, er, ht, fun as ρ1 vs H1 h1 st1 er1 da => ?_, hX⟩
  refine ⟨F, ρ1, _, X, er1, h1, fun zs ρ2 ws H2 h2 st2 er2 dz => ?_, fun x ρ' H' cls dc hx st er' xr => hX x ρ' H' cls dc hx (st1.trans st) er' xr⟩
  have da2 : ArgL L.K L.C F (MM F σ ρ2) H2 as vs := ArgL.mono (er1.stay st2) da
  have dz' : ArgL L.K L.C F (MM F σ ρ2) H2 zs ws := dz
  refine ⟨by rw [da2.length]; exact h2.1, by rw [dz'.length]; exact h2.2.1, fun x dx hx hdx ne => ?_⟩
  rw [hg]
  exact make_in h2.2.2 (st1.trans st2) er2 (ArgL.paired.mpr (hp (ArgL.paired.mp (da2.append dz')))) hR hX hx hdx ne
/-- the empty tuple of the module -/
theorem Da.ktup0 {K : PySem.W.Frag} {C : Cl} {M : Addr → Prop} {H : Hp} {a : Addr} (h : ∀ H : Hp, SqT K H a []) : Da K C M H (.tup []) (.ref a) := by
  refine Da.tup (.inr ?_) DaL.nil
  rcases h fun _ => none with (q | ⟨o, q⟩) | q
  · cases q
  · cases q
  · exact q
/-- o.m(k = v, ..) -/
def dMethK (c : Nat) (pm : En → En) (n : Nat) (t : DF) (ta : DT) (tk : DG En) : DT := fun ρ R X => ta ρ (fun d ρ1 => isIns c d = true ∧ tk ρ1 (fun zs ρ2 => zs.length = n ∧ t (pm (.dat d :: zs)) (fun z => R z ρ2) (fun x => X x ρ2)) X) X
theorem r_methK {c : Nat} {m : Str} {n : Nat} {pmE : En → En} {pmV : List V → List V} {t : DF} {ta : DT} {tk : DG En} (hm : m ∉ L.C.fld c) (hp : ∀ {G : SV → V → Prop} {as : En} {vs : List V}, Paired G as vs → Paired G (pmE as) (pmV vs)) :
    ∀ σ H Q, lift L (dMethK c pmE n t ta tk) σ H Q → tMethK (L.C.adr c) m n (spE L.K L.C t) (fun vs zs => pmV (vs ++ zs)) L.E (lift L ta) (liftA L tk) σ H Q := by
  rintro σ H Q ⟨F, ρ, R, X, er, ht, hR, hX⟩
  refine ⟨F, ρ, _, X, er, ht, fun d ρ1 x H1 h1 st1 er1 da => ?_, hX⟩
  obtain ⟨a, dx, xs, rfl, ha⟩ := ins_at da h1.1
  refine ⟨a, dx, _, rfl, ha, lookup_zip_none hm, ?_⟩
  refine ⟨F, ρ1, _, X, er1, h1.2, fun zs ρ2 vs H2 h2 st2 er2 das => ?_, fun x ρ' H' cls dc hx st er' xr => hX x ρ' H' cls dc hx (st1.trans st) er' xr⟩
  have das' : ArgL L.K L.C F (MM F σ ρ2) H2 zs vs := das
  refine ⟨by rw [das'.length]; exact h2.1, call_in h2.2 (st1.trans st2) er2 (ArgL.paired.mpr (hp (ArgL.paired.mp ?_))) hR hX⟩
  show ArgL L.K L.C F (MM F σ ρ2) H2 (.dat d :: zs) (.ref a :: vs)
  unfold ArgL
  exact ⟨_, _, rfl, rfl, (fun z => nomatch z), ⟨_, rfl, er1.da st2 da⟩, das⟩
end
/-- def m(self, *rest) -/
theorem Fun.okStar1 {C : Cl} {x qual : Str} {st : Stmt} {f : Addr} {fd : FuncData} {N : List Str} {p1 pv : Str} {k : Nat} {t : DF} {tb : DS} (Fn : Fun K x qual st f fd) (S : FnScope N ([p1] ++ [pv]) (defScope st))
    (h0 : ∀ (kV doc pm : Value) (an : Option Addr) (cdv ct : Value) (a : Value), bindArgs (PySem.W.fnOf x qual (defArgs st) (defBody st) (defScope st) .none kV doc pm an cdv ct) ⟨[a], []⟩ = (newTuple [] >>= fun t => pure [(p1, a), (pv, t)]))
    (h1 : ∀ (kV doc pm : Value) (an : Option Addr) (cdv ct : Value) (a r : Value) (rs : List Value), bindArgs (PySem.W.fnOf x qual (defArgs st) (defBody st) (defScope st) .none kV doc pm an cdv ct) ⟨a :: r :: rs, []⟩ = (newTuple (r :: rs) >>= fun t => pure [(p1, a), (pv, t)]))
    (hl : ∀ ρ R X, t ρ R X → ρ.length = ([p1] ++ [pv]).length)
    (hbody : ∀ (cdv : Value) (A : Around) (outer : List Env) (s : Shared) (H : Hp) (E : XK), Room k (A.deeper (PyProof.Rows.envOfC qual (defScope st) s.heap.objs.size f cdv)) →
      PSs (cxOf CX0 P w K mg base N qual (defScope st) f cdv A outer s H E).nox (defBody st) (liftS ⟨K, C, E⟩ tb))
    (ht : ∀ ρ R X, t ρ R X → tb { nx := fun _ => R .non, rt := R, ex := fun x _ => X x } (ρ ++ List.replicate (N.length - ([p1] ++ [pv]).length) .no)) : FnR P w K mg base CX0 (k + 1) f (spES K C (starT 1 t)) := by
  obtain ⟨oc, od, kV, doc, pm, an, cdv, ct, osl, rfl, lk, hcd⟩ := Fn.ex
  have F0 := StX.fn_star (P := P) (w := w) (mg := mg) (base := base) (k := k) (CX := CX0) (sp := spE K C t) (ps := [p1]) lk hcd S StX.cxUp_none (StX.bind_star1 (B := fun us => bindArgs (PySem.W.fnOf x qual (defArgs st) (defBody st) (defScope st) .none kV doc pm an cdv ct) ⟨us, []⟩) (h0 kV doc pm an cdv ct) (h1 kV doc pm an cdv ct))
    fun A outer s H vs Q E hr h => ⟨_, (hbody cdv A outer s H E hr).nox, body_in hl (fun _ _ _ q => q) ht h⟩
  exact fun A outer s H us vs Q E hr e0 r h => F0 A outer s H us vs Q E hr e0 r (spES_star h)

end
end Ag
namespace Ag
open PySem L2
open C8 (pss_cut tCut)
section
variable {P : Program} {w : World} {K : PySem.W.Frag} {mg : Str → Option Value} {base : Heap} {cs : List (Str × Addr)}
/-! join, *, f-strings, pop, extend -/
section
variable {L : Lx} {F : Fx} {H H' : Hp} {σ σ' : St} {ρ ρ' : En}
def txtsD : List D → Option (List (List Nat))
  | [] => some []
  | .str l :: r => (txtsD r).map (l :: ·)
  | _ => none
theorem txtsD_of {M : Addr → Prop} {H : Hp} : ∀ {ds : List D} {vs : List V} {ls : List (List Nat)}, DaL L.K L.C M H ds vs → txtsD ds = some ls → vs = (ls.map SX.S).map V.str
  | [], vs, bs, h, e => by unfold DaL at h; unfold txtsD at e; cases e; exact h
  | d :: ds, vs, bs, h, e => by
    unfold DaL at h
    obtain ⟨v, r, rfl, h1, h2⟩ := h
    cases d with
    | str b =>
      unfold txtsD at e
      cases q : txtsD ds with
      | none => rw [q] at e; cases e
      | some cs =>
        rw [q] at e; cases e
        cases h1.of_str
        rw [txtsD_of h2 q]; rfl
    | _ => cases e
def fJoin : D → D → Option D
  | .str a, .lst ds => (txtsD ds).bind fun ls => if (ls.map (·.length)).sum + ls.length * a.length ≤ 1000000 then some (.str (TL.joinL a ls)) else none
  | .str a, .tup ds => (txtsD ds).bind fun ls => if (ls.map (·.length)).sum + ls.length * a.length ≤ 1000000 then some (.str (TL.joinL a ls)) else none
  | _, _ => none
def isStr : D → Bool
  | .str _ => true
  | _ => false
def dJoin (ta tb : DT) : DT := fun ρ R X => ta ρ (fun a ρ1 => isStr a = true ∧ tb ρ1 (fun b ρ2 => ok (fJoin a b) fun d => R d ρ2) X) X
theorem join_S (a : List Nat) (ls : List (List Nat)) : Txt.join (SX.S a) (ls.map SX.S) = SX.S (TL.joinL a ls) := SX.join_S a ls
theorem sum_S (ls : List (List Nat)) : ((ls.map SX.S).map (·.length)).sum = (ls.map (·.length)).sum := by
  rw [List.map_map]
  exact congrArg List.sum (List.map_congr_left fun x _ => S_len x)
theorem r_join {ta tb : DT} : ∀ σ H Q, lift L (dJoin ta tb) σ H Q → tM1 (fun x xs H Q => ∃ a p, ∃ ys : List Str, x = .str a ∧ xs = [.ref p] ∧ (SqL L.K H p (ys.map V.str) ∨ SqT L.K H p (ys.map V.str)) ∧
      (ys.map (·.length)).sum + ys.length * a.length ≤ 16777216 ∧ Q (.str (Txt.join a ys)) H) (lift L ta) (lift L tb) σ H Q := by
  rintro σ H Q ⟨F, ρ, R, X, er, ht, hR, hX⟩
  refine ⟨F, ρ, _, X, er, ht, fun a ρ1 x H1 h1 st1 er1 da => ?_, hX⟩
  cases a with
  | str l =>
    cases Da.of_str da
    refine ⟨⟨_, rfl⟩, F, ρ1, _, X, er1, h1.2, fun b ρ2 y H2 h2 st2 er2 db => ?_, fun x ρ' H' cls dc hx st er' xr => hX x ρ' H' cls dc hx (st1.trans st) er' xr⟩
    obtain ⟨d, e, hr⟩ := h2
    cases b with
    | lst ds =>
      obtain ⟨p, xs, rfl, q1, q2⟩ := Da.of_lst db
      unfold fJoin at e
      dsimp only at e
      cases q : txtsD ds with
      | none => rw [q] at e; cases e
      | some ls =>
        rw [q] at e
        simp only [Option.bind_some] at e
        split at e
        · rename_i hl
          cases e
          rw [txtsD_of q2 q] at q1
          refine ⟨_, p, ls.map SX.S, rfl, rfl, .inl (SqL.of q1), by rw [sum_S, List.length_map, S_len]; omega, ?_⟩
          rw [join_S]
          exact hR _ ρ2 _ H2 hr (st1.trans st2) er2 Da.str
        · cases e
    | tup ds =>
      obtain ⟨p, xs, rfl, q1, q2⟩ := Da.of_tup db
      unfold fJoin at e
      dsimp only at e
      cases q : txtsD ds with
      | none => rw [q] at e; cases e
      | some ls =>
        rw [q] at e
        simp only [Option.bind_some] at e
        split at e
        · rename_i hl
          cases e
          rw [txtsD_of q2 q] at q1
          refine ⟨_, p, ls.map SX.S, rfl, rfl, .inr q1, by rw [sum_S, List.length_map, S_len]; omega, ?_⟩
          rw [join_S]
          exact hR _ ρ2 _ H2 hr (st1.trans st2) er2 Da.str
        · cases e
    | _ => cases e
  | _ => cases h1.1
/-! * -/
def rMulA : R2 := fun x y H Q => rI CMul (fun i j => .int (i * j)) x y H Q ∨ rRep x y H Q
theorem op_mulA {X : Cx} : OpR X (binaryOp .Mult) rMulA := op_mul.or op_rep
theorem DaL.flat {K : PySem.W.Frag} {C : Cl} {M : Addr → Prop} {H : Hp} {ds : List D} {xs : List V} (h : DaL K C M H ds xs) : ∀ n : Nat, DaL K C M H (List.replicate n ds).flatten (List.replicate n xs).flatten
  | 0 => DaL.nil
  | n + 1 => by
    rw [List.replicate_succ, List.replicate_succ, List.flatten_cons, List.flatten_cons]
    exact h.append (DaL.flat h n)
theorem ref_mul : RefR2 L rMulA fMul := by
  intro M H x y a b d Q fr ha hb e k
  unfold fMul at e
  split at e
  · cases ha.of_int; cases hb.of_int
    split at e
    · rename_i hl
      cases e
      exact .inl ⟨_, _, rfl, rfl, .inl ⟨by omega, by omega⟩, k _ H same0 Da.int⟩
    · cases e
  · obtain ⟨p, xs, rfl, h1, h2⟩ := ha.of_lst
    cases hb.of_int
    split at e
    · rename_i a j hl
      cases e
      refine .inr ⟨p, _, xs, rfl, rfl, h1, by omega, by omega, ?_, fun l hn => ?_⟩
      · rw [h2.length]
        have h3 : j.toNat ≤ 1000 := by omega
        have h4 : a.length ≤ 1000 := by omega
        exact le_line (Nat.mul_le_mul h4 h3)
      · exact k _ _ (Same.laid _ hn) (Da.lst (fr l hn) upd_same ((h2.flat _).same (Same.laid _ hn)))
    · cases e
  · cases e
/-! f-strings -/
def numS (i : Int) : List Nat := TL.tl (Str.ofString (toString i))
def fFmt : D → Option D
  | .str l => if l.length ≤ 1000000 then some (.str l) else none
  | .int i => if i.natAbs.log2 < 1920 then some (.str (numS i)) else none
  | _ => none
theorem r_fmt {t : DT} : ∀ σ H Q, lift L (dUn fFmt t) σ H Q → tFmt (lift L t) σ H Q :=
  r_un (r := fun x H1 Q => (∃ y : Str, x = .str y ∧ y.length ≤ sizeLine ∧ Q (.str y) H1) ∨ ∃ i : Int, x = .int i ∧ i.natAbs.log2 < 1920 ∧ Q (.str (toString i)) H1) fun M H x a d Q fr ha e k => by
    unfold fFmt at e
    split at e
    · cases ha.of_str
      split at e
      · rename_i hl
        cases e
        exact .inl ⟨_, rfl, by rw [S_len]; exact le_line hl, k _ H same0 Da.str⟩
      · cases e
    · cases ha.of_int
      split at e
      · rename_i hl
        cases e
        exact .inr ⟨_, rfl, hl, k _ H same0 (by unfold Da numS; rw [SX.S_tl])⟩
      · cases e
    · cases e
def dJs : List DT → List Nat → En → (List Nat → En → Prop) → XP → Prop
  | [], acc, ρ, R, _ => R acc ρ
  | t :: ts, acc, ρ, R, X => t ρ (fun d ρ1 => match d with
    | .str l => acc.length + l.length ≤ 1000000 ∧ dJs ts (acc ++ l) ρ1 R X
    | _ => False) X
def dJoined (ts : List DT) : DT := fun ρ R X => dJs ts [] ρ (fun l ρ1 => R (.str l) ρ1) X
theorem js_of {Q : VK} {R : D → En → Prop} {X : XP} (hR : ∀ d ρ' v H', R d ρ' → Step F σ ρ H σ ρ' H' → ER L.K L.C F H' σ ρ' → Da L.K L.C (MM F σ ρ') H' d v → Q v H')
    (hX : ∀ x ρ' H' cls dc, X x ρ' → Step F σ ρ H σ ρ' H' → ER L.K L.C F H' σ ρ' → XRel L.K L.C (MM F σ ρ') H' x cls dc → L.E cls dc H') :
    ∀ (ts : List DT) (acc : List Nat) (ρ1 : En) (H1 : Hp), Step F σ ρ H σ ρ1 H1 → ER L.K L.C F H1 σ ρ1 → dJs ts acc ρ1 (fun l ρ1 => R (.str l) ρ1) X → tJs (ts.map (lift L)) (SX.S acc) σ H1 fun out H2 => Q (.str out) H2
  | [], acc, ρ1, H1, st, er, h => hR _ ρ1 _ H1 h st er Da.str
  | t :: ts, acc, ρ1, H1, st, er, h => by
    refine ⟨F, ρ1, _, X, er, h, fun d ρ2 x H2 h2 st2 er2 da => ?_, fun x ρ' H' cls dc hx st' er' xr => hX x ρ' H' cls dc hx (st.trans st') er' xr⟩
    cases d with
    | str l =>
      refine ⟨_, Da.of_str da, ?_, ?_⟩
      · rw [S_app, S_len, List.length_append]; exact le_line h2.1
      · rw [S_app]
        exact js_of hR hX ts (acc ++ l) ρ2 H2 (st.trans st2) er2 h2.2
    | _ => exact h2.elim
theorem r_joined {ts : List DT} : ∀ σ H Q, lift L (dJoined ts) σ H Q → (fun σ H Q => tJs (ts.map (lift L)) Str.empty σ H fun out H1 => Q (.str out) H1) σ H Q := by
  rintro σ H Q ⟨F, ρ, R, X, er, ht, hR, hX⟩
  exact js_of hR hX ts [] ρ H Step.refl er ht
/-! w.pop(), w.extend(xs) -/
/-- g = w.pop(), w a slot's own list -/
def dPop (i : Nat) (g : DGt) : DS := fun G ρ => match ρ[i]? with
  | some (.own ds) => ok ds.getLast? fun d => g d (ρ.set i (.own ds.dropLast)) G.nx
  | _ => False
theorem DaL.dropLast {K : PySem.W.Frag} {C : Cl} {M : Addr → Prop} {H : Hp} {ds : List D} {xs : List V} (h : DaL K C M H ds xs) : DaL K C M H ds.dropLast xs.dropLast := by
  rw [List.dropLast_eq_take, List.dropLast_eq_take, h.length]
  exact h.take _
theorem s_pop {i : Nat} {is : List Nat} {g : DGt} : ∀ E σ H, liftS L (dPop i g) E σ H → tAsg (tBM0 L.K "list" rPop (tVar i)) (liftG L is g) E σ H := by
  rintro E σ H ⟨F, ρ, G, er, ht, gd⟩
  unfold dPop at ht
  split at ht
  · rename_i ds hi
    obtain ⟨d, e, hr⟩ := ht
    obtain ⟨v, hv, l, xs, rfl, n, q1, q2⟩ := er.at hi
    have el : ds[ds.length - 1]? = some d := by rw [← List.getLast?_eq_getElem?]; exact e
    obtain ⟨y, e1, e2⟩ := q2.of_get el
    refine ⟨_, hv, .inl ⟨rfl, _, SqL.of q1⟩, l, xs, y, rfl, rfl, q1, by rw [q2.length]; exact e1, ?_⟩
    obtain ⟨st2, er2⟩ := er.ownSet hi hv q2.dropLast
    exact ⟨F, _, d, G.nx, er2, er.da st2 e2, hr, fun σ3 ρ3 k3 st3 er3 _ => gd.nx σ3 ρ3 _ k3 (st2.trans st3) er3⟩
  · exact ht.elim
theorem s_popN {i j : Nat} : ∀ E σ H, liftS L (dPop i (dName j)) E σ H → tAsg (tBM0 L.K "list" rPop (tVar i)) (gName j) E σ H := fun E σ H h => by
  obtain ⟨v, hv, h1, l, xs, y, e1, e2, e3, e4, q⟩ := s_pop (is := [j]) E σ H h
  exact ⟨v, hv, h1, l, xs, y, e1, e2, e3, e4, g_name _ _ _ _ q⟩
def dExtend (i : Nat) (ta : DG En) : DS := fun G ρ => (∃ ds, ρ[i]? = some (.own ds)) ∧ ta ρ (fun as ρ1 => match as, ρ1[i]? with
  | [.dat (.lst es)], some (.own ds) => ds.length + es.length ≤ 1000000 ∧ G.nx (ρ1.set i (.own (ds ++ es)))
  | _, _ => False) G.ex
theorem s_extend {i : Nat} {ta : DG En} : ∀ E σ H, liftS L (dExtend i ta) E σ H → tDrop (tBM L.K "list" rExtend (tVar i) (liftA L ta)) E σ H := by
  rintro E σ H ⟨F, ρ, G, er, ⟨⟨ds0, h0⟩, ht⟩, g⟩
  obtain ⟨v, hv, l, xs0, rfl, n0, q0, _⟩ := er.at h0
  refine ⟨_, hv, .inl ⟨rfl, _, SqL.of q0⟩, F, ρ, _, G.ex, er, ht, fun as ρ1 vs H1 h1 st1 er1 da => ?_, g.lfx⟩
  split at h1
  · rename_i es ds hi
    obtain ⟨y, rfl, hy⟩ := (ArgL.dats da (by rfl)).one
    obtain ⟨b, zs, rfl, hb, hz⟩ := hy.of_lst
    have q := er1.slot i _ _ hi hv
    obtain ⟨l', xs, e, n, q1, q2⟩ := q
    cases e
    refine ⟨l, b, xs, zs, rfl, rfl, q1, hb, by rw [q2.length, hz.length]; exact le_line h1.1, ?_⟩
    obtain ⟨st2, er2⟩ := er1.ownSet hi hv (q2.append hz)
    exact g.nx _ _ _ h1.2 (st1.trans st2) er2
  · exact h1.elim
/-- x op= e -/
def dAug (i : Nat) (f : D → D → Option D) (te : DT) : DS := fun G ρ => ∃ a, ρ[i]? = some (.dat a) ∧ te ρ (fun b ρ1 => ok (f a b) fun d => G.nx (ρ1.set i (.dat d))) G.ex
theorem s_aug {i : Nat} {f : D → D → Option D} {te : DT} {r : R2} (h : RefR2 L r f) : ∀ E σ H, liftS L (dAug i f te) E σ H → tAug i (lift L te) r E σ H := by
  rintro E σ H ⟨F, ρ, G, er, ⟨a, hi, ht⟩, g⟩
  obtain ⟨v, hv, x, rfl, hx⟩ := er.at hi
  refine ⟨x, hv, F, ρ, _, G.ex, er, ht, fun b ρ1 y H1 h1 st1 er1 db => ?_, g.lfx⟩
  obtain ⟨d, e, hr⟩ := h1
  refine h _ H1 x y a b d _ (fun p hp => er1.newMM hp) (er.da st1 hx) db e fun z H2 sm dd => ?_
  obtain ⟨st3, er3⟩ := (er1.same sm).set (i := i) dd
  exact g.nx _ _ _ hr (st1.trans ((Step.same sm).trans st3)) er3
def dPar3 (i j l : Nat) (ta : DG En) : DS := fun G ρ => ta ρ (fun as ρ1 => match as with
  | [.dat a, .dat b, .dat c] => G.nx (((ρ1.set i (.dat a)).set j (.dat b)).set l (.dat c))
  | _ => False) G.ex
theorem DaL.three {K : PySem.W.Frag} {C : Cl} {M : Addr → Prop} {H : Hp} {d e f : D} {vs : List V} (h : DaL K C M H [d, e, f] vs) : ∃ v w u, vs = [v, w, u] ∧ Da K C M H d v ∧ Da K C M H e w ∧ Da K C M H f u := by
  unfold DaL at h
  obtain ⟨v, r, rfl, h1, t⟩ := h
  obtain ⟨w, u, rfl, h2, h3⟩ := DaL.two t
  exact ⟨v, w, u, rfl, h1, h2, h3⟩
theorem s_par3 {i j l : Nat} {ta : DG En} : ∀ E σ H, liftS L (dPar3 i j l ta) E σ H → tPar3 i j l (liftA L ta) E σ H := by
  rintro E σ H ⟨F, ρ, G, er, ht, gd⟩
  refine ⟨F, ρ, _, G.ex, er, ht, fun as ρ1 vs H1 h st er1 da => ?_, gd.lfx⟩
  split at h
  · obtain ⟨u, v, w, rfl, h1, h2, h3⟩ := (ArgL.dats da (by rfl)).three
    obtain ⟨st2, er2⟩ := er1.set (i := i) h1
    obtain ⟨st3, er3⟩ := er2.set (i := j) (er1.da st2 h2)
    obtain ⟨st4, er4⟩ := er3.set (i := l) (er2.da st3 (er1.da st2 h3))
    exact ⟨u, v, w, rfl, gd.nx _ _ _ h (st.trans (st2.trans (st3.trans st4))) er4⟩
  · exact h.elim
end

end
end Ag
namespace Ag
open PySem L2
open C8 (pss_cut tCut)
section
variable {P : Program} {w : World} {K : PySem.W.Frag} {mg : Str → Option Value} {base : Heap} {cs : List (Str × Addr)}
/-! the law's own def -/
def spLaw (K : PySem.W.Frag) : Sp := fun vs H Q _ => ∃ (a : Addr) (ns : List Int), vs = [.ref a] ∧ SqL K H a (ns.map V.int) ∧ ns.length ≤ 63 ∧ ∀ H', Q (.bl true) H'
theorem law_er {C : Cl} {N : List Str} {i : Nat} {a b c : Addr} {H : Hp} (h1 : 1 ≤ N.length) (hi : i < N.length) (hB : BagAt b c H) (hT : ∀ p ∈ C.tab, H p.1 = some (.tbl #[])) :
    ER K C ⟨fun x => (x = b ∨ x = c) ∨ ∃ p ∈ C.tab, x = p.1, ⟨some (b, c), C.tab⟩, 0⟩ H ((L2.start N [.ref a]).set i (some (.ref b))) ((List.replicate N.length SV.no).set i .bag) := by
  have hs : (L2.start N [V.ref a]).length = N.length := by simp [L2.start]; omega
  have only : ∀ (j : Nat) (s : SV), ((List.replicate N.length SV.no).set i .bag)[j]? = some s → s = .no ∨ (j = i ∧ s = .bag) := fun j s h => by
    by_cases e : j = i
    · subst e
      rw [List.getElem?_set_self (by simpa using hi)] at h
      cases h; exact .inr ⟨rfl, rfl⟩
    · rw [List.getElem?_set_ne (Ne.symm e)] at h
      exact .inl (repl_no h)
  refine ⟨by rw [List.length_set, List.length_set, hs, List.length_replicate], fun j s v q1 q2 => ?_, fun j k s u x q1 q2 q3 => ?_, ⟨⟨fun b' c' e => ?_, fun p hp => ⟨#[], hT p hp, trivial, fun pos cv z => ?_⟩⟩, fun x hx => ?_, fun b' c' e => ?_⟩, fun x hx => ?_, rfl⟩
  · rcases only j s q1 with rfl | ⟨rfl, rfl⟩
    · exact trivial
    · rw [List.getElem?_set_self (by rw [hs]; exact hi)] at q2
      cases q2
      exact ⟨b, c, rfl, rfl⟩
  · rcases only j s q1 with rfl | ⟨rfl, rfl⟩ <;> cases q3
  · cases e
    exact hB
  · exact absurd z (by simp [codeAmong])
  · rcases hx with ⟨b', c', e, rfl⟩ | hx
    · cases e; exact .inl (.inl rfl)
    · exact .inr hx
  · cases e; exact .inl (.inr rfl)
  · obtain ⟨ns, j, big, seed, cnt, g1, g2, _⟩ := hB
    rcases hx with (rfl | rfl) | ⟨p, hp, rfl⟩
    · exact ⟨_, g1⟩
    · exact ⟨_, g2⟩
    · exact ⟨_, hT p hp⟩
/-- behind the first row of the law -/
theorem law_in {C : Cl} {N : List Str} {i : Nat} {a b c : Addr} {H : Hp} {tb : DS} {E : XK} {Q : VK} (h1 : 1 ≤ N.length) (hi : i < N.length) (hB : BagAt b c H) (hT : ∀ p ∈ C.tab, H p.1 = some (.tbl #[])) (k : ∀ H', Q (.bl true) H')
    (h : tb { nx := fun _ => False, rt := fun d => d = .bl true } ((List.replicate N.length SV.no).set i .bag)) :
    liftS ⟨K, C, E⟩ tb { nx := fun _ H' => Q .non H', rt := Q } ((L2.start N [.ref a]).set i (some (.ref b))) H :=
  ⟨_, _, _, law_er h1 hi hB hT, h, ⟨fun _ _ _ q => q.elim, fun d v _ _ H' q _ _ da => (by subst q; cases da.of_bl; exact k H'), fun _ _ _ q => q.elim, fun _ _ _ q => q.elim, fun _ _ _ _ _ _ q => q.elim⟩⟩

end
end Ag
namespace Ag
open PySem L2
open C8 (pss_cut tCut)
section
variable {P : Program} {w : World} {K : PySem.W.Frag} {mg : Str → Option Value} {base : Heap} {cs : List (Str × Addr)}
/-! min of a list of lists of whole numbers -/
def iL (x : List Int) : D := .lst (x.map .int)
def intsOf : List D → Option (List Int)
  | [] => some []
  | .int i :: ds => (intsOf ds).map (i :: ·)
  | _ :: _ => none
def rowsOf : List D → Option (List (List Int))
  | [] => some []
  | .lst ds :: es => (intsOf ds).bind fun x => (rowsOf es).map (x :: ·)
  | _ :: _ => none
theorem intsOf_eq : ∀ {ds : List D} {x : List Int}, intsOf ds = some x → ds = x.map .int
  | [], x, h => by unfold intsOf at h; cases h; rfl
  | .int i :: ds, x, h => by
    unfold intsOf at h
    cases e : intsOf ds with
    | none => rw [e] at h; cases h
    | some y => rw [e] at h; cases h; rw [List.map_cons, ← intsOf_eq e]
  | .non :: _, x, h => by unfold intsOf at h; cases h
  | .bl _ :: _, x, h => by unfold intsOf at h; cases h
  | .str _ :: _, x, h => by unfold intsOf at h; cases h
  | .tup _ :: _, x, h => by unfold intsOf at h; cases h
  | .lst _ :: _, x, h => by unfold intsOf at h; cases h
  | .dct _ _ :: _, x, h => by unfold intsOf at h; cases h
  | .ins _ _ :: _, x, h => by unfold intsOf at h; cases h
  | .lam _ :: _, x, h => by unfold intsOf at h; cases h
  | .fn _ _ :: _, x, h => by unfold intsOf at h; cases h
  | .exc _ _ :: _, x, h => by unfold intsOf at h; cases h
theorem intsOf_map : ∀ x : List Int, intsOf (x.map .int) = some x
  | [] => rfl
  | i :: x => by rw [List.map_cons, intsOf, intsOf_map x]; rfl
theorem rowsOf_eq : ∀ {ds : List D} {x : List (List Int)}, rowsOf ds = some x → ds = x.map iL
  | [], x, h => by unfold rowsOf at h; cases h; rfl
  | .lst es :: ds, x, h => by
    unfold rowsOf at h
    cases e : intsOf es with
    | none => rw [e] at h; cases h
    | some y =>
      rw [e, Option.bind_some] at h
      cases e' : rowsOf ds with
      | none => rw [e'] at h; cases h
      | some z => rw [e'] at h; cases h; rw [List.map_cons, ← rowsOf_eq e', iL, ← intsOf_eq e]
  | .non :: _, x, h => by unfold rowsOf at h; cases h
  | .bl _ :: _, x, h => by unfold rowsOf at h; cases h
  | .str _ :: _, x, h => by unfold rowsOf at h; cases h
  | .tup _ :: _, x, h => by unfold rowsOf at h; cases h
  | .int _ :: _, x, h => by unfold rowsOf at h; cases h
  | .dct _ _ :: _, x, h => by unfold rowsOf at h; cases h
  | .ins _ _ :: _, x, h => by unfold rowsOf at h; cases h
  | .lam _ :: _, x, h => by unfold rowsOf at h; cases h
  | .fn _ _ :: _, x, h => by unfold rowsOf at h; cases h
  | .exc _ _ :: _, x, h => by unfold rowsOf at h; cases h
theorem rowsOf_map : ∀ x : List (List Int), rowsOf (x.map iL) = some x
  | [] => rfl
  | i :: x => by rw [List.map_cons, iL, rowsOf, intsOf_map, Option.bind_some, rowsOf_map x]; rfl
def fMin : List D → Option D
  | [.lst ds] => match rowsOf ds with
    | some (x :: xs) => some (iL (PySem.W.minOf x xs))
    | _ => none
  | _ => none
def rMinD (K : PySem.W.Frag) : List V → Hp → VK → Prop := fun vs H Q => ∃ (a : Addr) (ys : List V) (x : List Int) (xs : List (List Int)), vs = [V.ref a] ∧ SqL K H a ys ∧ DpAll K H ys ((x :: xs).map PySem.W.Datum.toD) ∧
  ∀ (i : Nat) (y : V), ys[i]? = some y → (x :: xs)[i]? = some (PySem.W.minOf x xs) → Q y H
theorem vals_back : ∀ {xs : List V} {us : List Value} {i : Nat} {u : Value}, Vals xs us → us[i]? = some u → ∃ x, xs[i]? = some x ∧ RelV x u := fun {xs us i u} r e => by
  cases h : xs[i]? with
  | none => rw [r.none_of h] at e; cases e
  | some x =>
    obtain ⟨v, h1, h2⟩ := r.get h
    rw [e] at h1
    cases h1
    exact ⟨x, rfl, h2⟩
theorem cr_minD {X : Cx} (hc : X.calm = true) (hu : X.A.units + 64 < cLine) : CallR X (.builtin "min") (rMinD X.K) := by
  intro pins s σ H vs us Q I r h
  obtain ⟨a, ys, x, xs, rfl, hs, hd, q⟩ := h
  obtain ⟨its, rv, hl, _⟩ := I.list hs
  rw [Vals.ref1 r]
  obtain ⟨as, hr⟩ := Dp.readsAll I _ _ its hd rv
  refine PySem.W.min_list_datum (α := List Int) (x := x) (xs := xs) (I.ok.hd hc) hl.isList ⟨as, hr⟩ (by show X.A.units + 1 + 1 < cLine; omega) fun i v h' tk hv hm hk => ?_
  have hv' : its[i]? = some v := by simpa using hv
  obtain ⟨y, hy, ry⟩ := vals_back rv hv'
  obtain ⟨bs, r1, l1, m1, _⟩ := PySem.W.readsAll_at hr i v hv'
  obtain ⟨cs, r2⟩ := hm
  have hi : i < (x :: xs).length := by simpa using l1
  have e0 : (List.map PySem.W.Datum.toD (x :: xs)).getD i .none = PySem.W.Datum.toD ((x :: xs)[i]'hi) := by
    rw [List.getD_eq_getElem?_getD, List.getElem?_map, List.getElem?_eq_getElem hi]; rfl
  rw [e0] at r1
  have e1 := PySem.W.alike_unique _ _ v _ _ (PySem.W.DatumOrd.alike ((x :: xs)[i]'hi) (PySem.W.minOf x xs)) (PySem.W.reads_keeps hk r1) r2
  have e2 : (x :: xs)[i]'hi = PySem.W.minOf x xs := by
    have := PySem.W.Datum.eqv ((x :: xs)[i]'hi) (PySem.W.minOf x xs)
    rw [e1, PySem.W.Datum.eqv, decide_eq_true rfl] at this
    exact of_decide_eq_true this.symm
  exact ⟨y, H, I.kept hk, ry, q i y hy (by rw [List.getElem?_eq_getElem hi, e2])⟩
theorem toD_pd : ∀ x : List Int, plainL (x.map .int) = true ∧ pdL (x.map .int) = x.map PySem.W.Datum.toD
  | [] => by unfold plainL pdL; exact ⟨rfl, rfl⟩
  | i :: x => by
    obtain ⟨h1, h2⟩ := toD_pd x
    rw [List.map_cons, plainL, pdL, h1, h2, plain, pd]
    · exact ⟨rfl, rfl⟩
    all_goals (intros; rename_i h; cases h)
theorem toD_rows : ∀ x : List (List Int), plainL (x.map iL) = true ∧ pdL (x.map iL) = x.map PySem.W.Datum.toD
  | [] => by unfold plainL pdL; exact ⟨rfl, rfl⟩
  | i :: x => by
    obtain ⟨h1, h2⟩ := toD_rows x
    obtain ⟨h3, h4⟩ := toD_pd i
    rw [List.map_cons, plainL, pdL, h1, h2, iL, plain, pd, h3, h4]
    exact ⟨rfl, rfl⟩
theorem ref_min : RefCB L (rMinD L.K) fMin := by
  intro M H xs ds d Q fr ha e k
  unfold fMin at e
  split at e
  · split at e
    · rename_i es x zs he
      cases rowsOf_eq he
      cases e
      obtain ⟨v, rfl, h⟩ := ha.one
      obtain ⟨p, ys, rfl, h1, h2⟩ := h.of_lst
      obtain ⟨p1, p2⟩ := toD_rows (x :: zs)
      refine ⟨p, ys, x, zs, rfl, SqL.of h1, p2 ▸ DaL.dp _ _ p1 h2, fun i y hy hi => ?_⟩
      obtain ⟨e, he', hd⟩ := h2.get hy
      rw [List.getElem?_map, hi] at he'
      cases he'
      exact k _ _ same0 hd
    · cases e
  · cases e
/-! x += e of whole numbers -/
def fIp (f : Int → Int → Int) : D → D → Option D
  | .int i, .int j => some (.int (f i j))
  | _, _ => none
theorem ref_ip (f : Int → Int → Int) : RefR2 L (ipI f) (fIp f) := by
  intro M H x y a b d Q fr ha hb e k
  unfold fIp at e
  split at e
  · cases ha.of_int; cases hb.of_int; cases e
    exact ⟨_, _, rfl, rfl, k _ H same0 Da.int⟩
  · cases e
/-! x, y = [], c -/
def dParO (i j : Nat) (c : Int) : DS := fun G ρ => G.nx ((ρ.set i (.own [])).set j (.dat (.int c)))
theorem s_parO {i j : Nat} {c : Int} : ∀ E σ H, liftS L (dParO i j c) E σ H → tPar i j (tCons (tLst tNil) (tCons (tC (.int c)) tNil)) E σ H := by
  rintro E σ H ⟨F, ρ, G, er, ht, g⟩
  refine ⟨Nat.zero_le _, fun p hp => ?_⟩
  obtain ⟨st2, er2⟩ := er.ownNew (i := i) hp DaL.nil
  obtain ⟨st3, er3⟩ := er2.set (i := j) (Da.int (i := c))
  exact ⟨_, _, rfl, g.nx _ _ _ ht (st2.trans st3) er3⟩

end
end Ag
namespace Ag
open PySem L2
open C8 (pss_cut tCut)
section
variable {P : Program} {w : World} {K : PySem.W.Frag} {mg : Str → Option Value} {base : Heap} {cs : List (Str × Addr)}
/-! sets of texts in the layer: set(xs), sorted(..) -/
def SetTO (P : Program) (w : World) (a : Addr) (l : List Str) : HO := .ext fun h => SetT P w h a l
theorem setTO_new {P : Program} {w : World} {H : Hp} {h : Heap} {a : Addr} {l : List Str} (R : SetT P w h a l) : ObjOk P w H h a (SetTO P w a l) := by
  have ⟨D, e, _⟩ := R
  exact ⟨R, ⟨_, e⟩, fun h1 h2 p k => SetT.keep p k⟩
def rSetT (P : Program) (w : World) (K : PySem.W.Frag) : List V → Hp → VK → Prop := fun vs H Q => ∃ (b : Addr) (xs : List Str), vs = [V.ref b] ∧ SqL K H b (xs.map V.str) ∧ xs.length ≤ 1000 ∧ ∀ p, H p = none → Q (.ref p) (upd H p (SetTO P w p (ded xs)))
theorem cr_setT {X : Cx} (hc : X.calm = true) : CallR X (.type "set") (rSetT X.prog X.w X.K) := by
  intro pins s σ H vs us Q I r h
  obtain ⟨b, xs, rfl, hs, few, q⟩ := h
  obtain ⟨its, rv, hl, _⟩ := I.list hs
  rw [Vals.ref1 r]
  refine call_setT (I.ok.hd hc) hl.isList rv.strs few fun h' tk new k => ?_
  exact ⟨.ref _, upd H s.heap.objs.size (SetTO X.prog X.w s.heap.objs.size (ded xs)), I.laid (t' := tk) k (Nat.le_refl _) (setTO_new new), rfl, q _ (I.hok.fresh (Nat.le_refl _))⟩
def rSortT (P : Program) (w : World) : List V → Hp → VK → Prop := fun vs H Q => ∃ (a : Addr) (l : List Str), vs = [V.ref a] ∧ H a = some (SetTO P w a l) ∧ l.length < 64 ∧
  ∀ (ys : List Str) (p : Addr), ys.Perm l → PyProof.Rows.sortedS ys = true → H p = none → Q (.ref p) (upd H p (.lst (ys.map V.str)))
theorem cr_sortT {X : Cx} (hc : X.calm = true) : CallR X (.builtin "sorted") (rSortT X.prog X.w) := by
  intro pins s σ H vs us Q I r h
  obtain ⟨a, l, rfl, ha, h64, q⟩ := h
  have R : SetT X.prog X.w s.heap a l := (I.hok a _ ha).1
  rw [Vals.ref1 r]
  refine setT_sorted R (I.ok.hd hc) h64 fun s' p out c ys k g o hp at_ hS pm srt => ?_
  have len : (ys.map V.str).length ≤ sizeLine := by rw [List.length_map, pm.length_eq]; exact small64 h64
  have new : H p = none := I.hok.fresh hp
  have J : Inv X pins σ (upd H p (.lst (ys.map V.str))) { s with heap := s'.heap, gens := s'.gens, drawn := s'.drawn, toks := s'.toks } :=
    I.call (ch := []) (Un.laid k hp new) (I.hok.laid k hp ⟨len, out.toList, c, vals_of_strs hS, at_⟩) (by rw [g]; exact I.bare) fun _ z => nomatch z
  have e : s' = { s with heap := s'.heap, gens := s'.gens, drawn := s'.drawn, toks := s'.toks } := by cases s'; cases s; cases o; rfl
  rw [e]
  exact ⟨.ref p, _, J, rfl, q ys p pm srt new⟩
/-! what sorted gives is one list -/
def tl (x : Str) : List Nat := x.cps.toList
theorem pw_rise : ∀ (r : List Str) (x : Str), PyProof.Rows.risingS x r = true → ((x :: r).map tl).Pairwise (· ≤ ·)
  | [], x, _ => List.pairwise_singleton _ _
  | y :: r, x, h => by
    have h' : (!PySem.Spec.ltCps y.cps.toList x.cps.toList && PyProof.Rows.risingS y r) = true := h
    rw [Bool.and_eq_true_iff] at h'
    have ih := pw_rise r y h'.2
    have le : tl x ≤ tl y := by
      have z := h'.1
      rw [PyProof.Rows.ltCps_eq] at z
      have z1 : decide (y.cps.toList < x.cps.toList) = false := by cases q : decide (y.cps.toList < x.cps.toList) with | false => rfl | true => rw [q] at z; cases z
      exact List.not_lt.mp (of_decide_eq_false z1)
    rw [List.map_cons, List.pairwise_cons]
    refine ⟨fun z hz => ?_, ih⟩
    rw [List.map_cons] at hz ih
    rcases List.mem_cons.mp hz with rfl | hz
    · exact le
    · exact List.le_trans le ((List.pairwise_cons.mp ih).1 z hz)
theorem pw_sorted : ∀ l : List Str, PyProof.Rows.sortedS l = true → (l.map tl).Pairwise (· ≤ ·)
  | [], _ => List.Pairwise.nil
  | x :: r, h => pw_rise r x h
theorem one_sorted : ∀ {l m : List (List Nat)}, l.Perm m → l.Pairwise (· ≤ ·) → m.Pairwise (· ≤ ·) → l = m
  | [], m, p, _, _ => (List.nil_perm.mp p).symm
  | a :: l, [], p, _, _ => absurd (p.length_eq) (by simp)
  | a :: l, b :: m, p, hl, hm => by
    have e : a = b := by
      have ha := p.mem_iff.mp (List.mem_cons_self (a := a) (l := l))
      have hb := p.mem_iff.mpr (List.mem_cons_self (a := b) (l := m))
      rcases List.mem_cons.mp ha with z | z
      · exact z
      · rcases List.mem_cons.mp hb with y | y
        · exact y.symm
        · exact List.le_antisymm ((List.pairwise_cons.mp hl).1 b y) ((List.pairwise_cons.mp hm).1 a z)
    subst e
    rw [one_sorted (List.Perm.cons_inv p) (List.pairwise_cons.mp hl).2 (List.pairwise_cons.mp hm).2]
/-- the one list -/
noncomputable def canon (ts : List (List Nat)) : List (List Nat) := open Classical in
  if h : ∃ ys : List (List Nat), ys.Perm ((ded (ts.map SX.S)).map tl) ∧ ys.Pairwise (· ≤ ·) then Classical.choose h else []
theorem canon_eq {ts : List (List Nat)} {ys : List Str} (p : ys.Perm (ded (ts.map SX.S))) (s : PyProof.Rows.sortedS ys = true) : ys = (canon ts).map SX.S := by
  have h : ∃ ys : List (List Nat), ys.Perm ((ded (ts.map SX.S)).map tl) ∧ ys.Pairwise (· ≤ ·) := ⟨ys.map tl, p.map tl, pw_sorted ys s⟩
  have e : canon ts = ys.map tl := by
    unfold canon
    rw [dif_pos h]
    obtain ⟨h1, h2⟩ := Classical.choose_spec h
    exact one_sorted (h1.trans (p.map tl).symm) h2 (pw_sorted ys s)
  rw [e, List.map_map]
  have e2 : (SX.S ∘ tl) = id := funext fun x => SX.S_tl x
  rw [e2, List.map_id]
theorem canon_len (ts : List (List Nat)) : (canon ts).length ≤ ts.length := by
  unfold canon
  split
  · rename_i h
    obtain ⟨h1, _⟩ := Classical.choose_spec h
    rw [h1.length_eq, List.length_map]
    exact Nat.le_trans (ded_len _) (by simp)
  · simp
noncomputable def fSortSet : D → Option D
  | .lst ds => (txtsD ds).bind fun ts => if ts.length < 64 then some (.lst ((canon ts).map .str)) else none
  | _ => none
theorem txtsD_eq : ∀ {ds : List D} {ts : List (List Nat)}, txtsD ds = some ts → ds = ts.map .str
  | [], ts, h => by unfold txtsD at h; cases h; rfl
  | d :: ds, ts, h => by
    cases d <;> unfold txtsD at h <;> first
      | (cases h; done)
      | (cases e : txtsD ds with
         | none => rw [e] at h; cases h
         | some r => rw [e] at h; cases h; rw [List.map_cons, ← txtsD_eq e])
theorem DaL.texts {K : PySem.W.Frag} {C : Cl} {M : Addr → Prop} {H : Hp} : ∀ {ts : List (List Nat)} {xs : List V}, DaL K C M H (ts.map .str) xs → xs = (ts.map SX.S).map V.str
  | [], xs, h => by unfold DaL at h; rw [h]; rfl
  | t :: ts, xs, h => by
    rw [List.map_cons] at h
    unfold DaL at h
    obtain ⟨v, r, rfl, h1, h2⟩ := h
    rw [h1.of_str, DaL.texts h2]
    rfl
theorem DaL.of_texts {K : PySem.W.Frag} {C : Cl} {M : Addr → Prop} {H : Hp} : ∀ (ts : List (List Nat)), DaL K C M H (ts.map .str) ((ts.map SX.S).map V.str)
  | [] => DaL.nil
  | t :: ts => DaL.cons Da.str (DaL.of_texts ts)
section
variable {L : Lx} {P' : Program} {w' : World}
theorem r_sortset {t : DT} : ∀ σ H Q, lift L (dUn fSortSet t) σ H Q → tCB (rSortT P' w') (tCons (tCB (rSetT P' w' L.K) (tCons (lift L t) tNil)) tNil) σ H Q := by
  rintro σ H Q ⟨F, ρ, R, X, er, ht, hR, hX⟩
  refine ⟨F, ρ, _, X, er, ht, fun d ρ1 v H1 h1 st1 er1 da => ?_, hX⟩
  obtain ⟨d', e, hr⟩ := h1
  unfold fSortSet at e
  split at e
  · rename_i ds
    cases e1 : txtsD ds with
    | none => rw [e1] at e; cases e
    | some ts =>
      rw [e1, Option.bind_some] at e
      split at e
      · rename_i few
        cases e
        cases txtsD_eq e1
        obtain ⟨a, xs, rfl, h1, h2⟩ := da.of_lst
        rw [h2.texts] at h1
        refine ⟨a, ts.map SX.S, rfl, SqL.of h1, by simp; omega, fun p hp => ?_⟩
        have dl := ded_len (ts.map SX.S)
        rw [List.length_map] at dl
        refine ⟨p, _, rfl, upd_same, by omega, fun ys q pm srt hq => ?_⟩
        rw [canon_eq pm srt]
        have s1 : Same H1 (upd H1 p (SetTO P' w' p (ded (ts.map SX.S)))) := Same.laid _ hp
        have s2 := Same.laid (.lst (((canon ts).map SX.S).map V.str)) hq
        have sm : Same H1 (upd (upd H1 p (SetTO P' w' p (ded (ts.map SX.S)))) q (.lst (((canon ts).map SX.S).map V.str))) := fun a o z => s2 a o (s1 a o z)
        have hq1 : H1 q = none := by
          cases z : H1 q with
          | none => rfl
          | some o => rw [s1 q o z] at hq; cases hq
        exact hR _ ρ1 _ _ hr (st1.trans (Step.same sm)) (er1.same sm) (Da.lst (er1.newMM hq1) upd_same (DaL.of_texts _))
      · cases e
  · cases e
end

end
end Ag
namespace Ag
open PySem L2
open C8 (pss_cut tCut)
section
variable {P : Program} {w : World} {K : PySem.W.Frag} {mg : Str → Option Value} {base : Heap} {cs : List (Str × Addr)}
/-! {e for x in xs if ..}, e a text -/
def tScT (P : Program) (w : World) (wi : TI) (g : TG) (tt : TT) (te : TE) (vs : List Nat) : TE := fun σ H Q => wi σ H fun J H1 => ∀ D, H1 D = none → ∃ W : Nat → Nat → Hp → Prop, (∃ m, W 0 m (upd H1 D (SetTO P w D []))) ∧ ∀ i m H, W i m H →
  (J.stop i H ∧ Q (.ref D) H) ∨ (J.go i H ∧ ∃ Nx : Hp → Prop, (∀ H', Nx H' → ∃ m', m' < m ∧ W (i + 1) m' H') ∧ ∀ x H', J.yld i H x H' → g x (L2.wipe σ vs) H' fun σ2 H2 => L2.wipe σ2 vs = L2.wipe σ vs ∧ tt σ2 H2 fun b H3 =>
    if b = true then te σ2 H3 fun y H4 => ∃ (c : Str) (l : List Str), y = .str c ∧ H4 D = some (SetTO P w D l) ∧ l.length + 1 < scanBound ∧ Nx (upd H4 D (SetTO P w D (ins1 l c))) else Nx H3)
section
variable {X : Cx}
/-- the set's add, in the layer -/
theorem addT_ok {pins : List (Addr × Obj)} {σ : L2.St} {H : Hp} {s : Shared} {E : Value → Shared → Prop} {D : Addr} {l : List Str} {c : Str} {tk : Tok} {Q : Value → Shared → Prop} (I : Inv X pins σ H s) (hD : H D = some (SetTO X.prog X.w D l)) (few : l.length + 1 < scanBound)
    (q : ∀ s', Inv X pins σ (upd H D (SetTO X.prog X.w D (ins1 l c))) s' → Q .none s') : wpAny (model X.prog X.w) X.A (call (.builtin "set.add") [.ref D, .str c tk]) Q E s := by
  have R : SetT X.prog X.w s.heap D l := (I.hok D _ hD).1
  refine setT_add R few fun h' sb new => ?_
  have at_ : ∃ u, h'.get? D = some u := let ⟨_, e, _⟩ := new; ⟨_, e⟩
  exact q _ (I.write (e := D) (t' := s.toks + 1) (by rw [hD]; trivial) (.inl rfl) (fun b u hb hu => (sb.2 b hb).trans hu) at_ (setTO_new new))
open PyProof.Rows in
theorem scT_core {pins : List (Addr × Obj)} {s : Shared} {σ : L2.St} {H : Hp} {Q : VK} {elt tg iter : Expr} {ifs : List Expr} {scope : Scope} {own : List (PySem.Str × Nat)} {pos pos' : Pos} {wi : TI} {g : TG} {tt : TT} {te : TE} {use : Option (Value → Sem Unit)} {Qf : Value → Shared → Prop}
    (calm : X.calm = true) (nd : X.N.Nodup) (I : Inv X pins σ H s) (pi : PI X tg iter wi) (bo : BlkOk X.N X.env.scope scope own)
    (Pg : ∀ (s : Shared) (H : Hp) (C : Addr) (cl : List (PySem.Str × Addr)) (fp : List Addr), PG (X.blk s H scope (compEnvC scope cl C X.env) fp) tg g) (Pt : ∀ (s : Shared) (H : Hp) (C : Addr) (cl : List (PySem.Str × Addr)) (fp : List Addr), PTs (X.blk s H scope (compEnvC scope cl C X.env) fp) ifs tt)
    (Pe : ∀ (s : Shared) (H : Hp) (C : Addr) (cl : List (PySem.Str × Addr)) (fp : List Addr), PE (X.blk s H scope (compEnvC scope cl C X.env) fp) elt te) (fold : ∀ x, foldedSetIterable iter X.env x = pure x)
    (h : tScT X.prog X.w wi g tt te (own.map (·.2)) σ H Q)
    (fin : ∀ D C s' m H', Inv X pins σ H' s' → Q (.ref D) H' → s'.heap.Ns C m → FpOk X pins H' C → compPost (model X.prog X.w) X.A X.xe use Qf (.ref D) C (.ok .next) s') :
    wpAny (model X.prog X.w) X.A (comprehension (.SetComp elt [⟨tg, iter, ifs, 0⟩] scope pos) scope X.env pos' (newSet (.type "set")) false (eval iter X.env) use) Qf X.xe s := by
  have cells : ∀ y ∈ scope.names, y.2 = .free → ∃ c, X.env.cells.lookup y.1 = some c := fun y hy e => (bo.free y hy e).elim (fun k => I.ok.has _ (.inl k)) fun k => I.ok.has _ (.inr k)
  refine wpAny_comprehension_free (use := use) rfl fold (closure_ok cells) bo.kind (fun y hy e => by rw [bo.uniq y hy, e]) (thn (pi.run pins s σ H _ I h) fun xv s1 hx => thn hx fun itv s2 h2 => ?_)
  obtain ⟨it, fp, tn, J, H2, rfl, I2, T, st2, f2, q⟩ := h2
  refine PpSet.newSet_ok (newEnv_comp ?_)
  have new0 := SetT.fresh X.prog X.w s2.heap
  generalize eD : s2.heap.objs.size = D at new0
  obtain ⟨W, ⟨m0, w0⟩, turn⟩ := q D (I2.hok.fresh (Nat.le_of_eq eD))
  generalize e3 : ({ s2 with heap := s2.heap.push (nilSet X.w) } : Shared) = s3
  have h3 : s3.heap = s2.heap.push (nilSet X.w) := by rw [← e3]
  generalize eH : upd H2 D (SetTO X.prog X.w D []) = H3 at w0
  have I3 : Inv X pins σ H3 s3 := by
    rw [← e3, ← eH]
    exact I2.laid (t' := s2.toks) (fun b o e => Heap.get?_push_of_some _ e) (Nat.le_of_eq eD) (setTO_new new0)
  have low : ∀ b ∈ fp, b < s2.heap.objs.size := fun b hb => let ⟨_, e, _⟩ := T.obj _ _ st2 b hb; Heap.lt_size e
  have f3 : ∀ b ∈ fp, FpOk X pins H3 b ∧ b < s3.heap.objs.size := fun b hb => by
    refine ⟨⟨?_, (f2 b hb).2⟩, by rw [h3, Heap.size_push]; exact Nat.lt_succ_of_lt (low b hb)⟩
    rw [← eH, upd_ne (by rw [← eD]; exact Nat.ne_of_lt (low b hb))]
    exact (f2 b hb).1
  have st3 : tn 0 s3.heap := T.keep _ _ _ st2 fun b _ o e => by rw [h3]; exact Heap.get?_push_of_some _ e
  have I4 := block_start I3 bo nd f3
  generalize eC : cellsFrom (s3.heap.objs.size + 1) scope.names (cloFrom X.env.cells scope.names []) = cl at I4
  have pg := Pg s3 H3 s3.heap.objs.size cl fp
  have pt := Pt s3 H3 s3.heap.objs.size cl fp
  have pe := Pe s3 H3 s3.heap.objs.size cl fp
  subst eC
  show codeAny _ _ (.compStart (.SetComp elt [⟨tg, iter, ifs, 0⟩] scope pos) 0 (.ref it) (.ref D)
      (compEnvC scope (cellsFrom (s3.heap.objs.size + 1) scope.names (cloFrom X.env.cells scope.names [])) s3.heap.objs.size X.env))
    (compPost (model X.prog X.w) X.A X.xe use Qf (.ref D) s3.heap.objs.size)
    { s3 with heap := pushCells (s3.heap.push { cls := .type "dict", data := .dict #[] }) scope.names }
  generalize eE : compEnvC scope (cellsFrom (s3.heap.objs.size + 1) scope.names (cloFrom X.env.cells scope.names [])) s3.heap.objs.size X.env = ce at I4 pg pt pe ⊢
  have loc : ce.locals = s3.heap.objs.size := by subst eE; rfl
  generalize e4 : ({ s3 with heap := pushCells (s3.heap.push { cls := .type "dict", data := .dict #[] }) scope.names } : Shared) = s4 at I4 ⊢
  have st4 : tn 0 s4.heap := T.keep _ _ _ st3 fun b _ o e => by rw [← e4]; exact pushCells_keeps _ _ _ _ (Heap.get?_push_of_some _ e)
  have stat : ∀ {σ' : L2.St} {H' : Hp} {s' : Shared}, Inv (X.blk s3 H3 scope ce fp) [] σ' H' s' → (∀ b ∈ fp, H' b = none) → ∀ b ∈ fp, FpOk (X.blk s3 H3 scope ce fp) [] H' b := fun {σ' H' s'} I' hn b hb =>
    ⟨hn b hb, (I'.ok.exf b hb).1, I'.ok.exfs b hb, .inl hb, fun x c e => (I'.ok.exf b hb).2 x c e, fun p hp => absurd (show p ∈ ([] : List (Addr × Obj)) ++ [] from hp) (by simp)⟩
  have loop : codeAny (model X.prog X.w) X.A (.compLoop (.SetComp elt [⟨tg, iter, ifs, 0⟩] scope pos) 0 (.ref it) (.ref D) ce) (compPost (model X.prog X.w) X.A X.xe use Qf (.ref D) s3.heap.objs.size) s4 := by
    refine PpSet.compLoopS_any (fun n s' => ∃ i H', Inv (X.blk s3 H3 scope ce fp) [] (L2.wipe σ (own.map (·.2))) H' s' ∧ tn i s'.heap ∧ (∀ b ∈ fp, H' b = none) ∧ W i n H') ?_ m0 ⟨0, H3, I4, st4, fun b hb => (f3 b hb).1.1, w0⟩
    rintro n s5 ⟨i, H5, I5, st5, n5, w5⟩
    rcases turn i n H5 w5 with ⟨stop, qq⟩ | ⟨go, Nx, hNx, step⟩
    · refine thnF (T.done (X.blk s3 H3 scope ce fp) rfl rfl rfl calm i [] s5 _ H5 (fun _ _ => False) I5 (stat I5 n5) st5 stop) fun r s6 ⟨er, I6⟩ => ?_
      subst er
      have I7 : Inv X pins σ H5 s6 := I3.call' (ch := fp) I6.os I6.base I6.hok I6.bare fun b hb => ⟨(f3 b hb).1.2.2.2.1, (f3 b hb).1.2.1, (f3 b hb).1.2.2.2.2.1, (f3 b hb).1.2.2.2.2.2⟩
      have nC : H5 ce.locals = none := I6.free
      obtain ⟨m, ns, _⟩ := I6.loc
      have ns' : s6.heap.Ns ce.locals m := ns
      rw [loc] at nC ns'
      exact fin D s3.heap.objs.size s6 m H5 I7 qq ns' (I3.fpOk (Nat.le_refl _) nC)
    · refine thnF (T.item (X.blk s3 H3 scope ce fp) rfl rfl rfl calm i [] s5 _ H5 (fun _ _ => False) I5 (stat I5 n5) st5 go) fun r s6 ⟨u, er, h6⟩ => ?_
      subst er
      refine thnF h6 fun _ s7 ⟨x, H7, I7, r7, y7, st7, n7⟩ => thnF (pg.run _ s7 _ H7 x u _ (I7.pinned (stat I7 n7) (T.obj _ _ st7)) r7 (step x H7 y7)) fun _ s8 ⟨σ8, H8, I8, hw8, q8⟩ => thnF (pt.run _ s8 σ8 H8 _ I8 q8) fun b s9 ⟨H9, I9, q9⟩ => ?_
      have back : ∀ {s' : Shared} {H' : Hp}, Inv (X.blk s3 H3 scope ce fp) ([] ++ pinsAt fp s7.heap) σ8 H' s' → Nx H' → ∃ m, m < n ∧ ∃ i H', Inv (X.blk s3 H3 scope ce fp) [] (L2.wipe σ (own.map (·.2))) H' s' ∧ tn i s'.heap ∧ (∀ b ∈ fp, H' b = none) ∧ W i m H' := fun {s' H'} I' nx => by
        obtain ⟨m', lt, w'⟩ := hNx H' nx
        have pin' : ∀ b ∈ fp, ∀ o, s7.heap.get? b = some o → s'.heap.get? b = some o ∧ H' b = none := fun b hb o e => let z := I'.pin (b, o) (List.mem_append_right _ (List.mem_append_right _ (mem_pinsAt hb e))); ⟨z.1, z.2.1⟩
        refine ⟨m', lt, i + 1, H', (I'.unpinned (pins := [])).weak (by rw [← hw8, wipe_length]) (fun j v e => ?_), T.keep _ _ _ st7 fun b hb o e => (pin' b hb o e).1, fun b hb => ?_, w'⟩
        · rw [← hw8] at e
          exact (wipe_some e).1
        · obtain ⟨o, e, _⟩ := T.obj _ _ st7 b hb
          exact (pin' b hb o e).2
      cases b with
      | false =>
        rw [if_neg (by decide)] at q9 ⊢
        exact back I9 q9
      | true =>
        rw [if_pos rfl] at q9 ⊢
        refine thnF (pe.run _ s9 σ8 H9 _ I9 q9) fun z s10 ⟨yv, H10, I10, r10, c, l0, ey, hD10, few, nx⟩ => ?_
        subst ey
        obtain ⟨tk, rfl⟩ : ∃ tk, z = Value.str c tk := r10
        exact addT_ok (X := X.blk s3 H3 scope ce fp) I10 hD10 few fun s11 I11 => back I11 nx
  exact PpSet.codeAny_compStart_set loop (T.self X.A 0 _ _ _ st4 loop)
theorem pe_scT {elt tg iter : Expr} {ifs : List Expr} {scope : Scope} {own : List (PySem.Str × Nat)} {pos : Pos} {wi : TI} {g : TG} {tt : TT} {te : TE} (calm : X.calm = true) (nd : X.N.Nodup) (pi : PI X tg iter wi) (bo : BlkOk X.N X.env.scope scope own)
    (Pg : ∀ (s : Shared) (H : Hp) (C : Addr) (cl : List (PySem.Str × Addr)) (fp : List Addr), PG (X.blk s H scope (compEnvC scope cl C X.env) fp) tg g) (Pt : ∀ (s : Shared) (H : Hp) (C : Addr) (cl : List (PySem.Str × Addr)) (fp : List Addr), PTs (X.blk s H scope (compEnvC scope cl C X.env) fp) ifs tt)
    (Pe : ∀ (s : Shared) (H : Hp) (C : Addr) (cl : List (PySem.Str × Addr)) (fp : List Addr), PE (X.blk s H scope (compEnvC scope cl C X.env) fp) elt te) (fold : ∀ x, foldedSetIterable iter X.env x = pure x := by intro _; rfl) :
    PE X (.SetComp elt [⟨tg, iter, ifs, 0⟩] scope pos) (tScT X.prog X.w wi g tt te (own.map (·.2))) := by
  refine ⟨fun pins s σ H Q I h => ?_⟩
  rw [PpSet.eval_SetComp]
  refine scT_core calm nd I pi bo Pg Pt Pe fold h fun D C s' m H' I' q ns f => ⟨m, ns, fun h2 sb => ?_⟩
  obtain ⟨f0, f1, f2, f3, f4, f5⟩ := f
  exact ⟨.ref D, H', I'.turned (t' := s'.toks) (fun b o hb e => (sb.2 b hb).trans e) f0 f1 f3 f4 f5, rfl, q⟩
end

end
end Ag
namespace Ag
open PySem L2
open C8 (pss_cut tCut)
section
variable {P : Program} {w : World} {K : PySem.W.Frag} {mg : Str → Option Value} {base : Heap} {cs : List (Str × Addr)}
/-! sorted({e for x in xs if ..}) over data -/
def scL (g : DGt) (tt : DG Bool) (te : DT) (vs : List Nat) : List D → En → List (List Nat) → (List (List Nat) → En → Prop) → Prop
  | [], ρ, ts, k => k ts ρ
  | d :: ds, ρ, ts, k => g d ρ fun ρ2 => tt ρ2 (fun b ρ3 => if b = true then te ρ3 (fun y ρ4 => ∃ t, y = .str t ∧ ts.length < 60 ∧ scL g tt te vs ds (wipeE ρ4 vs) (ts ++ [t]) k) noX else scL g tt te vs ds (wipeE ρ3 vs) ts k) noX
noncomputable def dSc (ti : DG (List D)) (g : DGt) (tt : DG Bool) (te : DT) (vs : List Nat) : DT := fun ρ R X => ti ρ (fun ds ρ1 => scL g tt te vs ds (wipeE ρ1 vs) [] fun ts ρ' => ts.length < 64 ∧ R (.lst ((canon ts).map .str)) ρ') X
section
variable {L : Lx} {P' : Program} {w' : World}
theorem r_sc {is vs : List Nat} {ti : DG (List D)} {g : DGt} {tt : DG Bool} {te : DT} (hv : ∀ i ∈ is, i ∈ vs) : ∀ σ H Q, lift L (dSc ti g tt te vs) σ H Q → tCB (rSortT P' w') (tCons (tScT P' w' (liftI L ti) (liftG L is g) (liftT L tt) (lift L te) vs) tNil) σ H Q := by
  rintro σ H Q ⟨F, ρ, R, X, er, ht, hR, hX⟩
  refine ⟨F, ρ, _, X, er, ht, fun ds ρ1 J H1 h1 st1 er1 it => ?_, hX⟩
  intro Dd hD
  have fe : FE F (F.add Dd) H1 := ⟨rfl, fun a h => h.elim .inl fun e => .inr (e ▸ hD)⟩
  have nbD := er1.bag.ok.apart hD
  have hMD : (F.add Dd).M Dd := .inr rfl
  obtain ⟨stw, erw⟩ := er1.wipe vs
  have er0 : ER L.K L.C (F.add Dd) (upd H1 Dd (SetTO P' w' Dd [])) (L2.wipe σ vs) (wipeE ρ1 vs) := erw.add hD _
  have st0 : Step F σ ρ1 H1 (L2.wipe σ vs) (wipeE ρ1 vs) (upd H1 Dd (SetTO P' w' Dd [])) := fun a o e n b => ⟨by rw [upd_ne (ne_of_none e hD)]; exact e, (stw a o e n b).2⟩
  refine ⟨fun i m H' => m = ds.length - i ∧ i ≤ ds.length ∧ ∃ ρ' ts, NoAt vs ρ' ∧ Step F σ ρ1 H1 (L2.wipe σ vs) ρ' H' ∧ ER L.K L.C (F.add Dd) H' (L2.wipe σ vs) ρ' ∧ H' Dd = some (SetTO P' w' Dd (ded (ts.map SX.S))) ∧
    scL g tt te vs (ds.drop i) ρ' ts (fun ts ρ' => ts.length < 64 ∧ R (.lst ((canon ts).map .str)) ρ'), ⟨ds.length, by simp, Nat.zero_le _, _, [], noAt_wipeE _ _, st0, er0, upd_same, by simpa using h1⟩, ?_⟩
  rintro i m H' ⟨rfl, hi, ρ', ts, na, st, er', hDd, hk⟩
  obtain ⟨go, stop, yld⟩ := it (F.add Dd) _ ρ' H' (er1.stayF fe st) er'
  by_cases hlt : i < ds.length
  · refine .inr ⟨go i hlt, fun H'' => i + 1 ≤ ds.length ∧ ∃ ρ' ts, NoAt vs ρ' ∧ Step F σ ρ1 H1 (L2.wipe σ vs) ρ' H'' ∧ ER L.K L.C (F.add Dd) H'' (L2.wipe σ vs) ρ' ∧ H'' Dd = some (SetTO P' w' Dd (ded (ts.map SX.S))) ∧
      scL g tt te vs (ds.drop (i + 1)) ρ' ts (fun ts ρ' => ts.length < 64 ∧ R (.lst ((canon ts).map .str)) ρ'), fun H'' q => ⟨ds.length - (i + 1), by omega, rfl, q⟩, fun x H3 y => ?_⟩
    obtain ⟨sm, d, e, da⟩ := yld i x H3 hlt y
    rw [drop_cons hlt e] at hk
    have er3 := er'.same sm
    have st3 : Step F (L2.wipe σ vs) ρ' H' (L2.wipe σ vs) ρ' H3 := Step.same sm
    refine ⟨F.add Dd, ρ', d, _, er3, da, hk, fun σ4 ρ4 k4 st4 er4 sq => ?_⟩
    have ew : L2.wipe σ4 vs = L2.wipe σ vs := (wipe_ext sq.1 fun j hj => sq.2 j fun z => hj (hv j z)).trans (wipe_wipe σ vs)
    refine ⟨ew, F.add Dd, ρ4, _, noX, er4, k4, fun b ρ5 b' H5 h5 st5 er5 eb => ?_, fun x ρ' H' cls dc hx => hx.elim⟩
    cases eb
    have keepD : ∀ {σa σb : St} {ρa ρb : En} {Ha Hb : Hp} {o : HO}, ER L.K L.C (F.add Dd) Ha σa ρa → Step (F.add Dd) σa ρa Ha σb ρb Hb → Ha Dd = some o → Hb Dd = some o := fun ea sa ho => (sa Dd _ ho (fun z => ea.ownM z hMD) nbD.1).1
    have d4 := keepD er3 st4 (sm _ _ hDd)
    have d5 := keepD er4 st5 d4
    have stF : ∀ {σa σb : St} {ρa ρb : En} {Ha Hb : Hp}, Step (F.add Dd) σa ρa Ha σb ρb Hb → Step F σa ρa Ha σb ρb Hb := fun s => s
    have st15 := st.trans (st3.trans ((stF st4).trans (stF st5)))
    cases b with
    | false =>
      obtain ⟨sw, ew5⟩ := er5.wipe vs
      rw [ew] at sw ew5
      exact ⟨hlt, wipeE ρ5 vs, ts, noAt_wipeE _ _, st15.trans (stF sw), ew5, d5, h5⟩
    | true =>
      refine ⟨F.add Dd, ρ5, _, noX, er5, h5, fun y6 ρ6 yv H6 h6 st6 er6 dy => ?_, fun x ρ' H' cls dc hx => hx.elim⟩
      obtain ⟨t, rfl, few, h6⟩ := h6
      have d6 := keepD er5 st6 d5
      have dl := ded_len (ts.map SX.S)
      rw [List.length_map] at dl
      refine ⟨SX.S t, _, dy.of_str, d6, by unfold scanBound; omega, hlt, ?_⟩
      obtain ⟨sw, ew6⟩ := er6.wipe vs
      rw [ew] at sw ew6
      have eq : ins1 (ded (ts.map SX.S)) (SX.S t) = ded ((ts ++ [t]).map SX.S) := by rw [List.map_append, ← ded_snoc]; rfl
      rw [eq]
      refine ⟨wipeE ρ6 vs, ts ++ [t], noAt_wipeE _ _, ?_, ew6.updM _ hMD nbD, upd_same, h6⟩
      have st7 := st15.trans ((stF st6).trans (stF sw))
      exact fun a o e n b => ⟨by rw [upd_ne (ne_of_none e hD)]; exact (st7 a o e n b).1, (st7 a o e n b).2⟩
  · have e : i = ds.length := by omega
    subst e
    rw [List.drop_length] at hk
    obtain ⟨few, hr⟩ := hk
    refine .inl ⟨stop, ?_⟩
    have eru : ER L.K L.C F H' σ ρ' := (er'.unwipe na).unadd er1.bag
    have stu : Step F σ ρ1 H1 σ ρ' H' := fun a o e n b => ⟨(st a o e n b).1, fun z => (st a o e n b).2 ((own_unwipe na).mp z)⟩
    have dl := ded_len (ts.map SX.S)
    rw [List.length_map] at dl
    refine ⟨Dd, _, rfl, hDd, by omega, fun ys q pm srt hq => ?_⟩
    rw [canon_eq pm srt]
    have sm := Same.laid (.lst (((canon ts).map SX.S).map V.str)) hq
    exact hR _ ρ' _ _ hr (st1.trans (stu.trans (Step.same sm))) (eru.same sm) (Da.lst (eru.newMM hq) upd_same (DaL.of_texts _))
end

end
end Ag
namespace Ag
open PySem L2
open C8 (pss_cut tCut)
section
variable {P : Program} {w : World} {K : PySem.W.Frag} {mg : Str → Option Value} {base : Heap} {cs : List (Str × Addr)}
/-! for x in e, e a list or a tuple -/
def iSeq (K : PySem.W.Frag) (t : TE) : TI := fun σ H R => t σ H fun x H1 => ∃ a, x = .ref a ∧ (((∃ xs, SqL K H1 a xs) ∧ R (Itl K a) H1) ∨ ((∃ xs, SqT K H1 a xs) ∧ R (Itt K a) H1))
theorem pi_seq {X : Cx} {tg e : Expr} {t : TE} (he : PE X e t) : PI X tg e (iSeq X.K t) := by
  refine ⟨fun pins s σ H R I h => thn (he.run pins s σ H _ I h) fun v s1 ⟨x, H1, I1, r1, a, ex, q⟩ => ?_⟩
  subst ex
  cases r1
  have fp : ∀ b ∈ [s1.heap.objs.size], FpOk X pins H1 b := fun b hb => by
    rw [List.mem_singleton.mp hb]
    exact I1.fpOk (Nat.le_refl _) (I1.hok.fresh (Nat.le_refl _))
  rcases q with ⟨⟨xs, hq⟩, q⟩ | ⟨⟨xs, hq⟩, q⟩
  · obtain ⟨its, _, p, _⟩ := I1.list hq
    exact wpAny_pyIter_list p.isList ⟨_, _, _, _, H1, rfl, I1.kept (t' := s1.toks) fun b o z => Heap.get?_push_of_some _ z, turn_list a _, ⟨_, Heap.get?_push_size _ rfl, rfl, rfl⟩, fp, q⟩
  · obtain ⟨its, _, p, _⟩ := I1.tuple hq
    exact wpAny_pyIter_tuple (show s1.heap.IsTuple a its.toArray from p) ⟨_, _, _, _, H1, rfl, I1.kept (t' := s1.toks) fun b o z => Heap.get?_push_of_some _ z, turn_tuple a _, ⟨_, Heap.get?_push_size _ rfl, rfl, rfl⟩, fp, q⟩
def itemsQ (t : DT) : DG (List D) := fun ρ R X => t ρ (fun d ρ1 => match d with | .lst ds => R ds ρ1 | .tup ds => R ds ρ1 | _ => False) X
section
variable {L : Lx}
theorem i_seq {t : DT} : ∀ σ H R, liftI L (itemsQ t) σ H R → iSeq L.K (lift L t) σ H R := by
  rintro σ H R ⟨F, ρ, R', X, er, ht, hR, hX⟩
  refine ⟨F, ρ, _, X, er, ht, fun d ρ1 v H1 h st er1 da => ?_, hX⟩
  cases d with
  | lst ds =>
    unfold rD Da at da
    obtain ⟨a, xs, rfl, nM, h1, h2⟩ := da
    refine ⟨a, rfl, .inl ⟨⟨xs, SqL.of h1⟩, hR ds ρ1 _ H1 h st er1 fun F' σ' ρ' H' st' er' => ?_⟩⟩
    have hs : SqL L.K H' a xs := SqL.of (st' a _ nM h1).2
    have dl := DaL.mono st' _ _ h2
    have w := walk_list (K := L.K) (a := a) (xs := xs)
    rw [dl.length] at w
    exact ⟨fun i hi => w.goes i H' hi hs, w.stops H' hs, fun i x H'' hi y => by
      obtain ⟨e, q⟩ := w.yields i H' x H'' hi hs y
      subst e
      exact ⟨same0, dl.get q⟩⟩
  | tup ds =>
    obtain ⟨a, xs, rfl, h1, h2⟩ := Da.of_tupR da
    refine ⟨a, rfl, .inr ⟨⟨xs, h1.sq⟩, hR ds ρ1 _ H1 h st er1 fun F' σ' ρ' H' st' er' => ?_⟩⟩
    have hs : SqT L.K H' a xs := by
      rcases h1 with h1 | h1
      · exact SqT.of (st' a _ h1.1 h1.2).2
      · exact .inr h1
    have dl := DaL.mono st' _ _ h2
    have w := walk_tup (K := L.K) (a := a) (xs := xs)
    rw [dl.length] at w
    exact ⟨fun i hi => w.goes i H' hi hs, w.stops H' hs, fun i x H'' hi y => by
      obtain ⟨e, q⟩ := w.yields i H' x H'' hi hs y
      subst e
      exact ⟨same0, dl.get q⟩⟩
  | _ => exact h.elim
/-! xs[::-1] of a list -/
def fRev : D → Option D
  | .lst ds => some (.lst ds.reverse)
  | _ => none
theorem DaL.reverse {K : PySem.W.Frag} {C : Cl} {M : Addr → Prop} {H : Hp} : ∀ {ds : List D} {vs : List V}, DaL K C M H ds vs → DaL K C M H ds.reverse vs.reverse
  | [], vs, h => by unfold DaL at h; rw [h]; exact DaL.nil
  | d :: ds, vs, h => by
    unfold DaL at h
    obtain ⟨v, r, rfl, h1, h2⟩ := h
    rw [List.reverse_cons, List.reverse_cons]
    exact (DaL.reverse h2).append (DaL.cons h1 DaL.nil)
theorem r_revL {t : DT} : ∀ σ H Q, lift L (dUn fRev t) σ H Q → tRevL L.K (lift L t) σ H Q := by
  rintro σ H Q ⟨F, ρ, R, X, er, ht, hR, hX⟩
  refine ⟨F, ρ, _, X, er, ht, fun d ρ1 v H1 h1 st1 er1 da => ?_, hX⟩
  obtain ⟨d', e, hr⟩ := h1
  unfold fRev at e
  split at e
  · cases e
    obtain ⟨a, xs, rfl, h1, h2⟩ := da.of_lst
    refine ⟨a, xs, rfl, SqL.of h1, fun p hp => ?_⟩
    have sm := Same.laid (.lst xs.reverse) hp
    exact hR _ ρ1 _ _ hr (st1.trans (Step.same sm)) (er1.same sm) (Da.lst (er1.newMM hp) upd_same (DaL.reverse (h2.same sm)))
  · cases e
end
/-! x, y = [], [v] -/
def dParOV (i j k : Nat) : DS := fun G ρ => ∃ d, ρ[k]? = some (.dat d) ∧ G.nx ((ρ.set i (.own [])).set j (.own [d]))
section
variable {L : Lx}
theorem s_parOV {i j k : Nat} : ∀ E σ H, liftS L (dParOV i j k) E σ H → tPar i j (tCons (tLst tNil) (tCons (tLst (tCons (tVar k) tNil)) tNil)) E σ H := by
  rintro E σ H ⟨F, ρ, G, er, ⟨d, hk, ht⟩, g⟩
  obtain ⟨v, hv, x, rfl, hx⟩ := er.at hk
  refine ⟨Nat.zero_le _, fun p hp => ⟨x, hv, show 1 ≤ sizeLine by decide, fun q hq => ?_⟩⟩
  obtain ⟨st2, er2⟩ := er.ownNew (i := i) hp DaL.nil
  obtain ⟨st3, er3⟩ := er2.ownNew (i := j) (ds := [d]) (xs := [x]) hq (DaL.cons (er.da st2 hx) DaL.nil)
  exact ⟨_, _, rfl, g.nx _ _ _ ht (st2.trans st3) er3⟩
end

end
end Ag
namespace Ag
open PySem L2
open C8 (pss_cut tCut)
section
variable {P : Program} {w : World} {K : PySem.W.Frag} {mg : Str → Option Value} {base : Heap} {cs : List (Str × Addr)}
/-! xs[::-1] of a tuple -/
section
variable {P' : Program} {w' : World} {A : Around} {E : Value → Shared → Prop} {s : Shared}
theorem adjust_rev (n : Nat) : Builtin.Slice.sliceAdjust none none (-1) (n : Int) = ((n : Int) - 1, -1) := by
  unfold Builtin.Slice.sliceAdjust
  simp
theorem places_rev (n : Nat) : Builtin.Slice.slicePlaces ((n : Int) - 1) (-1) (-1) = n := by
  unfold Builtin.Slice.slicePlaces
  simp
  omega
theorem applied_rev {sl : Addr} {vl vu vs : Value} {n : Nat} {Q : Int × Int × Nat → Shared → Prop} (hs : s.heap.IsSliceOf sl vl vu vs) (pl : IsPart vl none) (pu : IsPart vu none) (ps : IsPart vs (some (-1)))
    (q : Q ((n : Int) - 1, -1, n) s) : wpAny (model P' w') A (Builtin.Slice.sliceApplied (.ref sl) (pure (n : Int))) Q E s := by
  obtain ⟨o, ho, _, hd⟩ := hs
  unfold Builtin.Slice.sliceApplied Builtin.Slice.sliceFields
  refine wpAny_bind (wpAny_bind (wpAny_field ho hd (x := vl) rfl (wpAny_bind (wpAny_field ho hd (x := vu) rfl (wpAny_bind (wpAny_field ho hd (x := vs) rfl (wpAny_pure ?_)))))))
  refine wpAny_bind (HT.slicePart_ ps ?_)
  show wpAny _ _ (if ((-1 : Int) == 0) = true then _ else _) _ _ s
  rw [if_neg (by decide)]
  refine wpAny_bind (HT.slicePart_ pl (wpAny_bind (HT.slicePart_ pu (wpAny_bind (wpAny_pure ?_)))))
  show wpAny _ _ (match Builtin.Slice.sliceAdjust none none (-1) (n : Int) with | (lo, hi) => pure (lo, (-1 : Int), Builtin.Slice.slicePlaces lo hi (-1))) _ _ s
  rw [adjust_rev]
  show wpAny _ _ (pure ((n : Int) - 1, (-1 : Int), Builtin.Slice.slicePlaces ((n : Int) - 1) (-1) (-1))) _ _ s
  rw [places_rev]
  exact wpAny_pure q
theorem fm_congr {α β : Type} {f g : α → Option β} : ∀ {l : List α}, (∀ x ∈ l, f x = g x) → l.filterMap f = l.filterMap g
  | [], _ => rfl
  | x :: l, h => by rw [List.filterMap_cons, List.filterMap_cons, h x List.mem_cons_self, fm_congr fun y hy => h y (List.mem_cons_of_mem _ hy)]
theorem pick_rev (xs : Array Value) : ((List.range xs.size).filterMap fun (m : Nat) => xs[(((xs.size : Nat) : Int) - 1 + (m : Int) * (-1)).toNat]?).toArray = xs.toList.reverse.toArray := by
  congr 1
  have e : ((List.range xs.size).filterMap fun (m : Nat) => xs[(((xs.size : Nat) : Int) - 1 + (m : Int) * (-1)).toNat]?) = ((List.range xs.size).map fun k => xs.size - 1 - k).filterMap fun k => xs[k]? := by
    rw [List.filterMap_map]
    refine fm_congr fun m hm => ?_
    have := List.mem_range.mp hm
    show _ = xs[xs.size - 1 - m]?
    rw [show (((xs.size : Nat) : Int) - 1 + (m : Int) * (-1)).toNat = xs.size - 1 - m by omega]
  rw [e, PySem.W.krv_range, List.filterMap_reverse, PySem.W.krv_all]
theorem getTup_rev {t sl : Addr} {its : Array Value} {vl vu vs : Value} {Q : Value → Shared → Prop} (ht : PyProof.Rows.IsTup s.heap t its) (hs : s.heap.IsSliceOf sl vl vu vs) (pl : IsPart vl none) (pu : IsPart vu none) (ps : IsPart vs (some (-1)))
    (q : Q (.ref s.heap.objs.size) { s with heap := s.heap.push { cls := .type "tuple", data := .seq its.toList.reverse.toArray } }) (few : its.size ≤ sizeLine) : wpAny (model P' w') A (getItem (.ref t) (.ref sl)) Q E s := by
  obtain ⟨os, hos, hcs, hds⟩ := id hs
  have typ : s.TypeIs (.ref sl) "slice" := ⟨os, hos, hcs⟩
  have fit : sizeOk (.seq its.toList.reverse.toArray) := by
    show its.toList.reverse.toArray.size ≤ sizeLine
    rw [List.size_toArray, List.length_reverse, Array.length_toList]
    exact few
  unfold getItem
  try with_reducible refine wpAny_holding ?_
  first | refine wpAny_bind (wpAny_pure ?_) | skip
  refine wpAny_bind (wpAny_sequenceKey ht.typeIs (by decide) ?_)
  refine wpAny_bind (wpAny_callSpecial?_slot (name := Str.ofString "__getitem__") ht.typeIs PyProof.Rows.slot_tuple_getitem (wpAny_call_entry PyProof.Rows.slot_tuple_getitem ht.typeIs PyProof.Rows.entry_tuple_getitem ?_ (PyProof.Rows.args_tuple_getitem _ _)))
  show wpAny _ _ (Builtin.Tuple.tupleItemsOf (.ref t) >>= _) _ _ s
  refine wpAny_bind (PyProof.Rows.tupleItemsOf_ ht (wpAny_bind (wpAny_typeOf typ ?_)))
  rw [if_pos (by decide)]
  refine wpAny_bind (applied_rev (n := its.size) hs pl pu ps ?_)
  show wpAny _ _ (if ((((its.size : Nat) : Int) - 1) == 0 && (-1 : Int) == 1 && its.size == its.size) = true then _ else _) _ _ s
  rw [if_neg (by simp), pick_rev]
  first
    | exact wpAny_bind (m := Builtin.Tuple.tupleExact _) (wpAny_newObj_type (wpAny_pure ⟨_, rfl, wpAny_pure q⟩) fit)
    | exact wpAny_bind (m := Builtin.Tuple.tupleExact _) (wpAny_newObj_type (wpAny_bind (wpAny_pure (wpAny_pure ⟨_, rfl, wpAny_pure q⟩))) fit)
end
def tRevA (K : PySem.W.Frag) (te : TE) : TE := fun σ H Q => te σ H fun x H1 => ∃ a xs, x = .ref a ∧ ((SqL K H1 a xs ∧ ∀ p, H1 p = none → Q (.ref p) (upd H1 p (.lst xs.reverse))) ∨ (SqT K H1 a xs ∧ ∀ p, H1 p = none → Q (.ref p) (upd H1 p (.tup xs.reverse))))
open PyProof.Rows HT in
theorem pe_revA {X : Cx} {e : Expr} {te : TE} {k : Nat} {p1 p2 p3 pos : Pos} (he : PE X e te) : PE X (.Subscript e (.Slice none none (some (.UnaryOp .USub (.Constant (.int 1) k p1) p2)) p3) pos) (tRevA X.K te) := by
  refine ⟨fun pins s σ H Q I h => Subscript_ (thn (he.run pins s σ H _ I h) fun v s1 ⟨x, H1, I1, r1, a, xs, ex, q⟩ => ?_)⟩
  subst ex
  cases r1
  have st : PO X (some (.UnaryOp .USub (.Constant (.int 1) k p1) p2)) (tPart (tUn (rU fun i => .int (-i)) (tC (.int 1)))) := po_some (pe_un un_neg pe_int)
  refine wpAny_Slice (thn (po_none.run pins s1 σ H1 (fun o G => o = none ∧ G = H1) I1 ⟨rfl, rfl⟩) fun vl s2 ⟨l, H2, I2, pl, el, e2⟩ => ?_)
  subst el e2
  refine thn (po_none.run pins s2 σ H2 (fun o G => o = none ∧ G = H2) I2 ⟨rfl, rfl⟩) fun vu s3 ⟨u, H3, I3, pu, eu, e3⟩ => ?_
  subst eu e3
  refine thn (st.run pins s3 σ H3 (fun o G => o = some (-1) ∧ G = H3) I3 ⟨1, rfl, -1, rfl, rfl, rfl⟩) fun vs s4 ⟨o, H4, I4, ps, eo, e4⟩ => ?_
  subst eo e4
  have up : ∀ (b : Addr) (o : Obj), s4.heap.get? b = some o → (s4.heap.push { cls := .type "slice", data := .fields #[vl, vu, vs] }).get? b = some o := fun b o z => Heap.get?_push_of_some _ z
  have I5 : Inv X pins σ H4 { s4 with heap := s4.heap.push { cls := .type "slice", data := .fields #[vl, vu, vs] } } := I4.kept (t' := s4.toks) up
  show wpAny (model X.prog X.w) X.A (subscriptTail e (.Slice none none (some (.UnaryOp .USub (.Constant (.int 1) k p1) p2)) p3) (.ref a) (.ref s4.heap.objs.size)) (EP X pins σ Q) X.xe
    { s4 with heap := s4.heap.push { cls := .type "slice", data := .fields #[vl, vu, vs] } }
  rcases q with ⟨hx, q⟩ | ⟨hx, q⟩
  · obtain ⟨its, r, ht, hz⟩ := I5.list hx
    have len := r.length
    refine tail_any (ops := [.ref a, .ref s4.heap.objs.size]) ht.isList.typeIs (PySem.slot_list_getitem.lookup) ?_ (by with_unfolding_all rfl)
    refine wpAny_getItem_list_slice ht.isList (Heap.IsSliceOf.new _ vl vu vs) pl pu ps (by decide) ?_ (by rw [List.size_toArray]; omega)
    rw [PySem.W.krv_pick]
    refine ⟨.ref _, _, I5.laid (t' := s4.toks) (o := .lst xs.reverse) (fun b o z => Heap.get?_push_of_some _ z) (Nat.le_refl _) ?_, rfl, q _ (I5.hok.fresh (Nat.le_refl _))⟩
    exact ⟨by rw [List.length_reverse]; exact hz, _, 0, r.reverse, Heap.get?_push_size _ rfl⟩
  · obtain ⟨its, r, ht, hz⟩ := I5.tuple hx
    have len := r.length
    refine tail_any (ops := [.ref a, .ref s4.heap.objs.size]) ht.typeIs PyProof.Rows.slot_tuple_getitem.lookup ?_ (by with_unfolding_all rfl)
    refine getTup_rev ht (Heap.IsSliceOf.new _ vl vu vs) pl pu ps ?_ (by rw [List.size_toArray]; omega)
    refine ⟨.ref _, _, I5.laid (t' := s4.toks) (o := .tup xs.reverse) (fun b o z => Heap.get?_push_of_some _ z) (Nat.le_refl _) ?_, rfl, q _ (I5.hok.fresh (Nat.le_refl _))⟩
    exact ⟨by rw [List.length_reverse]; exact hz, _, r.reverse, IsTup.new _ _⟩
def fRevA : D → Option D
  | .lst ds => some (.lst ds.reverse)
  | .tup ds => some (.tup ds.reverse)
  | _ => none
section
variable {L : Lx}
theorem r_revA {t : DT} : ∀ σ H Q, lift L (dUn fRevA t) σ H Q → tRevA L.K (lift L t) σ H Q := by
  rintro σ H Q ⟨F, ρ, R, X, er, ht, hR, hX⟩
  refine ⟨F, ρ, _, X, er, ht, fun d ρ1 v H1 h1 st1 er1 da => ?_, hX⟩
  obtain ⟨d', e, hr⟩ := h1
  unfold fRevA at e
  split at e
  · cases e
    obtain ⟨a, xs, rfl, h1, h2⟩ := da.of_lst
    refine ⟨a, xs, rfl, .inl ⟨SqL.of h1, fun p hp => ?_⟩⟩
    have sm := Same.laid (.lst xs.reverse) hp
    exact hR _ ρ1 _ _ hr (st1.trans (Step.same sm)) (er1.same sm) (Da.lst (er1.newMM hp) upd_same (DaL.reverse (h2.same sm)))
  · cases e
    obtain ⟨a, xs, rfl, h1, h2⟩ := da.of_tup
    refine ⟨a, xs, rfl, .inr ⟨h1, fun p hp => ?_⟩⟩
    have sm := Same.laid (.tup xs.reverse) hp
    exact hR _ ρ1 _ _ hr (st1.trans (Step.same sm)) (er1.same sm) (Da.tup (.inl ⟨er1.newMM hp, upd_same⟩) (DaL.reverse (h2.same sm)))
  · cases e
end
/-! an own list compared with [] -/
def dPeek (f : D → D → Option D) (i : Nat) : DG Bool := fun ρ R _ => match ρ[i]? with
  | some (.own ds) => ok (f (.lst ds) (.lst [])) fun d => match d with | .bl b => R b ρ | _ => False
  | _ => False
section
variable {L : Lx}
theorem r_peek {r : R2} {f : D → D → Option D} {i : Nat} (h : RefR2 L r f) : ∀ σ H Q, liftT L (dPeek f i) σ H Q → tTest (tOp r (tVar i) (tLst tNil)) σ H Q := by
  rintro σ H Q ⟨F, ρ, R, X, er, ht, hR, hX⟩
  unfold dPeek at ht
  split at ht
  · rename_i ds hi
    obtain ⟨d, e, hd⟩ := ht
    obtain ⟨v, hv, l, xs, rfl, nM, h1, h2⟩ := er.at hi
    refine ⟨_, hv, Nat.zero_le _, fun p hp => ?_⟩
    have sm := Same.laid (.lst []) hp
    have er1 := er.same sm
    refine h F.M _ _ _ (.lst ds) (.lst []) d _ (fun q hq z => er1.newMM hq (.inl z)) (Da.lst nM (sm _ _ h1) ((h2.same sm).weak fun a z => .inl z)) (Da.lst (fun z => er.newMM hp (.inl z)) upd_same DaL.nil) e fun v H' sm' dv => ?_
    cases d with
    | bl b =>
      cases dv.of_bl
      exact ⟨b, rfl, hR b ρ b H' hd (Step.same fun a o z => sm' a o (sm a o z)) (er1.same sm') rfl⟩
    | _ => exact hd.elim
  · exact ht.elim
end

end
end Ag
namespace Ag
open PySem L2
open C8 (pss_cut tCut)
section
variable {P : Program} {w : World} {K : PySem.W.Frag} {mg : Str → Option Value} {base : Heap} {cs : List (Str × Addr)}
/-! comprehensions with two fors -/
section
variable {L : Lx} {F : Fx} {H H' : Hp} {σ σ' : St} {ρ ρ' : En} {C : Cl}
def lcL2 (g : DGt) (tt : DG Bool) (ti1 : DG (List D)) (g1 : DGt) (tt1 : DG Bool) (te : DT) (vs vs1 : List Nat) : List D → En → List D → (List D → En → Prop) → Prop
  | [], ρ, acc, k => k acc ρ
  | d :: ds, ρ, acc, k => g d ρ fun ρ2 => tt ρ2 (fun b ρ3 => if b = true then ti1 ρ3 (fun es ρ4 => lcL g1 tt1 te vs1 es (wipeE ρ4 vs1) acc fun acc' ρ5 => lcL2 g tt ti1 g1 tt1 te vs vs1 ds (wipeE ρ5 vs) acc' k) noX
      else lcL2 g tt ti1 g1 tt1 te vs vs1 ds (wipeE ρ3 vs) acc k) noX
def dLc2 (ti : DG (List D)) (g : DGt) (tt : DG Bool) (ti1 : DG (List D)) (g1 : DGt) (tt1 : DG Bool) (te : DT) (vs vs1 : List Nat) : DT := fun ρ R X => ti ρ (fun ds ρ1 => lcL2 g tt ti1 g1 tt1 te vs vs1 ds (wipeE ρ1 vs) [] fun acc ρ' => R (.lst acc) ρ') X
theorem r_lc2 {is js vs vs1 : List Nat} {ti : DG (List D)} {g : DGt} {tt : DG Bool} {ti1 : DG (List D)} {g1 : DGt} {tt1 : DG Bool} {te : DT} (hv : ∀ i ∈ is, i ∈ vs) (hv1 : ∀ i ∈ js, i ∈ vs1) (hvv : ∀ i ∈ vs1, i ∈ vs) :
    ∀ σ H Q, lift L (dLc2 ti g tt ti1 g1 tt1 te vs vs1) σ H Q → tLc2 (liftI L ti) (liftG L is g) (liftT L tt) (liftI L ti1) (liftG L js g1) (liftT L tt1) (lift L te) vs vs1 σ H Q := by
  rintro σ H Q ⟨F, ρ, R, X, er, ht, hR, hX⟩
  refine ⟨F, ρ, _, X, er, ht, fun ds ρ1 J H1 h1 st1 er1 it => ?_, hX⟩
  intro Dd hD
  have fe : FE F (F.add Dd) H1 := ⟨rfl, fun a h => h.elim .inl fun e => .inr (e ▸ hD)⟩
  have nbD := er1.bag.ok.apart hD
  have hMD : (F.add Dd).M Dd := .inr rfl
  obtain ⟨stw, erw⟩ := er1.wipe vs
  have er0 : ER L.K L.C (F.add Dd) (upd H1 Dd (.lst [])) (L2.wipe σ vs) (wipeE ρ1 vs) := erw.add hD _
  have st0 : Step F σ ρ1 H1 (L2.wipe σ vs) (wipeE ρ1 vs) (upd H1 Dd (.lst [])) := fun a o e n b => ⟨by rw [upd_ne (ne_of_none e hD)]; exact e, (stw a o e n b).2⟩
  have keepD : ∀ {σa σb : St} {ρa ρb : En} {Ha Hb : Hp} {o : HO}, ER L.K L.C (F.add Dd) Ha σa ρa → Step (F.add Dd) σa ρa Ha σb ρb Hb → Ha Dd = some o → Hb Dd = some o := fun ea sa ho => (sa Dd _ ho (fun z => ea.ownM z hMD) nbD.1).1
  have stF : ∀ {σa σb : St} {ρa ρb : En} {Ha Hb : Hp}, Step (F.add Dd) σa ρa Ha σb ρb Hb → Step F σa ρa Ha σb ρb Hb := fun s => s
  refine ⟨fun i m H' => m = ds.length - i ∧ i ≤ ds.length ∧ ∃ ρ' acc vacc, NoAt vs ρ' ∧ Step F σ ρ1 H1 (L2.wipe σ vs) ρ' H' ∧ ER L.K L.C (F.add Dd) H' (L2.wipe σ vs) ρ' ∧ H' Dd = some (.lst vacc) ∧ DaL L.K L.C (MM (F.add Dd) (L2.wipe σ vs) ρ') H' acc vacc ∧
    lcL2 g tt ti1 g1 tt1 te vs vs1 (ds.drop i) ρ' acc (fun acc ρ' => R (.lst acc) ρ'), ⟨ds.length, by simp, Nat.zero_le _, _, [], [], noAt_wipeE _ _, st0, er0, upd_same, DaL.nil, by simpa using h1⟩, ?_⟩
  rintro i m H' ⟨rfl, hi, ρ', acc, vacc, na, st, er', hDd, hacc, hk⟩
  obtain ⟨go, stop, yld⟩ := it (F.add Dd) _ ρ' H' (er1.stayF fe st) er'
  by_cases hlt : i < ds.length
  · refine .inr ⟨go i hlt, fun H'' => i + 1 ≤ ds.length ∧ ∃ ρ' acc vacc, NoAt vs ρ' ∧ Step F σ ρ1 H1 (L2.wipe σ vs) ρ' H'' ∧ ER L.K L.C (F.add Dd) H'' (L2.wipe σ vs) ρ' ∧ H'' Dd = some (.lst vacc) ∧ DaL L.K L.C (MM (F.add Dd) (L2.wipe σ vs) ρ') H'' acc vacc ∧
      lcL2 g tt ti1 g1 tt1 te vs vs1 (ds.drop (i + 1)) ρ' acc (fun acc ρ' => R (.lst acc) ρ'), fun H'' q => ⟨ds.length - (i + 1), by omega, rfl, q⟩, fun x H3 y => ?_⟩
    obtain ⟨sm, d, e, da⟩ := yld i x H3 hlt y
    rw [drop_cons hlt e] at hk
    have er3 := er'.same sm
    have st3 : Step F (L2.wipe σ vs) ρ' H' (L2.wipe σ vs) ρ' H3 := Step.same sm
    refine ⟨F.add Dd, ρ', d, _, er3, da, hk, fun σ4 ρ4 k4 st4 er4 sq => ?_⟩
    have ew : L2.wipe σ4 vs = L2.wipe σ vs := (wipe_ext sq.1 fun j hj => sq.2 j fun z => hj (hv j z)).trans (wipe_wipe σ vs)
    refine ⟨ew, F.add Dd, ρ4, _, noX, er4, k4, fun b ρ5 b' H5 h5 st5 er5 eb => ?_, fun x ρ' H' cls dc hx => hx.elim⟩
    cases eb
    have d5 : H5 Dd = some (.lst vacc) := keepD er4 st5 (sm _ _ hDd)
    have a5 := er4.daL st5 (er3.daL st4 (hacc.same sm))
    have st15 := st.trans (st3.trans ((stF st4).trans (stF st5)))
    cases b with
    | false =>
      obtain ⟨sw, ew5⟩ := er5.wipe vs
      have a6 := er5.daL sw a5
      rw [ew] at sw ew5 a6
      exact ⟨hlt, wipeE ρ5 vs, acc, vacc, noAt_wipeE _ _, st15.trans (stF sw), ew5, d5, a6, h5⟩
    | true =>
      refine ⟨F.add Dd, ρ5, _, noX, er5, h5, fun es ρ6 J1 H6 h6 st6 er6 it1 => ?_, fun x ρ' H' cls dc hx => hx.elim⟩
      have d6 : H6 Dd = some (.lst vacc) := keepD er5 st6 d5
      have a6 := er5.daL st6 a5
      have st16 := st15.trans (stF st6)
      obtain ⟨sw6, ew6⟩ := er6.wipe vs1
      have a6w := er6.daL sw6 a6
      refine ⟨fun j k H7 => k = es.length - j ∧ j ≤ es.length ∧ ∃ ρ7 acc7 vacc7, NoAt vs1 ρ7 ∧ Step F σ ρ1 H1 (L2.wipe σ4 vs1) ρ7 H7 ∧ Stay (F.add Dd) σ4 ρ6 H6 (F.add Dd) (L2.wipe σ4 vs1) ρ7 H7 ∧ ER L.K L.C (F.add Dd) H7 (L2.wipe σ4 vs1) ρ7 ∧ H7 Dd = some (.lst vacc7) ∧ DaL L.K L.C (MM (F.add Dd) (L2.wipe σ4 vs1) ρ7) H7 acc7 vacc7 ∧
        lcL g1 tt1 te vs1 (es.drop j) ρ7 acc7 (fun acc' ρ5 => lcL2 g tt ti1 g1 tt1 te vs vs1 (ds.drop (i + 1)) (wipeE ρ5 vs) acc' (fun acc ρ' => R (.lst acc) ρ')),
        ⟨es.length, by simp, Nat.zero_le _, _, acc, vacc, noAt_wipeE _ _, st16.trans (stF sw6), er6.stay sw6, ew6, d6, a6w, by simpa using h6⟩, ?_⟩
      rintro j k H7 ⟨rfl, hj, ρ7, acc7, vacc7, na7, st7, sy7, er7, d7, a7, k7⟩
      obtain ⟨go1, stop1, yld1⟩ := it1 (F.add Dd) _ ρ7 H7 sy7 er7
      by_cases hlt1 : j < es.length
      · refine .inr ⟨go1 j hlt1, fun H'' => j + 1 ≤ es.length ∧ ∃ ρ7 acc7 vacc7, NoAt vs1 ρ7 ∧ Step F σ ρ1 H1 (L2.wipe σ4 vs1) ρ7 H'' ∧ Stay (F.add Dd) σ4 ρ6 H6 (F.add Dd) (L2.wipe σ4 vs1) ρ7 H'' ∧ ER L.K L.C (F.add Dd) H'' (L2.wipe σ4 vs1) ρ7 ∧ H'' Dd = some (.lst vacc7) ∧ DaL L.K L.C (MM (F.add Dd) (L2.wipe σ4 vs1) ρ7) H'' acc7 vacc7 ∧
          lcL g1 tt1 te vs1 (es.drop (j + 1)) ρ7 acc7 (fun acc' ρ5 => lcL2 g tt ti1 g1 tt1 te vs vs1 (ds.drop (i + 1)) (wipeE ρ5 vs) acc' (fun acc ρ' => R (.lst acc) ρ')), fun H'' q => ⟨es.length - (j + 1), by omega, rfl, q⟩, fun x8 H8 y8 => ?_⟩
        obtain ⟨sm8, d8, e8, da8⟩ := yld1 j x8 H8 hlt1 y8
        rw [drop_cons hlt1 e8] at k7
        have er8 := er7.same sm8
        have st8 : Step F (L2.wipe σ4 vs1) ρ7 H7 (L2.wipe σ4 vs1) ρ7 H8 := Step.same sm8
        refine ⟨F.add Dd, ρ7, d8, _, er8, da8, k7, fun σ9 ρ9 k9 st9 er9 sq9 => ?_⟩
        have ew9 : L2.wipe σ9 vs1 = L2.wipe σ4 vs1 := (wipe_ext sq9.1 fun j hj => sq9.2 j fun z => hj (hv1 j z)).trans (wipe_wipe σ4 vs1)
        refine ⟨ew9, F.add Dd, ρ9, _, noX, er9, k9, fun b ρa b' Ha ha sta era eb => ?_, fun x ρ' H' cls dc hx => hx.elim⟩
        cases eb
        have da : Ha Dd = some (.lst vacc7) := keepD er9 sta (sm8 _ _ d7)
        have aa := er9.daL sta (er8.daL st9 (a7.same sm8))
        have stA := st7.trans (st8.trans ((stF st9).trans (stF sta)))
        have syA : Stay (F.add Dd) σ4 ρ6 H6 (F.add Dd) σ9 ρa Ha := fun a o n e => by
          obtain ⟨n1, e1⟩ := sy7 a o n e
          exact (er8.stay (st9.trans sta)) a o n1 (sm8 _ _ e1)
        cases b with
        | false =>
          obtain ⟨sw, ewa⟩ := era.wipe vs1
          have ab := era.daL sw aa
          have syB : Stay (F.add Dd) σ4 ρ6 H6 (F.add Dd) (L2.wipe σ9 vs1) (wipeE ρa vs1) Ha := fun a o n e => era.stay sw a o (syA a o n e).1 (syA a o n e).2
          rw [ew9] at sw ewa ab syB
          exact ⟨hlt1, wipeE ρa vs1, acc7, vacc7, noAt_wipeE _ _, stA.trans (stF sw), syB, ewa, da, ab, ha⟩
        | true =>
          refine ⟨F.add Dd, ρa, _, noX, era, ha, fun w ρb yv Hb hb stb erb dy => ?_, fun x ρ' H' cls dc hx => hx.elim⟩
          have db : Hb Dd = some (.lst vacc7) := keepD era stb da
          have ab := era.daL stb aa
          refine ⟨vacc7, db, by rw [ab.length]; exact Nat.lt_of_lt_of_le hb.1 (by decide), hlt1, ?_⟩
          obtain ⟨sw, ewb⟩ := erb.wipe vs1
          have ac := erb.daL sw (ab.append (DaL.cons dy DaL.nil))
          have syB : Stay (F.add Dd) σ4 ρ6 H6 (F.add Dd) (L2.wipe σ9 vs1) (wipeE ρb vs1) Hb := fun a o n e => era.stay (stb.trans sw) a o (syA a o n e).1 (syA a o n e).2
          rw [ew9] at sw ewb ac syB
          refine ⟨wipeE ρb vs1, acc7 ++ [w], vacc7 ++ [yv], noAt_wipeE _ _, ?_, ?_, ewb.updM _ hMD nbD, upd_same, ?_, hb.2⟩
          · have stz := stA.trans ((stF stb).trans (stF sw))
            exact fun a o e n b => ⟨by rw [upd_ne (ne_of_none e hD)]; exact (stz a o e n b).1, (stz a o e n b).2⟩
          · exact fun a o n e => ⟨(syB a o n e).1, by rw [upd_ne fun z => n (.inl (.inr z))]; exact (syB a o n e).2⟩
          · exact DaL.mono (fun a o n e => ⟨n, by rw [upd_ne fun z => n (.inl (.inr z))]; exact e⟩) _ _ ac
      · have ej : j = es.length := by omega
        subst ej
        rw [List.drop_length] at k7
        refine .inl ⟨stop1, hlt, ?_⟩
        have eru : ER L.K L.C (F.add Dd) H7 σ4 ρ7 := er7.unwipe na7
        obtain ⟨sw, ewz⟩ := eru.wipe vs
        have az : DaL L.K L.C (MM (F.add Dd) σ4 ρ7) H7 acc7 vacc7 := a7.weak fun a z => z.elim .inl fun q => .inr ((own_unwipe na7).mp q)
        have ay := eru.daL sw az
        rw [ew] at sw ewz ay
        refine ⟨wipeE ρ7 vs, acc7, vacc7, noAt_wipeE _ _, ?_, ewz, d7, ay, k7⟩
        have stu : Step F σ ρ1 H1 σ4 ρ7 H7 := fun a o e n b => ⟨(st7 a o e n b).1, fun z => (st7 a o e n b).2 ((own_unwipe na7).mp z)⟩
        exact stu.trans (stF sw)
  · have e : i = ds.length := by omega
    subst e
    rw [List.drop_length] at hk
    refine .inl ⟨stop, ?_⟩
    have eru : ER L.K L.C F H' σ ρ' := (er'.unwipe na).unadd er1.bag
    have stu : Step F σ ρ1 H1 σ ρ' H' := fun a o e n b => ⟨(st a o e n b).1, fun z => (st a o e n b).2 ((own_unwipe na).mp z)⟩
    have nOwn : ¬ Own σ ρ' Dd := fun z => er'.ownM ((own_unwipe na).mp z) hMD
    have nM : ¬ F.M Dd := fun z => by obtain ⟨u, q⟩ := er1.there Dd z; rw [hD] at q; cases q
    exact hR _ ρ' _ H' hk (st1.trans stu) eru (Da.lst (fun z => z.elim nM nOwn) hDd (hacc.weak fun a z => z.elim (fun q => .inl (.inl q)) fun q => .inr ((own_unwipe na).mp q)))
theorem s_setLc2 {i : Nat} {is js vs vs1 : List Nat} {ti : DG (List D)} {g : DGt} {tt : DG Bool} {ti1 : DG (List D)} {g1 : DGt} {tt1 : DG Bool} {te : DT} (hv : ∀ i ∈ is, i ∈ vs) (hv1 : ∀ i ∈ js, i ∈ vs1) (hvv : ∀ i ∈ vs1, i ∈ vs) :
    ∀ E σ H, liftS L (dAsg (dLc2 ti g tt ti1 g1 tt1 te vs vs1) (dName i)) E σ H → tAsg (tLc2 (liftI L ti) (liftG L is g) (liftT L tt) (liftI L ti1) (liftG L js g1) (liftT L tt1) (lift L te) vs vs1) (gName i) E σ H :=
  fun E σ H h => r_lc2 hv hv1 hvv σ H _ (s_set E σ H h)
end

end
end Ag
namespace Ag
open PySem L2
open C8 (pss_cut tCut)
section
variable {P : Program} {w : World} {K : PySem.W.Frag} {mg : Str → Option Value} {base : Heap} {cs : List (Str × Addr)}
/-! dicts of the module, texts to texts; partition, split -/
def tabL (tab : List (String × String)) (l : List Nat) : Option (List Nat) := (tab.find? fun p => cp p.1 == l).map fun p => cp p.2
theorem tabL_cons (p : String × String) (tab : List (String × String)) (l : List Nat) : tabL (p :: tab) l = if cp p.1 = l then some (cp p.2) else tabL tab l := by
  unfold tabL
  rw [List.find?_cons]
  by_cases e : cp p.1 = l
  · rw [if_pos e, show (cp p.1 == l) = true from beq_iff_eq.mpr e]; rfl
  · rw [if_neg e, show (cp p.1 == l) = false from beq_eq_false_iff_ne.mpr e]
theorem S_inj {a b : List Nat} (h : SX.S a = SX.S b) : a = b := by
  have := congrArg (fun s : Str => s.cps.toList) h
  simpa [SX.S] using this
theorem ns_list : ∀ (es : List DictEntry) (tab : List (String × String)), es.map kvOf = kvT tab → ∀ l : List Nat, match tabL tab l with
    | some v => ∃ e t, es.find? (·.key.isStr (SX.S l)) = some e ∧ e.val = .str (SX.S v) t
    | none => es.find? (·.key.isStr (SX.S l)) = none ∧ es.any (·.refKey) = false
  | [], [], _, l => ⟨rfl, rfl⟩
  | [], p :: tab, h, l => by cases h
  | e :: es, [], h, l => by cases h
  | e :: es, p :: tab, h, l => by
    have h1 : kvOf e :: es.map kvOf = some (Str.ofString p.1, Str.ofString p.2) :: kvT tab := h
    injection h1 with h2 h3
    have ih := ns_list es tab h3 l
    obtain ⟨hh, ky, vl⟩ := e
    unfold kvOf at h2
    dsimp only at h2
    split at h2
    · rename_i k t v u
      obtain ⟨rfl, rfl⟩ := Prod.mk.inj (Option.some.inj h2)
      rw [tabL_cons]
      by_cases q : cp p.1 = l
      · rw [if_pos q]
        refine ⟨_, u, List.find?_cons_of_pos ?_, by rw [S_cp]⟩
        show (Str.ofString p.1 == SX.S l) = true
        rw [← q, S_cp]
        exact beq_self_eq_true _
      · rw [if_neg q]
        have ne : (Value.isStr (.str (Str.ofString p.1) t) (SX.S l)) = false := by
          show (Str.ofString p.1 == SX.S l) = false
          rw [← S_cp]
          exact beq_eq_false_iff_ne.mpr fun z => q (S_inj z)
        cases r : tabL tab l with
        | some v =>
          rw [r] at ih
          obtain ⟨e, t', h5, h6⟩ := ih
          exact ⟨e, t', by rw [List.find?_cons_of_neg (by rw [ne]; decide)]; exact h5, h6⟩
        | none =>
          rw [r] at ih
          exact ⟨by rw [List.find?_cons_of_neg (by rw [ne]; decide)]; exact ih.1, by rw [List.any_cons, ih.2]; rfl⟩
    · cases h2
theorem ns_kd {a : Addr} {es : Array DictEntry} {n : Nat} {tab : List (String × String)} (h : KDict K w a es n) (ht : es.toList.map kvOf = kvT tab) (l : List Nat) : match tabL tab l with
    | some v => ∃ t, PySem.W.nsIn K a (SX.S l) = some (some (.str (SX.S v) t))
    | none => PySem.W.nsIn K a (SX.S l) = some none := by
  have q := ns_list es.toList tab ht l
  unfold PySem.W.nsIn
  rw [h.at_]
  dsimp only
  cases r : tabL tab l with
  | some v =>
    rw [r] at q
    obtain ⟨e, t, h1, h2⟩ := q
    refine ⟨t, ?_⟩
    rw [h1]
    dsimp only
    rw [h2]
  | none =>
    rw [r] at q
    rw [q.1]
    dsimp only
    rw [q.2]; rfl
def fKd (tab : List (String × String)) : D → Option D
  | .str l => (tabL tab l).map .str
  | _ => none
def fKdIn (tab : List (String × String)) : D → Option D
  | .str l => some (.bl (tabL tab l).isSome)
  | _ => none
section
variable {L : Lx} {F : Fx} {H H' : Hp} {σ σ' : St} {ρ ρ' : En}
theorem r_kdix {a : Addr} {tab : List (String × String)} {ta : DT} (h : KdT L.K w a tab) : ∀ σ H Q, lift L (dUn (fKd tab) ta) σ H Q → tOp (rIxD L.K w) (tC (.ref a)) (lift L ta) σ H Q := by
  rintro σ H Q ⟨F, ρ, R, X, er, ht, hR, hX⟩
  refine ⟨F, ρ, _, X, er, ht, fun d ρ1 x H1 h1 st1 er1 da => ?_, hX⟩
  obtain ⟨d', e, hr⟩ := h1
  cases d with
  | str l =>
    cases Da.of_str da
    obtain ⟨es, n, kd, kt⟩ := h
    have q := ns_kd kd kt l
    unfold fKd at e
    dsimp only at e
    cases r : tabL tab l with
    | none => rw [r] at e; cases e
    | some v =>
      rw [r] at e q
      cases e
      obtain ⟨t, q⟩ := q
      exact ⟨a, _, .str (SX.S v), rfl, rfl, ⟨es, n, _, kd.at_, kd.lit, q, ⟨t, rfl⟩⟩, hR _ ρ1 _ H1 hr st1 er1 Da.str⟩
  | _ => cases e
theorem r_kdin {a : Addr} {tab : List (String × String)} {ta : DT} {es : Array DictEntry} {n : Nat} (kd : KDict L.K w a es n) (kt : es.toList.map kvOf = kvT tab) : ∀ σ H Q, lift L (dUn (fKdIn tab) ta) σ H Q → tOp (fun x y H Q => ∃ (z : Str) (r : Option Value), x = .str z ∧ y = .ref a ∧ PySem.W.nsIn L.K a z = some r ∧ Q (.bl r.isSome) H) (lift L ta) (tC (.ref a)) σ H Q := by
  rintro σ H Q ⟨F, ρ, R, X, er, ht, hR, hX⟩
  refine ⟨F, ρ, _, X, er, ht, fun d ρ1 x H1 h1 st1 er1 da => ?_, hX⟩
  obtain ⟨d', e, hr⟩ := h1
  cases d with
  | str l =>
    cases Da.of_str da
    have q := ns_kd kd kt l
    unfold fKdIn at e
    dsimp only at e
    cases e
    cases r : tabL tab l with
    | none =>
      rw [r] at q hr
      exact ⟨_, _, rfl, rfl, q, hR _ ρ1 _ H1 hr st1 er1 Da.bl⟩
    | some v =>
      rw [r] at q hr
      obtain ⟨t, q⟩ := q
      exact ⟨_, _, rfl, rfl, q, hR _ ρ1 _ H1 hr st1 er1 Da.bl⟩
  | _ => cases e
theorem r_testKdin {a : Addr} {tab : List (String × String)} {ta : DT} {es : Array DictEntry} {n : Nat} (kd : KDict L.K w a es n) (kt : es.toList.map kvOf = kvT tab) : ∀ σ H Q, liftT L (dB (dUn (fKdIn tab) ta)) σ H Q → tTest (tOp (fun x y H Q => ∃ (z : Str) (r : Option Value), x = .str z ∧ y = .ref a ∧ PySem.W.nsIn L.K a z = some r ∧ Q (.bl r.isSome) H) (lift L ta) (tC (.ref a))) σ H Q := fun σ H Q q => r_kdin kd kt σ H _ (r_test σ H Q q)
/-! partition, split -/
def Stl (s : Str) : List Nat := s.cps.toList
theorem S_Stl (s : Str) : SX.S (Stl s) = s := SX.S_tl _
def partL (a b : List Nat) : List D := [.str (Stl (Txt.partition (SX.S a) (SX.S b)).1), .str (Stl (Txt.partition (SX.S a) (SX.S b)).2.1), .str (Stl (Txt.partition (SX.S a) (SX.S b)).2.2)]
def splL (a b : List Nat) : List (List Nat) := (Txt.split (SX.S a) (SX.S b)).map Stl
def fPart : D → D → Option D
  | .str a, .str b => if b ≠ [] ∧ a.length ≤ 1000000 then some (.tup (partL a b)) else none
  | _, _ => none
def fSplit : D → D → Option D
  | .str a, .str b => if b ≠ [] ∧ a.length ≤ 1000000 then some (.lst ((splL a b).map .str)) else none
  | _, _ => none
def dM1 (f : D → D → Option D) (ta tb : DT) : DT := fun ρ R X => ta ρ (fun a ρ1 => isStr a = true ∧ tb ρ1 (fun b ρ2 => ok (f a b) fun d => R d ρ2) X) X
theorem r_m1 {r : V → List V → Hp → VK → Prop} {f : D → D → Option D} {ta tb : DT} (h : RefR2 L (fun x y => r x [y]) f) : ∀ σ H Q, lift L (dM1 f ta tb) σ H Q → tM1 r (lift L ta) (lift L tb) σ H Q := by
  rintro σ H Q ⟨F, ρ, R, X, er, ht, hR, hX⟩
  refine ⟨F, ρ, _, X, er, ht, fun a ρ1 x H1 h1 st1 er1 da => ?_, hX⟩
  obtain ⟨hs, h1⟩ := h1
  cases a with
  | str l =>
    have dx := da
    cases Da.of_str da
    refine ⟨⟨_, rfl⟩, F, ρ1, _, X, er1, h1, fun b ρ2 y H2 h2 st2 er2 db => ?_, fun x ρ' H' cls dc hx st er' xr => hX x ρ' H' cls dc hx (st1.trans st) er' xr⟩
    obtain ⟨d, e, hr⟩ := h2
    exact h _ H2 _ y _ b d Q (fun p hp => er2.newMM hp) (er1.da st2 dx) db e fun v H3 sm dd => hR d ρ2 v H3 hr (st1.trans (st2.trans (Step.same sm))) (er2.same sm) dd
  | _ => cases hs
theorem S_ne {b : List Nat} (h : b ≠ []) : ((SX.S b).length == 0) = false := by
  rw [S_len]
  cases b with
  | nil => exact absurd rfl h
  | cons c b => rfl
theorem ref_part : RefR2 L (fun x y H Q => ∃ a b, x = .str a ∧ [y] = [.str b] ∧ (b.length == 0) = false ∧ a.length ≤ sizeLine ∧ ∀ p, H p = none → Q (.ref p) (upd H p (.tup [.str (Txt.partition a b).1, .str (Txt.partition a b).2.1, .str (Txt.partition a b).2.2]))) fPart := by
  intro M H x y a b d Q fr ha hb e k
  unfold fPart at e
  split at e
  · split at e
    · rename_i l m hl
      cases ha.of_str; cases hb.of_str; cases e
      refine ⟨_, _, rfl, rfl, S_ne hl.1, by rw [S_len]; exact le_line hl.2, fun p hp => k _ _ (Same.laid _ hp) (Da.tup (.inl ⟨fr p hp, upd_same⟩) ?_)⟩
      unfold partL
      refine DaL.cons ?_ (DaL.cons ?_ (DaL.cons ?_ DaL.nil)) <;> (unfold Da; rw [S_Stl])
    · cases e
  · cases e
theorem strs_da {M : Addr → Prop} {H : Hp} {C : Cl} : ∀ (ys : List Str), DaL K C M H ((ys.map Stl).map .str) (ys.map V.str)
  | [] => DaL.nil
  | y :: ys => DaL.cons (by unfold Da; rw [S_Stl]) (strs_da ys)
theorem ref_split : RefR2 L (fun x y H Q => ∃ a b, x = .str a ∧ [y] = [.str b] ∧ (b.length == 0) = false ∧ a.length + 2 ≤ sizeLine ∧ rNewStrs (Txt.split a b) H Q) fSplit := by
  intro M H x y a b d Q fr ha hb e k
  unfold fSplit at e
  split at e
  · split at e
    · rename_i l m hl
      cases ha.of_str; cases hb.of_str; cases e
      refine ⟨_, _, rfl, rfl, S_ne hl.1, by rw [S_len]; exact Nat.le_trans (Nat.add_le_add_right hl.2 2) (by rw [sizeLine_eq]; decide), fun p hp => k _ _ (Same.laid _ hp) (Da.lst (fr p hp) upd_same ?_)⟩
      exact (strs_da _)
    · cases e
  · cases e
end

end
end Ag
namespace Ag
open PySem L2
open C8 (pss_cut tCut)
section
variable {P : Program} {w : World} {K : PySem.W.Frag} {mg : Str → Option Value} {base : Heap} {cs : List (Str × Addr)}
/-! own len, repr, in, ==, != -/
section
variable {X : Cx} {CX : CXT} {k : Nat} {C f : Addr} {fd : FuncData} {ps : List Str} {sp : Sp} {E : XK}
theorem run_fnA {A : Around} {pins : List (Addr × Obj)} {σ : L2.St} {H : Hp} {s : Shared} {Q : VK} {us : List Value} {vs : List V} (F : FnOk X.prog X.w X.K X.mg X.base CX k f fd ps sp) (hr : Room k A) (e0 : Env0 X.prog X.w X.K X.mg X.base A X.stack s H) (hb : Binds X.K fd ps []) (hx : Passes CX X E)
    (I : Inv X pins σ H s) (r : Vals vs us) (h : sp vs H Q E) : wpAny (model X.prog X.w) A (call (.ref f) us) (EP X pins σ Q) X.xe s := by
  have hl : (us ++ []).length = ps.length := by rw [List.append_nil, ← r.length]; exact F.len _ _ _ _ h
  have hb' := hb s us I.kIn hl
  rw [List.append_nil] at hb'
  refine wpAny_call (codeAny_mono (F.run A X.stack s H ⟨us, []⟩ us vs Q E hr e0 hb' r h) fun r s' hq => ?_)
  cases r with
  | error e => exact hx pins σ H s e s' I hq
  | ok fl =>
    cases fl with
    | ret u => exact I.after hq
    | next => exact False.elim hq
    | brk => exact False.elim hq
    | cont => exact False.elim hq
def rLenO (C : Addr) (sp : Sp) (E : XK) : List V → Hp → VK → Prop := fun xs H Q => ∃ a dx fs, xs = [.ref a] ∧ H a = some (.ins C dx fs) ∧ sp [.ref a] H (fun v H' => ∃ n : Int, v = .int n ∧ (0 ≤ n ∧ n < 2 ^ 63) ∧ Q (.int n) H') E
theorem cr_lenO (Fn : FnOk X.prog X.w X.K X.mg X.base CX k f fd ps sp) (hs : PySem.W.findIn X.K (.ref C) "__len__" = some (some (.ref f))) (hf : PySem.W.isFn X.K (.ref f) = true) (hb : Binds X.K fd ps []) (hr : Room (k + 1) X.A) (hx : Passes CX X E) : CallR X (.builtin "len") (rLenO C sp E) := by
  intro pins s σ H xs us Q I rs h
  obtain ⟨a, dx, fs, rfl, ha, hsp⟩ := h
  cases rs with
  | cons r1 rs =>
    cases rs
    cases r1
    obtain ⟨mA, J, _⟩ := ins_get I.hok ha
    obtain ⟨od, J, _⟩ := J.look
    obtain ⟨m, hF⟩ := I.fr
    refine PySem.W.len_K hF I.ok.mod.kin J hs hf ?_
    refine thn (run_fnA (us := [.ref a]) (vs := [.ref a]) Fn hr.in1 I.env0.in1 hb hx I (.cons rfl .nil) hsp) fun w s' q => ?_
    obtain ⟨z, H', I', rz, n, rfl, hn, q⟩ := q
    obtain ⟨t, rfl⟩ := rz
    exact ⟨hn, .int n, H', I'.tok _, ⟨_, rfl⟩, q⟩
def rReprO (C : Addr) (sp : Sp) (E : XK) : List V → Hp → VK → Prop := fun xs H Q => ∃ a dx fs, xs = [.ref a] ∧ H a = some (.ins C dx fs) ∧ sp [.ref a] H (fun v H' => ∃ n : Str, v = .str n ∧ Q (.str n) H') E
theorem cr_reprO (Fn : FnOk X.prog X.w X.K X.mg X.base CX k f fd ps sp) (hs : PySem.W.findIn X.K (.ref C) "__repr__" = some (some (.ref f))) (hf : PySem.W.isFn X.K (.ref f) = true) (hb : Binds X.K fd ps []) (hr : Room (k + 1) X.A) (hx : Passes CX X E) : CallR X (.builtin "repr") (rReprO C sp E) := by
  intro pins s σ H xs us Q I rs h
  obtain ⟨a, dx, fs, rfl, ha, hsp⟩ := h
  cases rs with
  | cons r1 rs =>
    cases rs
    cases r1
    obtain ⟨mA, J, _⟩ := ins_get I.hok ha
    obtain ⟨od, J, _⟩ := J.look
    obtain ⟨m, hF⟩ := I.fr
    refine PySem.W.repr_K hr.in1.units0 hF I.ok.mod.kin J hs hf ?_
    refine thn (run_fnA (us := [.ref a]) (vs := [.ref a]) Fn hr.in1 I.env0.in1 hb hx I (.cons rfl .nil) hsp) fun w s' q => ?_
    obtain ⟨z, H', I', rz, n, rfl, q⟩ := q
    obtain ⟨t, rfl⟩ := rz
    exact ⟨.str n, H', I', ⟨_, rfl⟩, q⟩
/-- x in o -/
def rInO (C : Addr) (sp : Sp) (E : XK) : R2 := fun x y H Q => ∃ a dx fs, y = .ref a ∧ H a = some (.ins C dx fs) ∧ sp [.ref a, x] H (fun v H' => ∃ b : Bool, v = .bl b ∧ Q (.bl b) H') E
theorem op_inO (Fn : FnOk X.prog X.w X.K X.mg X.base CX k f fd ps sp) (hs : PySem.W.findIn X.K (.ref C) "__contains__" = some (some (.ref f))) (hf : PySem.W.isFn X.K (.ref f) = true) (hb : Binds X.K fd ps []) (hr : Room k X.A) (hx : Passes CX X E) : OpR X (compareOp .In) (rInO C sp E) := by
  intro pins s σ H x y v u Q I rx ry h
  obtain ⟨a, dx, fs, rfl, ha, hsp⟩ := h
  cases ry
  obtain ⟨mA, J, _⟩ := ins_get I.hok ha
  obtain ⟨od, J, _⟩ := J.look
  obtain ⟨m, hF⟩ := I.fr
  refine PySem.W.in_K hF I.ok.mod.kin J hs hf ?_
  refine thn (run_fn (us := [.ref a, v]) (vs := [.ref a, x]) (dvs := []) Fn hr hb .nil hx I (.cons rfl (.cons rx .nil)) hsp) fun w s' q => ?_
  obtain ⟨z, H', I', rz, b, rfl, q⟩ := q
  cases rz
  exact wpAny_truthy_bool ⟨.bl b, H', I', rfl, q⟩
/-- what stands behind == -/
def Beh (C : Addr) (H : Hp) (b : Addr) : Prop := (∃ dy gs, H b = some (.ins C dy gs)) ∨ ∃ ys, H b = some (.lst ys)
theorem beh_ty {pins : List (Addr × Obj)} {σ : L2.St} {H : Hp} {s : Shared} {b : Addr} (I : Inv X pins σ H s) (hy : Beh C H b) (hl : PySem.W.subIn X.K (.type "list") (.ref C) = some false) : ∃ tb, PySem.W.Looks (model X.prog X.w) s.heap (typeOf (.ref b)) tb ∧ PySem.W.notFirst X.K C tb = true := by
  rcases hy with ⟨dy, gs, hy⟩ | ⟨ys, hy⟩
  · obtain ⟨mB, J', _⟩ := ins_get I.hok hy
    obtain ⟨od', J', _⟩ := J'.look
    exact ⟨_, J'.type, by simp [PySem.W.notFirst]⟩
  · obtain ⟨its, rv, ⟨o, m, e, c, d, q⟩, hz⟩ := I.list (SqL.of (K := X.K) hy)
    exact ⟨.type "list", fun A Q E s k q => wpAny_typeOf_ref (k _ _ e) (by rw [c]; exact q), by unfold PySem.W.notFirst; rw [hl]; rfl⟩
def rEqO (C : Addr) (sp : Sp) (E : XK) : R2 := fun x y H Q => ∃ a dx fs b, x = .ref a ∧ y = .ref b ∧ H a = some (.ins C dx fs) ∧ Beh C H b ∧ sp [x, y] H (fun v H' => ∃ b : Bool, v = .bl b ∧ Q (.bl b) H') E
theorem op_eqO (Fn : FnOk X.prog X.w X.K X.mg X.base CX k f fd ps sp) (hs : PySem.W.findIn X.K (.ref C) "__eq__" = some (some (.ref f))) (hf : PySem.W.isFn X.K (.ref f) = true) (hl : PySem.W.subIn X.K (.type "list") (.ref C) = some false) (hb : Binds X.K fd ps []) (hr : Room k X.A) (hx : Passes CX X E) : OpR X (compareOp .Eq) (rEqO C sp E) := by
  intro pins s σ H x y v u Q I rx ry h
  obtain ⟨a, dx, fs, b, rfl, rfl, ha, hy, hsp⟩ := h
  cases rx
  cases ry
  obtain ⟨mA, J, _⟩ := ins_get I.hok ha
  obtain ⟨od, J, _⟩ := J.look
  obtain ⟨m, hF⟩ := I.fr
  obtain ⟨tb, t1, t2⟩ := beh_ty I hy hl
  show wpAny _ _ (richCompare .Eq (.ref a) (.ref b)) _ _ _
  refine PySem.W.cmp_K (op := .Eq) (tb := tb) hr.units0 hF I.ok.mod.kin J t1 t2 hs hf ?_
  refine thn (run_fn (us := [.ref a, .ref b]) (vs := [.ref a, .ref b]) (dvs := []) Fn hr hb .nil hx I (.cons rfl (.cons rfl .nil)) hsp) fun w s' q => ?_
  obtain ⟨z, H', I', rz, c, rfl, q⟩ := q
  cases rz
  exact ⟨.bl c, H', I', rfl, q⟩
end
section
variable {prog : Program} {A : Around} {Er : Value → Shared → Prop} {s : Shared} {x C L f : Addr} {h₀ : Heap} {m : Str → Option Value} {ox : Obj} {od : Option Obj} {b tb : Value}
theorem ne_own {Q : Value → Shared → Prop} (hu : A.units + 8 < cLine) (X : K.In s.heap) (I : PySem.W.InstAt s.heap x ox C od) (hb : PySem.W.Looks (model prog w) s.heap (typeOf b) tb) (hn : PySem.W.notFirst K C tb = true)
    (hne : PySem.W.findIn K (.ref C) "__ne__" = some (some (.builtin "object.__ne__"))) (hm : PySem.W.mroIn K C (.type "object") = some true) (hs : PySem.W.findIn K (.ref C) "__eq__" = some (some (.ref f))) (hf : PySem.W.isFn K (.ref f) = true)
    (h : wpAny (model prog w) A.in1 (call (.ref f) [.ref x, b]) (fun v s' => ∃ c, v = .bool c ∧ Q (.bool (!c)) s') Er s) : wpAny (model prog w) A (richCompare .NotEq (.ref x) b) Q Er s := by
  have inner : wpAny (model prog w) A (call (.builtin "object.__ne__") [.ref x, b]) (fun v s' => ∃ c, v = .bool c ∧ Q (.bool c) s') Er s := by
    refine wpAny_call (codeAny_call_builtin PySem.F.cmp_object.ne.plain PySem.F.cmpEntry_ne (PySem.W.check_slot PySem.F.cmpKind_ne PySem.F.cmpSplit_ne (I.type.andThen (PySem.W.looks_mroIn X hm)) (PySem.F.cmpArgs_ne _ _) ?_))
    unfold Builtin.«object.__ne__»
    refine wpAny_bind (wpAny_of_eq (a := (.ref x, [b])) (by first | rfl | kernel_rfl) ?_)
    dsimp only
    refine wpAny_bind (wpAny_cRoomFor (by show A.units + 1 < cLine; omega) ?_)
    refine wpAny_bind (PySem.W.ifBound_K X I hs hf (wpAny_mono h (fun v s' hv => ?_) fun _ _ e => e))
    obtain ⟨c, rfl, q⟩ := hv
    dsimp only
    exact wpAny_bind (wpAny_truthy_bool (wpAny_pure ⟨!c, rfl, q⟩))
  have one : wpAny (model prog w) A (tryCompare (.ref x) (cmpInfo .NotEq).2.1 b) (fun r s' => ∃ v, r = some v ∧ Q v s') Er s := by
    unfold tryCompare
    refine wpAny_bind ?_
    show wpAny _ _ (callSpecialIfBound? (.ref x) "__ne__" [b]) _ _ _
    simp only [callSpecialIfBound?, bindSpecialIfBound?]
    refine wpAny_holding (wpAny_bind (wpAny_bind (wpAny_bind (I.type.here ((PySem.W.looks_findIn X hne).here ?_)))))
    refine wpAny_bind (wpAny_askSetting (wpAny_ite ?_))
    have fin : ∀ {R : Option Value → Shared → Prop}, (∀ c s', Q (.bool c) s' → R (some (.bool c)) s') → wpAny (model prog w) A (call (.builtin "object.__ne__") ([.ref x] ++ [b]) >>= fun v => pure (some v)) R Er s := fun hR => wpAny_bind (wpAny_mono inner (fun v s' ⟨c, e, q⟩ => wpAny_pure (e ▸ hR c s' q)) fun _ _ h' => h')
    split
    · exact wpAny_bind (wpAny_of_eq (PySem.F.cmp_object.ne.bind _) (wpAny_pure (by exact fin fun c s' q => wpAny_pure ⟨_, rfl, q⟩)))
    · exact wpAny_tryCatch (wpAny_bind (wpAny_of_eq (PySem.F.cmp_object.ne.bind _) (wpAny_pure (by exact fin fun c s' q => wpAny_pure ⟨_, rfl, q⟩))))
  unfold richCompare
  simp only [oneThing_ref]
  refine wpAny_holding (wpAny_bind (wpAny_cRoomFor (by omega) ?_))
  refine wpAny_bind (I.type.here (wpAny_bind (hb.here ?_)))
  split
  · rename_i q
    have e : PySem.W.subIn K tb (.ref C) = some false := by
      unfold PySem.W.notFirst at hn
      rcases Bool.or_eq_true_iff.mp hn with z | z
      · rw [eq_of_beq z] at q; simp at q
      · exact eq_of_beq z
    refine wpAny_bind ((PySem.W.looks_subIn X e).here ?_)
    simp only [Bool.false_eq_true, if_false, Bool.not_false, if_true]
    refine wpAny_bind (m := tryCompare (.ref x) _ b) (wpAny_mono one (fun r s1 z => ?_) fun _ _ e => e)
    obtain ⟨v, rfl, z⟩ := z
    exact wpAny_pure z
  · refine wpAny_bind (m := tryCompare (.ref x) _ b) (wpAny_mono one (fun r s1 z => ?_) fun _ _ e => e)
    obtain ⟨v, rfl, z⟩ := z
    exact wpAny_pure z
end
section
variable {X : Cx} {CX : CXT} {k : Nat} {C f : Addr} {fd : FuncData} {ps : List Str} {sp : Sp} {E : XK}
def rNeO (C : Addr) (sp : Sp) (E : XK) : R2 := fun x y H Q => ∃ a dx fs b, x = .ref a ∧ y = .ref b ∧ H a = some (.ins C dx fs) ∧ Beh C H b ∧ sp [x, y] H (fun v H' => ∃ b : Bool, v = .bl b ∧ Q (.bl (!b)) H') E
theorem op_neO (Fn : FnOk X.prog X.w X.K X.mg X.base CX k f fd ps sp) (hs : PySem.W.findIn X.K (.ref C) "__eq__" = some (some (.ref f))) (hf : PySem.W.isFn X.K (.ref f) = true) (hl : PySem.W.subIn X.K (.type "list") (.ref C) = some false)
    (hne : PySem.W.findIn X.K (.ref C) "__ne__" = some (some (.builtin "object.__ne__"))) (hm : PySem.W.mroIn X.K C (.type "object") = some true) (hb : Binds X.K fd ps []) (hr : Room (k + 1) X.A) (hx : Passes CX X E) : OpR X (compareOp .NotEq) (rNeO C sp E) := by
  intro pins s σ H x y v u Q I rx ry h
  obtain ⟨a, dx, fs, b, rfl, rfl, ha, hy, hsp⟩ := h
  cases rx
  cases ry
  obtain ⟨mA, J, _⟩ := ins_get I.hok ha
  obtain ⟨od, J, _⟩ := J.look
  obtain ⟨m, hF⟩ := I.fr
  obtain ⟨tb, t1, t2⟩ := beh_ty I hy hl
  show wpAny _ _ (richCompare .NotEq (.ref a) (.ref b)) _ _ _
  refine ne_own (tb := tb) (by have := hr.un; omega) I.kIn J t1 t2 hne hm hs hf ?_
  refine thn (run_fnA (us := [.ref a, .ref b]) (vs := [.ref a, .ref b]) Fn hr.in1 I.env0.in1 hb hx I (.cons rfl (.cons rfl .nil)) hsp) fun w s' q => ?_
  obtain ⟨z, H', I', rz, c, rfl, q⟩ := q
  cases rz
  exact ⟨c, rfl, .bl (!c), H', I', rfl, q⟩
end

end
end Ag
namespace Ag
open PySem L2
open C8 (pss_cut tCut)
section
variable {P : Program} {w : World} {K : PySem.W.Frag} {mg : Str → Option Value} {base : Heap} {cs : List (Str × Addr)}
/-! what has no list within -/
mutual
def noL : D → Bool
  | .lst _ => false
  | .dct _ _ => false
  | .tup ds => noLs ds
  | .ins _ fs => noLs fs
  | .non => true
  | .bl _ => true
  | .int _ => true
  | .str _ => true
  | .lam _ => false
  | .fn _ _ => false
  | .exc _ _ => false
def noLs : List D → Bool
  | [] => true
  | d :: ds => noL d && noLs ds
end
section
variable {C : Cl} {M M' : Addr → Prop} {H : Hp}
mutual
theorem noL_mono (m : ∀ a, M' a → ¬ M a → ∃ xs, H a = some (.lst xs)) : ∀ (d : D) (v : V), noL d = true → Da K C M H d v → Da K C M' H d v
  | .non, _, _, h => by unfold Da at *; exact h
  | .bl _, _, _, h => by unfold Da at *; exact h
  | .int _, _, _, h => by unfold Da at *; exact h
  | .str _, _, _, h => by unfold Da at *; exact h
  | .lst _, _, n, _ => by unfold noL at n; cases n
  | .dct _ _, _, n, _ => by unfold noL at n; cases n
  | .lam _, _, n, _ => by unfold noL at n; cases n
  | .fn _ _, _, n, _ => by unfold noL at n; cases n
  | .exc _ _, _, n, _ => by unfold noL at n; cases n
  | .tup ds, _, n, h => by
    unfold noL at n
    unfold Da at *
    obtain ⟨a, xs, e, h1, h2⟩ := h
    refine ⟨a, xs, e, ?_, noL_monos m ds xs n h2⟩
    rcases h1 with h1 | h1
    · refine .inl ⟨fun z => ?_, h1.2⟩
      obtain ⟨ys, q⟩ := m a z h1.1
      rw [h1.2] at q; cases q
    · exact .inr h1
  | .ins c fs, _, n, h => by
    unfold noL at n
    unfold Da at *
    obtain ⟨a, dx, xs, e, nm, h1, hl, h2⟩ := h
    refine ⟨a, dx, xs, e, fun z => ?_, h1, hl, noL_monos m fs xs n h2⟩
    obtain ⟨ys, q⟩ := m a z nm
    rw [h1] at q; cases q
theorem noL_monos (m : ∀ a, M' a → ¬ M a → ∃ xs, H a = some (.lst xs)) : ∀ (ds : List D) (vs : List V), noLs ds = true → DaL K C M H ds vs → DaL K C M' H ds vs
  | [], _, _, h => by unfold DaL at *; exact h
  | d :: ds, _, n, h => by
    unfold noLs at n
    simp only [Bool.and_eq_true] at n
    unfold DaL at *
    obtain ⟨v, r, e, h1, h2⟩ := h
    exact ⟨v, r, e, noL_mono m d v n.1 h1, noL_monos m ds r n.2 h2⟩
end
end
section
variable {L : Lx} {F : Fx} {H H1 H' : Hp} {σ σ' : St} {ρ ρ' ρ1 : En}
/-- a list that a call gives, if it was given none, is new -/
theorem fresh_in {t : DF} {d : D} {v : V} {Q : VK} {E : XK} (er1 : ER L.K L.C F H1 σ ρ1) (hd : Da L.K L.C (MM F σ ρ1) H1 d v) (hn : noL d = true) {R : D → Prop} {X : Xc → Prop} (ht : t [.dat d] R X) (hl : ∀ z, R z → ∃ ds, z = .lst ds)
    (hQ : ∀ l xs ds H', R (.lst ds) → H1 l = none → FStep F H1 H' → F.B.Ok (MM F σ ρ1) H' → H' l = some (.lst xs) → xs.length = ds.length → Q (.ref l) H')
    (hE : ∀ x cls dc H', X x → FStep F H1 H' → F.B.Ok (MM F σ ρ1) H' → XRel L.K L.C (MM F σ ρ1) H' x cls dc → E cls dc H') : spE L.K L.C t [v] H1 Q E := by
  have ag : ArgL L.K L.C F (MM F σ ρ1) H1 [.dat d] [v] := by
    unfold ArgL
    exact ⟨v, [], rfl, rfl, (fun z => nomatch z), ⟨v, rfl, hd⟩, by unfold ArgL; rfl⟩
  have th := (er1.callee ag).there
  have no : ∀ s ∈ [SV.dat d], isOwn s = false := fun s hs => by
    obtain rfl : s = _ := List.mem_singleton.mp hs
    rfl
  have mm : ∀ a, MM ⟨fun a => MM F σ ρ1 a ∨ ∃ xs, H1 a = some (.lst xs), F.B, F.A⟩ ([v].map some) [.dat d] a → ¬ MM F σ ρ1 a → ∃ xs, H1 a = some (.lst xs) := fun a z n => by
    rcases z with (z | z) | z
    · exact absurd z n
    · exact z
    · exact absurd z (noOwn no a)
  refine ⟨⟨fun a => MM F σ ρ1 a ∨ ∃ xs, H1 a = some (.lst xs), F.B, F.A⟩, [.dat d], R, X, ⟨rfl, fun i s w h1 h2 => ?_, fun i j s u a h1 h2 h3 => ?_, er1.bag.to (er1.bag.ok.more fun a φ z e => ?_) (fun a z => .inl (.inl z)), fun a h => ?_, er1.tb⟩, no, ht, fun z w H' hz fs hb da => ?_, fun x cls dc H' hx fs hb xr => ?_⟩
  · cases i with
    | zero =>
      simp at h1 h2
      subst h1 h2
      exact ⟨v, rfl, noL_mono mm d v hn hd⟩
    | succ i => simp at h1
  · rw [no s (List.mem_of_getElem? h1)] at h3; cases h3
  · rcases z with (z | z) | ⟨xs, z⟩
    · exact z
    · exact (er1.ownX z e).elim
    · rw [e] at z; cases z
  · rcases h with h | ⟨xs, h⟩
    · exact th a h
    · exact ⟨_, h⟩
  · obtain ⟨ds, rfl⟩ := hl z hz
    unfold Da at da
    obtain ⟨l, xs, rfl, nM, h1, h2⟩ := da
    refine hQ l xs ds H' hz ?_ fs (hb.weak fun a z => .inl z) h1 h2.length
    cases e : H1 l with
    | none => rfl
    | some o =>
      refine absurd ?_ nM
      have q := fs l o e (er1.bag.off fun z => nM (.inl (.inl z)))
      rw [h1] at q
      cases q
      exact .inr ⟨_, e⟩
  · refine hE x cls dc H' hx fs (hb.weak fun a z => .inl z) ?_
    obtain ⟨e1, d', vs', e2, e3, e4, e5⟩ := xr
    exact ⟨e1, d', vs', e2, e3, e4, e5.weak fun a z => .inl z⟩
/-- behind a new list's change all stands -/
theorem fresh_after {l : Addr} {o : HO} (er1 : ER L.K L.C F H1 σ ρ1) (hl : H1 l = none) (fs : FStep F H1 H') (hb : F.B.Ok (MM F σ ρ1) H') {xs : List V} (hH : H' l = some (.lst xs)) : Step F σ ρ1 H1 σ ρ1 (upd H' l o) ∧ ER L.K L.C F (upd H' l o) σ ρ1 := by
  refine er1.fstep (H' := upd H' l o) (fun a u e nb => by rw [upd_ne (ne_of_none e hl)]; exact fs a u e nb) ?_
  have nb := er1.bag.ok.apart hl
  exact (hb.weak fun a z => .inl z).store o nb.1 nb.2 fun φ e => (by rw [hH] at e; cases e)
/-- o.m().clear(), o.m().append(e): the list is new -/
def dNewDrop (c : Nat) (t : DF) (ta : DT) : DS := fun G ρ => ta ρ (fun d ρ1 => isIns c d = true ∧ noL d = true ∧ t [.dat d] (fun z => (∃ ds, z = .lst ds ∧ ds.length < 1000000) ∧ G.nx ρ1) (fun x => G.ex x ρ1)) G.ex
theorem s_newDrop {c : Nat} {m : Str} {t : DF} {ta : DT} {E : Ends} {r : V → Hp → VK → Prop} (hm : m ∉ L.C.fld c) (hr : ∀ l xs H' (Q : VK), xs.length < 1000000 → H' l = some (.lst xs) → (∀ ys, Q .non (upd H' l (.lst ys))) → r (.ref l) H' Q) :
    ∀ E σ H, liftS L (dNewDrop c t ta) E σ H → tMeth (L.C.adr c) m (spE L.K L.C t) [] L.E (lift L ta) tNil σ H (fun x H1 => tyV L.K "list" x H1 ∧ r x H1 fun _ H2 => E.nx σ H2) := by
  rintro E σ H ⟨F, ρ, G, er, ht, g⟩
  refine ⟨F, ρ, _, G.ex, er, ht, fun d ρ1 x H1 h1 st1 er1 da => ?_, g.lfx⟩
  obtain ⟨hi, hn, ht⟩ := h1
  obtain ⟨a, dx, xs, rfl, ha⟩ := ins_at da hi
  refine ⟨a, dx, _, rfl, ha, lookup_zip_none hm, ?_⟩
  show spE L.K L.C t ([.ref a] ++ []) H1 _ _
  rw [List.append_nil]
  refine fresh_in er1 da hn ht (fun z q => let ⟨⟨ds, e, _⟩, _⟩ := q; ⟨ds, e⟩) (fun l ys ds H' q hl fs hb hH hlen => ?_) (fun x cls dc H' hx fs hb xr => ?_)
  · obtain ⟨⟨ds', e, hlt⟩, q⟩ := q
    cases e
    refine ⟨.inl ⟨rfl, _, SqL.of hH⟩, hr l ys H' _ (by rw [hlen]; exact hlt) hH fun zs => ?_⟩
    obtain ⟨st2, er2⟩ := fresh_after (o := .lst zs) er1 hl fs hb hH
    exact g.nx σ ρ1 _ q (st1.trans st2) er2
  · obtain ⟨st2, er2⟩ := er1.fstep (H' := H') fs (hb.weak fun a z => .inl z)
    exact g.ex x σ ρ1 H' cls dc hx (st1.trans st2) er2 xr
theorem s_newClear {c : Nat} {m : Str} {t : DF} {ta : DT} (hm : m ∉ L.C.fld c) : ∀ E σ H, liftS L (dNewDrop c t ta) E σ H → tDrop (tBM0 L.K "list" rClear (tMeth (L.C.adr c) m (spE L.K L.C t) [] L.E (lift L ta) tNil)) E σ H := fun E σ H h =>
  s_newDrop (E := E) (r := fun x H1 Q => rClear x [] H1 Q) hm (fun l xs H' Q _ hH k => ⟨l, xs, rfl, rfl, hH, k []⟩) E σ H h
theorem s_newAppend {c : Nat} {m : Str} {t : DF} {ta : DT} {y : V} (hm : m ∉ L.C.fld c) : ∀ E σ H, liftS L (dNewDrop c t ta) E σ H → tDrop (tBM L.K "list" rAppend (tMeth (L.C.adr c) m (spE L.K L.C t) [] L.E (lift L ta) tNil) (tCons (tC y) tNil)) E σ H := fun E σ H h =>
  s_newDrop (E := E) (r := fun x H1 Q => rAppend x [y] H1 Q) hm (fun l xs H' Q hlt hH k => ⟨l, xs, y, rfl, rfl, hH, Nat.lt_of_lt_of_le hlt (by decide), k _⟩) E σ H h
/-! x = list(e), x changed later -/
def dOwnList (i : Nat) (ta : DG En) : DS := fun G ρ => ta ρ (fun as ρ1 => ok ((datL as).bind fList) fun d => ∃ ds, d = .lst ds ∧ G.nx (ρ1.set i (.own ds))) G.ex
theorem s_ownList {i : Nat} {ta : DG En} : ∀ E σ H, liftS L (dOwnList i ta) E σ H → tAsg (tCB (fun xs H Q => ∃ p ys, xs = [.ref p] ∧ (SqL L.K H p ys ∨ SqT L.K H p ys) ∧ ∀ l, H l = none → Q (.ref l) (upd H l (.lst ys))) (liftA L ta)) (gName i) E σ H := by
  rintro E σ H ⟨F, ρ, G, er, ht, g⟩
  refine ⟨F, ρ, _, G.ex, er, ht, fun as ρ1 xs H1 h1 st1 er1 da => ?_, g.lfx⟩
  obtain ⟨d, e, ds, rfl, hr⟩ := h1
  cases q : datL as with
  | none => rw [q] at e; cases e
  | some es =>
    rw [q] at e
    have dl := ArgL.dats da q
    have e : fList es = some (.lst ds) := e
    unfold fList at e
    split at e
    · obtain ⟨v, rfl, h⟩ := dl.one
      obtain ⟨p, ys, rfl, h1, h2⟩ := h.of_lst
      cases e
      refine ⟨p, ys, rfl, .inl (SqL.of h1), fun l hl => ?_⟩
      obtain ⟨st2, er2⟩ := er1.ownNew (i := i) hl h2
      exact g.nx _ _ _ hr (st1.trans st2) er2
    · obtain ⟨v, rfl, h⟩ := dl.one
      obtain ⟨p, ys, rfl, h1, h2⟩ := h.of_tup
      cases e
      refine ⟨p, ys, rfl, .inr h1, fun l hl => ?_⟩
      obtain ⟨st2, er2⟩ := er1.ownNew (i := i) hl h2
      exact g.nx _ _ _ hr (st1.trans st2) er2
    · cases e
/-! C(x), x a list that stays own -/
def dMakeLend (t : DF) (dds : List D) (i : Nat) : DT := fun ρ R X => ∃ ds, ρ[i]? = some (.own ds) ∧ t (.dat (.lst ds) :: dds.map .dat) (fun d => noL d = true ∧ R d ρ) (fun _ => False)
theorem r_makeLend {c : Nat} {t : DF} {dds : List D} {dvs : List V} {i : Nat} (hd : ∀ M H, DaL L.K L.C M H dds dvs) : ∀ σ H Q, lift L (dMakeLend t dds i) σ H Q → tMake (L.C.adr c) (spI L.K L.C c t) dvs L.E (tCons (tVar i) tNil) σ H Q := by
  rintro σ H Q ⟨F, ρ, R, X, er, ⟨ds, hi, ht⟩, hR, hX⟩
  obtain ⟨st, er', v, hv, hda⟩ := er.freeze hi (.inl ⟨ds, rfl, rfl⟩)
  refine ⟨v, hv, fun x dx hx hdx ne => ?_⟩
  have da : ArgL L.K L.C F (MM F σ (ρ.set i (.dat (.lst ds)))) H (.dat (.lst ds) :: dds.map .dat) (v :: dvs) := by
    unfold ArgL
    exact ⟨v, dvs, rfl, rfl, (fun z => nomatch z), ⟨v, rfl, hda⟩, ArgL.ofDats (hd _ _)⟩
  refine make_inF (R := fun d => noL d = true ∧ R d ρ) (X := fun _ => False) ht er' da (fun d H' ⟨hn, hr⟩ fs hb dd => ?_) (fun _ _ _ _ h => h.elim) hx hdx ne
  obtain ⟨st2, er2⟩ := er.fstep (H' := H') fs (hb.weak fun a z => .inl z)
  refine hR d ρ _ H' hr st2 er2 (noL_mono (fun a z n => ?_) d _ hn dd)
  have oi := (er.at hi)
  obtain ⟨v0, hv0, l, xs, e0, nM, hl, _⟩ := oi
  rcases z with z | ⟨j, s, h1, h2, h3⟩
  · exact absurd (.inl z) n
  · by_cases ej : j = i
    · subst ej
      rw [hv0, e0] at h3
      cases h3
      exact ⟨xs, fs _ _ hl (er.bag.off nM)⟩
    · exact absurd (.inr ⟨j, s, by rw [List.getElem?_set_ne (Ne.symm ej)]; exact h1, h2, h3⟩) n
end
/-! own len, repr, in, ==, != over data -/
section
variable {L : Lx} {F : Fx} {H H1 H' : Hp} {σ σ' : St} {ρ ρ' ρ1 : En}
def dLenO (c : Nat) (t : DF) (ta : DT) : DT := fun ρ R X => ta ρ (fun d ρ1 => isIns c d = true ∧ t [.dat d] (fun z => ∃ n : Int, z = .int n ∧ (0 ≤ n ∧ n < 2 ^ 63) ∧ R (.int n) ρ1) (fun x => X x ρ1)) X
theorem arg1 {M : Addr → Prop} {d : D} {v : V} (h : Da L.K L.C M H d v) : ArgL L.K L.C F M H [.dat d] [v] := by
  unfold ArgL
  exact ⟨v, [], rfl, rfl, (fun z => nomatch z), ⟨v, rfl, h⟩, by unfold ArgL; rfl⟩
theorem arg2 {M : Addr → Prop} {d e : D} {v u : V} (h : Da L.K L.C M H d v) (k : Da L.K L.C M H e u) : ArgL L.K L.C F M H [.dat d, .dat e] [v, u] := by
  unfold ArgL
  exact ⟨v, [u], rfl, rfl, (fun z => nomatch z), ⟨v, rfl, h⟩, arg1 k⟩
theorem r_lenO {c : Nat} {t : DF} {ta : DT} : ∀ σ H Q, lift L (dLenO c t ta) σ H Q → tCB (rLenO (L.C.adr c) (spE L.K L.C t) L.E) (tCons (lift L ta) tNil) σ H Q := by
  rintro σ H Q ⟨F, ρ, R, X, er, ht, hR, hX⟩
  refine ⟨F, ρ, _, X, er, ht, fun d ρ1 x H1 h1 st1 er1 da => ?_, hX⟩
  obtain ⟨a, dx, xs, rfl, ha⟩ := ins_at da h1.1
  refine ⟨a, dx, _, rfl, ha, ?_⟩
  refine call_in (R := fun z ρ' => ∃ n : Int, z = .int n ∧ (0 ≤ n ∧ n < 2 ^ 63) ∧ R (.int n) ρ') h1.2 st1 er1 (arg1 da) (fun z ρ' v H' h st er' dz => ?_) hX
  obtain ⟨n, rfl, hn, hr⟩ := h
  exact ⟨n, dz.of_int, hn, hR _ ρ' _ H' hr st er' Da.int⟩
def dReprO (c : Nat) (t : DF) (ta : DT) : DT := fun ρ R X => ta ρ (fun d ρ1 => isIns c d = true ∧ t [.dat d] (fun z => ∃ n : List Nat, z = .str n ∧ R (.str n) ρ1) (fun x => X x ρ1)) X
theorem r_reprO {c : Nat} {t : DF} {ta : DT} : ∀ σ H Q, lift L (dReprO c t ta) σ H Q → tCB (rReprO (L.C.adr c) (spE L.K L.C t) L.E) (tCons (lift L ta) tNil) σ H Q := by
  rintro σ H Q ⟨F, ρ, R, X, er, ht, hR, hX⟩
  refine ⟨F, ρ, _, X, er, ht, fun d ρ1 x H1 h1 st1 er1 da => ?_, hX⟩
  obtain ⟨a, dx, xs, rfl, ha⟩ := ins_at da h1.1
  refine ⟨a, dx, _, rfl, ha, ?_⟩
  refine call_in (R := fun z ρ' => ∃ n : List Nat, z = .str n ∧ R (.str n) ρ') h1.2 st1 er1 (arg1 da) (fun z ρ' v H' h st er' dz => ?_) hX
  obtain ⟨n, rfl, hr⟩ := h
  exact ⟨_, dz.of_str, hR _ ρ' _ H' hr st er' Da.str⟩
def dInO (c : Nat) (t : DF) (ta tb : DT) : DT := fun ρ R X => ta ρ (fun a ρ1 => tb ρ1 (fun b ρ2 => isIns c b = true ∧ t [.dat b, .dat a] (fun z => ∃ q : Bool, z = .bl q ∧ R (.bl q) ρ2) (fun x => X x ρ2)) X) X
theorem r_inO {c : Nat} {t : DF} {ta tb : DT} : ∀ σ H Q, lift L (dInO c t ta tb) σ H Q → tOp (rInO (L.C.adr c) (spE L.K L.C t) L.E) (lift L ta) (lift L tb) σ H Q := by
  rintro σ H Q ⟨F, ρ, R, X, er, ht, hR, hX⟩
  refine ⟨F, ρ, _, X, er, ht, fun a ρ1 x H1 h1 st1 er1 da => ?_, hX⟩
  refine ⟨F, ρ1, _, X, er1, h1, fun b ρ2 y H2 h2 st2 er2 db => ?_, fun x ρ' H' cls dc hx st er' xr => hX x ρ' H' cls dc hx (st1.trans st) er' xr⟩
  obtain ⟨p, dx, xs, rfl, ha⟩ := ins_at db h2.1
  refine ⟨p, dx, _, rfl, ha, ?_⟩
  refine call_in (R := fun z ρ' => ∃ q : Bool, z = .bl q ∧ R (.bl q) ρ') h2.2 (st1.trans st2) er2 (arg2 db (er1.da st2 da)) (fun z ρ' v H' h st er' dz => ?_) hX
  obtain ⟨n, rfl, hr⟩ := h
  exact ⟨n, dz.of_bl, hR _ ρ' _ H' hr st er' Da.bl⟩
def isInsL (c : Nat) : D → Bool
  | .ins c' _ => c' == c
  | .lst _ => true
  | _ => false
theorem beh_of {c : Nat} {b : D} {y : V} {M : Addr → Prop} (h : isInsL c b = true) (d : Da L.K L.C M H b y) : ∃ q, y = .ref q ∧ Beh (L.C.adr c) H q := by
  cases b with
  | ins c' fs =>
    obtain ⟨p, dx, xs, rfl, ha⟩ := ins_at (c := c) d h
    exact ⟨p, rfl, .inl ⟨dx, _, ha⟩⟩
  | lst ds =>
    obtain ⟨p, xs, rfl, h1, _⟩ := d.of_lst
    exact ⟨p, rfl, .inr ⟨xs, h1⟩⟩
  | _ => cases h
def dEqO (neg : Bool) (c : Nat) (t : DF) (ta tb : DT) : DT := fun ρ R X => ta ρ (fun a ρ1 => isIns c a = true ∧ tb ρ1 (fun b ρ2 => isInsL c b = true ∧ t [.dat a, .dat b] (fun z => ∃ q : Bool, z = .bl q ∧ R (.bl (neg != q)) ρ2) (fun x => X x ρ2)) X) X
theorem r_eqO {c : Nat} {t : DF} {ta tb : DT} : ∀ σ H Q, lift L (dEqO false c t ta tb) σ H Q → tOp (rEqO (L.C.adr c) (spE L.K L.C t) L.E) (lift L ta) (lift L tb) σ H Q := by
  rintro σ H Q ⟨F, ρ, R, X, er, ht, hR, hX⟩
  refine ⟨F, ρ, _, X, er, ht, fun a ρ1 x H1 h1 st1 er1 da => ?_, hX⟩
  refine ⟨F, ρ1, _, X, er1, h1.2, fun b ρ2 y H2 h2 st2 er2 db => ?_, fun x ρ' H' cls dc hx st er' xr => hX x ρ' H' cls dc hx (st1.trans st) er' xr⟩
  have da2 := er1.da st2 da
  obtain ⟨p, dx, xs, rfl, ha⟩ := ins_at da2 h1.1
  obtain ⟨q, rfl, hq⟩ := beh_of h2.1 db
  refine ⟨p, dx, _, q, rfl, rfl, ha, hq, ?_⟩
  refine call_in (R := fun z ρ' => ∃ q : Bool, z = .bl q ∧ R (.bl (false != q)) ρ') h2.2 (st1.trans st2) er2 (arg2 da2 db) (fun z ρ' v H' h st er' dz => ?_) hX
  obtain ⟨n, rfl, hr⟩ := h
  exact ⟨n, dz.of_bl, hR _ ρ' _ H' hr st er' (by cases n <;> exact Da.bl)⟩
theorem r_neO {c : Nat} {t : DF} {ta tb : DT} : ∀ σ H Q, lift L (dEqO true c t ta tb) σ H Q → tOp (rNeO (L.C.adr c) (spE L.K L.C t) L.E) (lift L ta) (lift L tb) σ H Q := by
  rintro σ H Q ⟨F, ρ, R, X, er, ht, hR, hX⟩
  refine ⟨F, ρ, _, X, er, ht, fun a ρ1 x H1 h1 st1 er1 da => ?_, hX⟩
  refine ⟨F, ρ1, _, X, er1, h1.2, fun b ρ2 y H2 h2 st2 er2 db => ?_, fun x ρ' H' cls dc hx st er' xr => hX x ρ' H' cls dc hx (st1.trans st) er' xr⟩
  have da2 := er1.da st2 da
  obtain ⟨p, dx, xs, rfl, ha⟩ := ins_at da2 h1.1
  obtain ⟨q, rfl, hq⟩ := beh_of h2.1 db
  refine ⟨p, dx, _, q, rfl, rfl, ha, hq, ?_⟩
  refine call_in (R := fun z ρ' => ∃ q : Bool, z = .bl q ∧ R (.bl (true != q)) ρ') h2.2 (st1.trans st2) er2 (arg2 da2 db) (fun z ρ' v H' h st er' dz => ?_) hX
  obtain ⟨n, rfl, hr⟩ := h
  exact ⟨n, dz.of_bl, hR _ ρ' _ H' hr st er' (by cases n <;> exact Da.bl)⟩
theorem r_testNeO {c : Nat} {t : DF} {ta tb : DT} : ∀ σ H Q, liftT L (dB (dEqO true c t ta tb)) σ H Q → tTest (tOp (rNeO (L.C.adr c) (spE L.K L.C t) L.E) (lift L ta) (lift L tb)) σ H Q := fun σ H Q q => r_neO σ H _ (r_test σ H Q q)
/-! str(i) -/
def fStr : List D → Option D
  | [.int i] => if i.natAbs.log2 < 1920 then some (.str (numS i)) else none
  | _ => none
theorem ref_str : RefCB L (fun xs H Q => ∃ i, xs = [.int i] ∧ i.natAbs.log2 < 1920 ∧ Q (.str (toString i)) H) fStr := by
  intro M H xs ds d Q fr ha e k
  unfold fStr at e
  split at e
  · split at e
    · rename_i i hi
      obtain ⟨v, rfl, h⟩ := ha.one
      cases h.of_int
      cases e
      refine ⟨i, rfl, hi, ?_⟩
      have q := k (.str (SX.S (numS i))) H same0 Da.str
      unfold numS at q
      rwa [SX.S_tl] at q
    · cases e
  · cases e
end
/-! static methods -/
section
variable {X : Cx} {pins : List (Addr × Obj)} {σ : L2.St} {H : Hp} {s : Shared} {C p g : Addr} {mc : Value} {m : Str} {E : XK} {CX : CXT} {k : Nat} {sp : Sp} {fd : FuncData} {ps : List Str} {o e : Expr} {es : List Expr} {ta : TE} {t : TA} {apos pos : Pos} {pl : Sem Bool}
theorem getsmet_ok {Er : Value → Shared → Prop} {A : Around} {Q : Value × List Value → Shared → Prop} (I : Inv X pins σ H s) (r : CRd X.K C mc) (k : SMet X.K C mc m p g) (h : ∀ s', Inv X pins σ H s' → Q (.ref g, []) s') : wpAny (model X.prog X.w) A (getMethod (.ref C) m pl) Q Er s := by
  obtain ⟨rest, hp⟩ := k.rc
  refine PySem.W.method_cls I.kIn r.ga ?_
  refine PySem.W.cls_bind I.kIn r.rd k.at_ ?_
  exact wpAny_call (PySem.W.sm_get (s := { s with toks := s.toks + 1 }) I.kIn hp (PySem.W.handed_on rfl (h _ (I.tok _))))
/-- C.m(..), m static -/
def tSMeth (C : Addr) (sp : Sp) (E : XK) (ta : TE) (t : TA) : TE := fun σ H Q => ta σ H fun x H1 => x = .ref C ∧ t σ H1 fun vs H2 => sp vs H2 Q E
theorem pe_smeth (he : PE X o ta) (r : CRd X.K C mc) (c : SMet X.K C mc m p g) (F : FnOk X.prog X.w X.K X.mg X.base CX k g fd ps sp) (hr : Room k X.A) (hb : Binds X.K fd ps []) (hx : Passes CX X E) (ha : PA X (e :: es) t)
    (hst : starEach (e :: es) X.env = (false, eval e X.env) :: starEach es X.env := by rfl) (hpl : (backTo pos (starEach es X.env)).any (·.1) = false := by rfl)
    (ht : eval (.Call (.Attribute o m apos) (e :: es) [] pos) X.env = (do
      let ov ← eval o X.env
      standAt apos.atName
      let (f, first) ← holding [ov] (getMethod ov m pl)
      callWith pos f first (backTo pos (starEach (e :: es) X.env)) (backToKw pos (keywordEach [] X.env))) := by rfl) :
    PE X (.Call (.Attribute o m apos) (e :: es) [] pos) (tSMeth C sp E ta t) := by
  refine ⟨fun pins s σ H Q I h => ?_⟩
  refine PySem.W.methodCall_KW (pl := pl) (thn (he.run pins s σ H _ I h) fun u s1 ⟨x, H1, I1, rx, ex, q⟩ => ?_) ht
  subst ex
  obtain rfl : u = Value.ref C := rx
  refine getsmet_ok I1 r c fun s2 I2 => ?_
  refine PySem.W.callWith_K (first := []) (h₀ := X.base) I.ok.mod.kin c.kp (thn (ha.run pos pins s2 σ H1 _ I2 q) fun us s3 ⟨vs, H2, I3, rv, q2⟩ => ⟨I3.kIn, ?_⟩) hst hpl
  exact run_fn (us := us) (vs := vs) (dvs := []) F hr hb .nil hx I3 rv (by rw [List.append_nil]; exact q2)
theorem pe_smethR (he : PE X o ta) (r : CRd X.K C mc) (c : SMet X.K C mc m p g) (F : FnR X.prog X.w X.K X.mg X.base CX k g sp) (hr : Room k X.A) (hx : Passes CX X E) (ha : PA X (e :: es) t)
    (hst : starEach (e :: es) X.env = (false, eval e X.env) :: starEach es X.env := by rfl) (hpl : (backTo pos (starEach es X.env)).any (·.1) = false := by rfl)
    (ht : eval (.Call (.Attribute o m apos) (e :: es) [] pos) X.env = (do
      let ov ← eval o X.env
      standAt apos.atName
      let (f, first) ← holding [ov] (getMethod ov m pl)
      callWith pos f first (backTo pos (starEach (e :: es) X.env)) (backToKw pos (keywordEach [] X.env))) := by rfl) :
    PE X (.Call (.Attribute o m apos) (e :: es) [] pos) (tSMeth C sp E ta t) := by
  refine ⟨fun pins s σ H Q I h => ?_⟩
  refine PySem.W.methodCall_KW (pl := pl) (thn (he.run pins s σ H _ I h) fun u s1 ⟨x, H1, I1, rx, ex, q⟩ => ?_) ht
  subst ex
  obtain rfl : u = Value.ref C := rx
  refine getsmet_ok I1 r c fun s2 I2 => ?_
  refine PySem.W.callWith_K (first := []) (h₀ := X.base) I.ok.mod.kin c.kp (thn (ha.run pos pins s2 σ H1 _ I2 q) fun us s3 ⟨vs, H2, I3, rv, q2⟩ => ⟨I3.kIn, ?_⟩) hst hpl
  exact wpAny_call (run_fnR (us := us) (vs := vs) F hr hx I3 rv q2)
theorem pe_smethR0 (he : PE X o ta) (r : CRd X.K C mc) (c : SMet X.K C mc m p g) (F : FnR X.prog X.w X.K X.mg X.base CX k g sp) (hr : Room k X.A) (hx : Passes CX X E)
    (ht : eval (.Call (.Attribute o m apos) [] [] pos) X.env = (do
      let ov ← eval o X.env
      standAt apos.atName
      let (f, first) ← holding [ov] (getMethod ov m pl)
      callWith pos f first (backTo pos (starEach [] X.env)) (backToKw pos (keywordEach [] X.env))) := by rfl) :
    PE X (.Call (.Attribute o m apos) [] [] pos) (tSMeth C sp E ta tNil) := by
  refine ⟨fun pins s σ H Q I h => ?_⟩
  refine PySem.W.methodCall_KW (pl := pl) (thn (he.run pins s σ H _ I h) fun u s1 ⟨x, H1, I1, rx, ex, q⟩ => ?_) ht
  subst ex
  obtain rfl : u = Value.ref C := rx
  refine getsmet_ok I1 r c fun s2 I2 => ?_
  exact PySem.W.callWith_K0 I2.kIn c.kp (wpAny_call (run_fnR (us := []) (vs := []) F hr hx I2 .nil q))
theorem pe_cnum {f : Str} {i : Int} (he : PE X o (tC (.ref C))) (r : CRd X.K C mc) (k : CNum X.K C mc f i) (hb : attributeBase o f X.env (eval o X.env) = eval o X.env := by rfl) : PE X (.Attribute o f pos) (tC (.int i)) := by
  refine ⟨fun pins s σ H Q I h => ?_⟩
  have h : Q (.int i) H := h
  refine attr_of hb (thn (he.run pins s σ H (fun x H1 => x = .ref C ∧ H1 = H) I ⟨rfl, rfl⟩) fun u s1 ⟨x, H1, I1, rx, ex, eH⟩ => ?_)
  subst ex eH
  obtain rfl : u = Value.ref C := rx
  obtain ⟨t, e⟩ := k.at_
  exact PySem.W.cls_value I1.kIn r.rd e rfl ⟨.int i, H1, I1.tok _, ⟨_, rfl⟩, h⟩
end
section
variable {L : Lx}
def dSMeth (t : DF) (ta : DG En) : DT := dCall t ta
theorem r_smeth {C : Addr} {t : DF} {ta : DG En} : ∀ σ H Q, lift L (dCall t ta) σ H Q → tSMeth C (spE L.K L.C t) L.E (tC (.ref C)) (liftA L ta) σ H Q := fun σ H Q q => by
  refine ⟨rfl, ?_⟩
  have z := r_call σ H Q q
  unfold tCall at z
  simpa using z
end
section
variable {L : Lx} {F : Fx} {H : Hp} {σ : St} {ρ : En}
theorem r_smethR {C : Addr} {t : DF} {ta : DG En} : ∀ σ H Q, lift L (dCall t ta) σ H Q → tSMeth C (spES L.K L.C t) L.E (tC (.ref C)) (liftA L ta) σ H Q := by
  rintro σ H Q ⟨F, ρ, R, X, er, ht, hR, hX⟩
  refine ⟨rfl, F, ρ, _, X, er, ht, fun as ρ1 vs H1 h1 st1 er1 da => ?_, hX⟩
  exact callR_in h1 st1 er1 da hR hX
theorem r_smethR0 {C : Addr} {t : DF} : ∀ σ H Q, lift L (dCall t dNil) σ H Q → tSMeth C (spES L.K L.C t) L.E (tC (.ref C)) tNil σ H Q := fun σ H Q q => ⟨rfl, r_nil σ H _ (r_smethR (C := C) σ H Q q).2⟩
/-! isinstance(x, C), x an instance of C or a list -/
def fIsiO (c : Nat) : D → Option D
  | .ins c' _ => if c' = c then some (.bl true) else none
  | .lst _ => some (.bl false)
  | _ => none
theorem r_isiO {c : Nat} {t : DT} (hc : Cls L.K (L.C.adr c)) (it : InsT L.K (L.C.adr c)) (hk : PySem.W.kitOne L.K (.type "list") (.ref (L.C.adr c)) = some false) : ∀ σ H Q, lift L (dUn (fIsiO c) t) σ H Q → tCB (rIsi L.K) (tCons (lift L t) (tCons (tC (.ref (L.C.adr c))) tNil)) σ H Q :=
  r_un (r := fun x H Q => rIsi L.K [x, .ref (L.C.adr c)] H Q) fun M H x a d Q fr ha e k => by
    unfold fIsiO at e
    split at e
    · split at e
      · rename_i hcc
        cases e
        obtain ⟨p, dx, xs, rfl, h1⟩ := ins_at (c := c) ha (by simp [isIns, hcc])
        refine ⟨_, _, .ref (L.C.adr c), _, true, rfl, .own _, .base (.ins h1 hc it.k1 it.k2 it.k3 it.k4), ?_, k _ H same0 Da.bl⟩
        unfold PySem.W.kitOne
        simp
      · cases e
    · cases e
      obtain ⟨p, xs, rfl, h1, _⟩ := ha.of_lst
      exact ⟨_, _, .type "list", _, false, rfl, .own _, .base (.lst h1), hk, k _ H same0 Da.bl⟩
    · cases e
end
/-- def m(*rest) -/
theorem Fun.okStar0 {C : Cl} {x qual : Str} {st : Stmt} {f : Addr} {fd : FuncData} {N : List Str} {pv : Str} {k : Nat} {t : DF} {tb : DS} (Fn : Fun K x qual st f fd) (S : FnScope N ([] ++ [pv]) (defScope st))
    (h0 : ∀ (kV doc pm : Value) (an : Option Addr) (cdv ct : Value), bindArgs (PySem.W.fnOf x qual (defArgs st) (defBody st) (defScope st) .none kV doc pm an cdv ct) ⟨[], []⟩ = (newTuple [] >>= fun t => pure [(pv, t)]))
    (h1 : ∀ (kV doc pm : Value) (an : Option Addr) (cdv ct : Value) (r : Value) (rs : List Value), bindArgs (PySem.W.fnOf x qual (defArgs st) (defBody st) (defScope st) .none kV doc pm an cdv ct) ⟨r :: rs, []⟩ = (newTuple (r :: rs) >>= fun t => pure [(pv, t)]))
    (hl : ∀ ρ R X, t ρ R X → ρ.length = ([] ++ [pv]).length)
    (hbody : ∀ (cdv : Value) (A : Around) (outer : List Env) (s : Shared) (H : Hp) (E : XK), Room k (A.deeper (PyProof.Rows.envOfC qual (defScope st) s.heap.objs.size f cdv)) →
      PSs (cxOf CX0 P w K mg base N qual (defScope st) f cdv A outer s H E).nox (defBody st) (liftS ⟨K, C, E⟩ tb))
    (ht : ∀ ρ R X, t ρ R X → tb { nx := fun _ => R .non, rt := R, ex := fun x _ => X x } (ρ ++ List.replicate (N.length - ([] ++ [pv]).length) .no)) : FnR P w K mg base CX0 (k + 1) f (spES K C (starT 0 t)) := by
  obtain ⟨oc, od, kV, doc, pm, an, cdv, ct, osl, rfl, lk, hcd⟩ := Fn.ex
  have F0 := StX.fn_star (P := P) (w := w) (mg := mg) (base := base) (k := k) (CX := CX0) (sp := spE K C t) (ps := []) lk hcd S StX.cxUp_none
    (fun us rest hu => by
      cases us with
      | nil =>
        cases rest with
        | nil => exact h0 kV doc pm an cdv ct
        | cons r rs => exact h1 kV doc pm an cdv ct r rs
      | cons a b => cases hu)
    fun A outer s H vs Q E hr h => ⟨_, (hbody cdv A outer s H E hr).nox, body_in hl (fun _ _ _ q => q) ht h⟩
  exact fun A outer s H us vs Q E hr e0 r h => F0 A outer s H us vs Q E hr e0 r (spES_star h)

end
end Ag
namespace Ag
open PySem L2
open C8 (pss_cut tCut)
section
variable {P : Program} {w : World} {K : PySem.W.Frag} {mg : Str → Option Value} {base : Heap} {cs : List (Str × Addr)}
/-! x in xs, by equality of data of any depth -/
theorem hu65 {A : Around} {k : Nat} (hr : Room k A) : A.units + 65 < cLine := by
  have := hr.un
  omega
section
variable {X : Cx}
def rInTD (K : PySem.W.Frag) : R2 := fun x y H Q => ∃ d ds, Dp K H x d ∧ Dp K H y (.tuple ds) ∧ SeqAt.shaped d = true ∧ SeqAt.shaped (.tuple ds) = true ∧ Q (.bl (ds.any fun z => PyData.eqv z d)) H
theorem op_inTD (hu : X.A.units + 65 < cLine) : OpR X (compareOp .In) (rInTD X.K) := by
  intro pins s σ H x y v u Q I rx ry h
  obtain ⟨d, ds, hd, he, sd, se, q⟩ := h
  obtain ⟨as, r1⟩ := Dp.reads I d x v hd rx
  obtain ⟨bs, r2⟩ := Dp.reads I (.tuple ds) y u he ry
  exact SeqAt.in_tuple_reads r2 r1 (SeqAt.canLay_of_shaped se) (SeqAt.canLay_of_shaped sd) (PyProof.Rows.room_in_shaped sd hu) ⟨.bl _, H, I, rfl, q⟩
def rInAD (K : PySem.W.Frag) : R2 := fun x y H Q => rInD K x y H Q ∨ rInTD K x y H Q
theorem op_inAD (hu : X.A.units + 65 < cLine) : OpR X (compareOp .In) (rInAD X.K) := (op_inD hu).or (op_inTD hu)
end
section
variable {L : Lx}
def fInD : D → D → Option D
  | x, .tup ds => if shp x = true ∧ shp (.tup ds) = true then some (.bl (ds.any fun z => PyData.eqv (pd z) (pd x))) else none
  | x, .lst ds => if shp x = true ∧ shp (.lst ds) = true then some (.bl (ds.any fun z => PyData.eqv (pd z) (pd x))) else none
  | _, _ => none
theorem any_pdL (f : PyData → Bool) : ∀ ds : List D, (pdL ds).any f = ds.any fun z => f (pd z)
  | [] => by rw [pdL]; rfl
  | d :: ds => by rw [pdL, List.any_cons, List.any_cons, any_pdL f ds]
theorem ref_inD : RefR2 L (rInAD L.K) fInD := by
  intro M H x y a b d Q fr ha hb e k
  unfold fInD at e
  split at e
  · split at e
    · rename_i hs
      cases e
      obtain ⟨p1, p2⟩ := shp_of ha hs.1
      obtain ⟨q1, q2⟩ := shp_of hb hs.2
      rw [pd] at q1 q2
      refine .inr ⟨_, _, p1, q1, p2, q2, ?_⟩
      rw [any_pdL]
      exact k _ H same0 Da.bl
    · cases e
  · split at e
    · rename_i hs
      cases e
      obtain ⟨p1, p2⟩ := shp_of ha hs.1
      obtain ⟨q1, q2⟩ := shp_of hb hs.2
      rw [pd] at q1 q2
      refine .inl ⟨_, _, p1, q1, p2, q2, ?_⟩
      rw [any_pdL]
      exact k _ H same0 Da.bl
    · cases e
  · cases e
/-! len(x), x.insert(i, e), x an own list -/
def dLenP (i : Nat) : DT := fun ρ R _ => ∃ ds, ρ[i]? = some (.own ds) ∧ ds.length ≤ 1000000 ∧ R (.int (ds.length : Nat)) ρ
theorem r_lenP {i : Nat} : ∀ σ H Q, lift L (dLenP i) σ H Q → tCB (fun xs H Q => ∃ p ys, xs = [.ref p] ∧ (SqL L.K H p ys ∨ SqT L.K H p ys) ∧ Q (.int ys.length) H) (tCons (tVar i) tNil) σ H Q := by
  rintro σ H Q ⟨F, ρ, R, X, er, ⟨ds, hi, hl, hr⟩, hR, hX⟩
  obtain ⟨v, hv, l, xs, rfl, n, h1, h2⟩ := er.at hi
  refine ⟨_, hv, l, xs, rfl, .inl (SqL.of h1), ?_⟩
  rw [h2.length]
  exact hR _ ρ _ H hr Step.refl er Da.int
def dInsert (i : Nat) (ta : DG En) : DS := fun G ρ => (∃ ds, ρ[i]? = some (.own ds)) ∧ ta ρ (fun as ρ1 => match as, ρ1[i]? with
  | [.dat (.int j), .dat d], some (.own ds) => ds.length < 1000000 ∧ 0 ≤ j ∧ j < 2 ^ 63 ∧ G.nx (ρ1.set i (.own (ds.take j.toNat ++ [d] ++ ds.drop j.toNat)))
  | _, _ => False) G.ex
theorem s_insert {i : Nat} {ta : DG En} : ∀ E σ H, liftS L (dInsert i ta) E σ H → tDrop (tBM L.K "list" (fun x vs H Q => ∃ (l : Addr) (xs : List V) (i : Int) (y : V), x = .ref l ∧ vs = [.int i, y] ∧ H l = some (.lst xs) ∧ xs.length < sizeLine ∧ 0 ≤ i ∧ i < 2 ^ 63 ∧
    Q .non (upd H l (.lst (xs.take i.toNat ++ [y] ++ xs.drop i.toNat)))) (tVar i) (liftA L ta)) E σ H := by
  rintro E σ H ⟨F, ρ, G, er, ⟨⟨ds0, h0⟩, ht⟩, g⟩
  obtain ⟨v, hv, l, xs0, rfl, n0, q0, _⟩ := er.at h0
  refine ⟨_, hv, .inl ⟨rfl, _, SqL.of q0⟩, F, ρ, _, G.ex, er, ht, fun as ρ1 vs H1 h1 st1 er1 da => ?_, g.lfx⟩
  split at h1
  · rename_i j d ds hi
    obtain ⟨x, y, rfl, hx, hy⟩ := (ArgL.dats da (by rfl)).two
    cases hx.of_int
    have q := er1.slot i _ _ hi hv
    obtain ⟨l', xs, e, n, q1, q2⟩ := q
    cases e
    refine ⟨l, xs, j, y, rfl, rfl, q1, by rw [q2.length]; exact Nat.lt_of_lt_of_le h1.1 (by decide), h1.2.1, h1.2.2.1, ?_⟩
    obtain ⟨st2, er2⟩ := er1.ownSet hi hv (((q2.take j.toNat).append (DaL.cons hy DaL.nil)).append (q2.drop j.toNat))
    exact g.nx _ _ _ h1.2.2.2 (st1.trans st2) er2
  · exact h1.elim
end
/-! C(k = v, ..), the keyword-only ones by their defaults -/
section
variable {x qual : Str} {params : Arguments} {body : List Stmt} {scope : Scope} {dvs : List V} {kws : List (Str × V)} {f : Addr} {fd : FuncData} {ps : List Str}
theorem FunD.kbindsDK (F : FunD K x qual params body scope dvs kws f fd) (n : Nat) (ks : List Str) (hd : dvs ≠ []) (hk : kws ≠ [])
    (h : ∀ (T D : Addr) (doc pm : Value) (an : Option Addr) (cdv ct : Value) (us its kvs ws : List Value), us.length = n → its.length = dvs.length → kvs.length = kws.length → ws.length = ks.length →
      ∃ k, bindArgs (PySem.W.fnOf x qual params body scope (.ref T) (.ref D) doc pm an cdv ct) ⟨us, ks.zip ws⟩ = seqItems? (.ref T) >>= k ∧ KwChain D ((kws.map (·.1)).zip kvs) (k (some its.toArray)) (ps.zip (us ++ ws ++ kvs))) :
    ∃ g : List Value → List Value → List Value, KBn K fd ps n ks g (fun vs zs => vs ++ zs ++ kws.map (·.2)) := by
  obtain ⟨oc, od, dV, kV, doc, pm, an, cdv, ct, osl, rfl, lk, hcd, hD, hK⟩ := F.ex
  rcases hD with ⟨e, _⟩ | ⟨_, T, o, its, m, rfl, lT, oT, rT⟩
  · exact absurd e hd
  · rcases hK with e | ⟨D, rfl, hq⟩
    · exact absurd e hk
    · obtain ⟨kvs, hl, rk, hks⟩ := kwd_vals hq
      refine ⟨fun us ws => us ++ ws ++ kvs, ⟨fun s us ws X l1 l2 => ?_, fun r1 r2 => (r1.append r2).append rk⟩⟩
      obtain ⟨k, e1, e2⟩ := h T D doc pm an cdv ct us its kvs ws l1 rT.length.symm hl l2
      refine BindsTo.of_looks fun M => ?_
      rw [e1]
      exact looks_items X lT oT (KwChain.looks X hks e2)
end
section
variable {X : Cx} {CX : CXT} {k : Nat} {f C : Addr} {fd : FuncData} {ps ks : List Str} {sp : Sp} {E : XK} {x : Str} {p pos : Pos} {kws : List Keyword} {tk : TA} {gV : List V → List V → List V}
theorem pe_makeK0D (hb : ∃ g, KBn X.K fd ps 1 ks g gV) (M : Mk X.K C f) (F : FnOk X.prog X.w X.K X.mg X.base CX k f fd ps sp) (hr : Room (k + 1) X.A) (hg : Gl X x) (hm : X.mg x = some (.ref C)) (hx : Passes CX X E) (hkw : PK X kws tk)
    (hall : (backToKw pos (keywordEach kws X.env)).all (·.1.isSome) = true := by rfl) (hks : (backToKw pos (keywordEach kws X.env)).filterMap (·.1) = ks := by rfl) (hdb : (x == ("__debug__" : Str)) = false := by decide)
    (hpl : ((backTo pos (starEach [] X.env)).any (·.1) || (backToKw pos (keywordEach kws X.env)).any (·.1.isNone)) = false := by rfl) :
    PE X (.Call (.Name x p) [] kws pos) (tMakeK C 0 ks.length sp gV E tNil tk) :=
  let ⟨_, h⟩ := hb; pe_makeK0 M F hr hg hm h hx hkw hall hks hdb hpl
end
section
variable {L : Lx}
def dMakeK0 (m : Nat) (t : DF) (dds : List D) (tk : DG En) : DT := fun ρ R X => tk ρ (fun zs ρ1 => zs.length = m ∧ t (zs ++ dds.map .dat) (fun d => R d ρ1) (fun x => X x ρ1)) X
theorem r_makeK0 {c : Nat} {m : Nat} {t : DF} {dds : List D} {dvs : List V} {tk : DG En} (hd : ∀ M H, DaL L.K L.C M H dds dvs) :
    ∀ σ H Q, lift L (dMakeK0 m t dds tk) σ H Q → tMakeK (L.C.adr c) 0 m (spI L.K L.C c t) (fun vs zs => vs ++ zs ++ dvs) L.E tNil (liftA L tk) σ H Q := by
  rintro σ H Q ⟨F, ρ, R, X, er, ht, hR, hX⟩
  refine ⟨F, ρ, _, X, er, ht, fun zs ρ1 ws H1 h1 st1 er1 dz => ?_, hX⟩
  have dz' : ArgL L.K L.C F (MM F σ ρ1) H1 zs ws := dz
  refine ⟨rfl, by rw [dz'.length]; exact h1.1, fun x dx hx hdx ne => ?_⟩
  exact make_in h1.2 st1 er1 (ArgL.append dz' (ArgL.ofDats (hd _ _))) hR hX hx hdx ne
end

end
end Ag
namespace Ag
open PySem L2
open C8 (pss_cut tCut)
section
variable {P : Program} {w : World} {K : PySem.W.Frag} {mg : Str → Option Value} {base : Heap} {cs : List (Str × Addr)}
/-! raise, over data -/
section
open NdefX (NF ncx envF NScope CellsAt startF inv_startN)
/-- __init__(self, p): super().__init__(text); self.code = code; self.fld = p -/
def spX1 (C : Addr) (code fld : Str) : Sp := fun vs H Q _ => ∃ (a : Addr) (v : V), vs = [.ref a, v] ∧ H a = some (exo a C none) ∧ ∀ dx, H dx = none → dx ≠ a → Q .non (upd (upd (upd H dx (exd dx [("code", .str code)])) a (exo a C (some dx))) dx (exd dx [(fld, v), ("code", .str code)]))
theorem fn_exc1 {C f : Addr} {fd : FuncData} {ps : List Str} {N : List Str} {code fld : Str} (T : OexC K C) (h1 : PySem.W.findIn K (.ref C) "code" = some none) (h2 : PySem.W.findIn K (.ref C) fld = some none) (hps : ps.length = 2) (hN : N.length = 3)
    (F : FnOk P w K mg base CX0 1 f fd ps (fun vs H Q _ => vs.length = ps.length ∧ ∃ a, vs[0]? = some (.ref a) ∧ H a = some (exo a C none) ∧ tSeq (tOst K "code" (tVar 0) (tC (.str code))) (tOst K fld (tVar 0) (tVar 1)) { nx := fun _ H' => Q .non H', rt := Q } (startF N vs [none]) H)) :
    FnOk P w K mg base CX0 1 f fd ps (spX1 C code fld) := by
  refine F.imp fun vs H Q E h => ?_
  obtain ⟨a, v, rfl, ha, k⟩ := h
  have e : startF N [.ref a, v] [none] = [some (.ref a), some v, none] := by
    unfold startF
    rw [hN]
    rfl
  refine ⟨hps.symm, a, rfl, ha, ?_⟩
  rw [e]
  refine ⟨.ref a, rfl, a, C, rfl, T, h1, .inl ⟨ha, fun dx n1 n2 => ?_⟩⟩
  refine ⟨v, rfl, .ref a, rfl, a, C, rfl, T, h2, .inr ⟨dx, _, upd_same, by rw [upd_ne n2, upd_same], by simp, k dx n1 n2⟩⟩
end
section
variable {L : Lx} {F : Fx} {H H' : Hp} {σ σ' : St} {ρ ρ' : En}
def dRaise1 (c : Nat) (code : List Nat) (ta : DG En) : DS := fun G ρ => ta ρ (fun as ρ1 => match as with | [.dat d] => G.ex ⟨c, [d, .str code]⟩ ρ1 | _ => False) G.ex
theorem s_raise1 {c : Nat} {code : List Nat} {fld : Str} {ta : DG En} (hf : L.C.fld c = [fld, "code"]) : ∀ E σ H, liftS L (dRaise1 c code ta) E σ H → tMkO (L.C.adr c) (spX1 (L.C.adr c) (SX.S code) fld) [] (liftA L ta) σ H (fun cls d H' => L.E cls d H') := by
  rintro E σ H ⟨F, ρ, G, er, ht, g⟩
  refine ⟨F, ρ, _, G.ex, er, ht, fun as ρ1 vs H1 h1 st1 er1 da => ?_, g.lfx⟩
  split at h1
  · rename_i d
    obtain ⟨v, rfl, hv⟩ := (ArgL.dats da (by rfl)).one
    refine ⟨by simp, fun a ha => ⟨a, v, rfl, upd_same, fun dx n1 n2 => ?_⟩⟩
    have ndx : H1 dx = none := by rwa [upd_ne n2] at n1
    refine ⟨rfl, dx, _, by rw [upd_ne (Ne.symm n2), upd_same], upd_same, ndx, ?_⟩
    have e : upd (del (upd (upd (upd (upd H1 a (exo a (L.C.adr c) none)) dx (exd dx [("code", .str (SX.S code))])) a (exo a (L.C.adr c) (some dx))) dx (exd dx [(fld, v), ("code", .str (SX.S code))])) a) dx (.xd [(fld, v), ("code", .str (SX.S code))]) = upd H1 dx (.xd [(fld, v), ("code", .str (SX.S code))]) := by
      funext b
      by_cases e1 : b = dx
      · subst e1; rw [upd_same, upd_same]
      · rw [upd_ne e1, upd_ne e1]
        by_cases e2 : b = a
        · subst e2; rw [del_same, ha]
        · rw [del_ne e2, upd_ne e1, upd_ne e2, upd_ne e1, upd_ne e2]
    rw [e]
    have sm : Same H1 (upd H1 dx (.xd [(fld, v), ("code", .str (SX.S code))])) := Same.laid _ ndx
    refine g.ex _ σ ρ1 _ _ _ h1 (st1.trans (Step.same sm)) (er1.same sm) ⟨rfl, dx, [v, .str (SX.S code)], rfl, ?_, ?_, ⟨er1.newMM ndx, DaL.cons (hv.same sm) (DaL.cons Da.str DaL.nil)⟩⟩
    · rw [upd_same]
      show some (HO.xd _) = some (HO.xd ((L.C.fld c).zip _))
      rw [hf]
      rfl
    · rw [hf]
      rfl
  · exact h1.elim
theorem s_raiseS {c : Nat} {code : String} {fld : Str} {ta : DG En} (hf : L.C.fld c = [fld, "code"]) : ∀ E σ H, liftS L (dRaise1 c (cp code) ta) E σ H → tMkO (L.C.adr c) (spX1 (L.C.adr c) (Str.ofString code) fld) [] (liftA L ta) σ H (fun cls d H' => L.E cls d H') := fun E σ H h => by
  have z := s_raise1 (code := cp code) hf E σ H h
  rwa [S_cp] at z
/-! defs that raise -/
theorem takesD {N : List Str} {qual : Str} {scope : Scope} {f : Addr} {cdv : Value} {A : Around} {outer : List Env} {s : Shared} {H : Hp} {E : XK} : Takes (cxOf (L2.CX P w) P w K mg base N qual scope f cdv A outer s H E) (fun cls d _ H => E cls d H) := takes_of rfl rfl rfl rfl
theorem passD {N : List Str} {qual : Str} {scope : Scope} {f : Addr} {cdv : Value} {A : Around} {outer : List Env} {s : Shared} {H : Hp} {E : XK} : Passes (L2.CX P w) (cxOf (L2.CX P w) P w K mg base N qual scope f cdv A outer s H E) E := passes_call takesD fun _ _ _ _ h => h
theorem FnOk.wide {CX : CXT} {k : Nat} {f : Addr} {fd : FuncData} {ps : List Str} {sp : Sp} (F : FnOk P w K mg base CX0 k f fd ps sp) : FnOk P w K mg base CX k f fd ps sp :=
  ⟨F.len, fun A outer s H args us vs Q E hr e0 hb r h => codeAny_mono (F.run A outer s H args us vs Q E hr e0 hb r h) fun r s' hq => by
    cases r with
    | error e => exact (show False from hq).elim
    | ok fl => cases fl <;> exact hq⟩
theorem Fun.okDX {C : Cl} {x qual : Str} {st : Stmt} {f : Addr} {fd : FuncData} {N ps : List Str} {k : Nat} {t : DF} {tb : DS} (F : Fun K x qual st f fd) (S : FnScope N ps (defScope st)) (hl : ∀ ρ R X, t ρ R X → ρ.length = ps.length)
    (hbody : ∀ (cdv : Value) (A : Around) (outer : List Env) (s : Shared) (H : Hp) (E : XK), Room k (A.deeper (PyProof.Rows.envOfC qual (defScope st) s.heap.objs.size f cdv)) →
      PSs (cxOf (L2.CX P w) P w K mg base N qual (defScope st) f cdv A outer s H E) (defBody st) (liftS ⟨K, C, E⟩ tb))
    (ht : ∀ ρ R X, t ρ R X → tb { nx := fun _ => R .non, rt := R, ex := fun x _ => X x } (ρ ++ List.replicate (N.length - ps.length) .no)) : FnOk P w K mg base (L2.CX P w) (k + 1) f fd ps (spE K C t) := by
  obtain ⟨oc, od, kV, doc, pm, an, cdv, ct, osl, rfl, lk, hcd⟩ := F.ex
  exact fn_of lk hcd S (spE_len hl) fun A outer s H vs Q E hr hsp => ⟨_, hbody cdv A outer s H E hr, body_in hl (fun _ _ _ q => q) ht hsp⟩
theorem FunD.okDX {C : Cl} {x qual : Str} {params : Arguments} {body : List Stmt} {scope : Scope} {dvs : List V} {kws : List (Str × V)} {f : Addr} {fd : FuncData} {N ps : List Str} {k : Nat} {t : DF} {tb : DS} (F : FunD K x qual params body scope dvs kws f fd) (S : FnScope N ps scope) (hl : ∀ ρ R X, t ρ R X → ρ.length = ps.length)
    (hbody : ∀ (cdv : Value) (A : Around) (outer : List Env) (s : Shared) (H : Hp) (E : XK), Room k (A.deeper (PyProof.Rows.envOfC qual scope s.heap.objs.size f cdv)) →
      PSs (cxOf (L2.CX P w) P w K mg base N qual scope f cdv A outer s H E) body (liftS ⟨K, C, E⟩ tb))
    (ht : ∀ ρ R X, t ρ R X → tb { nx := fun _ => R .non, rt := R, ex := fun x _ => X x } (ρ ++ List.replicate (N.length - ps.length) .no)) : FnOk P w K mg base (L2.CX P w) (k + 1) f fd ps (spE K C t) := by
  obtain ⟨oc, od, dV, kV, doc, pm, an, cdv, ct, osl, rfl, lk, hcd, _, _⟩ := F.ex
  exact fn_of lk hcd S (spE_len hl) fun A outer s H vs Q E hr hsp => ⟨_, hbody cdv A outer s H E hr, body_in hl (fun _ _ _ q => q) ht hsp⟩
theorem FunD.okIX {C : Cl} {x qual : Str} {params : Arguments} {body : List Stmt} {scope : Scope} {dvs : List V} {kws : List (Str × V)} {f : Addr} {fd : FuncData} {N ps : List Str} {k : Nat} {t : DF} {tb : DS} {c : Nat} (F : FunD K x qual params body scope dvs kws f fd) (S : FnScope N ps scope) (hl : ∀ ρ R X, t ρ R X → ρ.length + 1 = ps.length)
    (hbody : ∀ (cdv : Value) (A : Around) (outer : List Env) (s : Shared) (H : Hp) (E : XK), Room k (A.deeper (PyProof.Rows.envOfC qual scope s.heap.objs.size f cdv)) →
      PSs (cxOf (L2.CX P w) P w K mg base N qual scope f cdv A outer s H E) body (liftS ⟨K, C, E⟩ tb))
    (ht : ∀ ρ R X, t ρ R X → tb { nx := fun ρ' => ∃ ds, ρ'[0]? = some (.ownI c (C.fld c) ds) ∧ R (.ins c ds), rt := fun _ => False, ex := fun x _ => X x } (.ownI c [] [] :: (ρ ++ List.replicate (N.length - ps.length) .no))) : FnOk P w K mg base (L2.CX P w) (k + 1) f fd ps (spI K C c t) := by
  obtain ⟨oc, od, dV, kV, doc, pm, an, cdv, ct, osl, rfl, lk, hcd, _, _⟩ := F.ex
  exact fn_of lk hcd S (spI_len hl) fun A outer s H vs Q E hr hsp => ⟨_, hbody cdv A outer s H E hr, body_init hl (fun _ _ _ q => q) ht hsp⟩
end

end
end Ag
namespace Ag
open PySem L2
open C8 (pss_cut tCut)
section
variable {P : Program} {w : World} {K : PySem.W.Frag} {mg : Str → Option Value} {base : Heap} {cs : List (Str × Addr)}
theorem ok_InvalidFormula___init__ (T : Txt K mg w P) : FnOk P w K mg base CX0 1 T.f_InvalidFormula___init__ T.fd_InvalidFormula___init__ ["self", "value"] (spX1 T.C_InvalidFormula "InvalidFormula" "value") := by
  obtain ⟨oc, od, doc, pm, ctv, osl, e, lk⟩ := T.X_InvalidFormula.lk
  have F := fn_sup (P := P) (w := w) (mg := mg) (base := base) (rest := (defBody s_InvalidFormula___init__).tail) (t := tSeq (tOst K "code" (tVar 0) (tC (.str "InvalidFormula"))) (tOst K "value" (tVar 0) (tVar 1))) (N := ["self", "value", "__class__"]) (ps := ["self", "value"]) (F := ExN s_InvalidFormula___init__ "InvalidFormula.__init__" T.cc_InvalidFormula T.cd_InvalidFormula) (doc := doc) (pm := pm) (ctv := ctv) (by rw [← e]; exact lk) T.X_InvalidFormula.cdk sc_InvalidFormula___init__ rfl T.X_InvalidFormula.sf rfl rfl (by simp) (by simp) T.n_super rfl (fun env => ⟨_, rfl⟩)
    (fun A outer s H E => pss_cons (ps_ost (pv 0) pe_str) (pss_one (ps_ost (pv 0) (pv 1))))
  rw [← e] at F
  exact fn_exc1 T.X_InvalidFormula.sf.oex T.X_InvalidFormula.code T.X_InvalidFormula.fld rfl rfl F


end
end Ag
namespace Ag
open PySem L2
open C8 (pss_cut tCut)
section
variable {P : Program} {w : World} {K : PySem.W.Frag} {mg : Str → Option Value} {base : Heap} {cs : List (Str × Addr)}
/-! lambdas: the making -/
section
open NdefX (NTab)
open LamX (CodeO TabB codeO_ne inv_table)
theorem lamO_ne {f c : Addr} {l : Lm} {cl : List (Str × Addr)} {td : Option Addr} (ps : Array Value) : LamO f l cl c td ≠ .tbl ps := fun z => by
  unfold LamO at z
  cases z
theorem lamO_at {H : Hp} {h : Heap} {f c : Addr} {l : Lm} {cl : List (Str × Addr)} {td : Option Addr} (hok : HOk P w H h) (e : H f = some (LamO f l cl c td)) : ∃ (od : Option Addr) (sl : Array (Option Value)) (doc pm ctv : Value),
    h.get? f = some (⟨.type "function", od, .func (PySem.W.kdv_fn "<lambda>" l.qual l.params (.expr l.body) l.scope cl (dvOf td) doc pm (.ref c) ctv), sl⟩ : Obj) := by
  obtain ⟨z, _, _⟩ := hok f _ e
  exact z
theorem celO_at {H : Hp} {h : Heap} {c : Addr} {o : Obj} (hok : HOk P w H h) (e : H c = some (CelO c o)) : h.get? c = some o := by
  exact (hok c _ e).1
theorem celO_ok {H : Hp} {h : Heap} {c : Addr} {o : Obj} (e : h.get? c = some o) : ObjOk P w H h c (CelO c o) := ⟨e, trivial, ⟨o, e⟩, fun _ _ _ _ => trivial⟩
section
variable {X : Cx} {pins : List (Addr × Obj)} {σ : L2.St} {H : Hp} {s : Shared}
theorem inv_lam {l : Lm} {cl : List (Str × Addr)} {c : Addr} {td : Option Addr} {o : Obj} {t' : Nat} {doc pm ctv : Value} (I : Inv X pins σ H s) (ho : o = { cls := .type "function", data := .func (PySem.W.kdv_fn "<lambda>" l.qual l.params (.expr l.body) l.scope cl (dvOf td) doc pm (.ref c) ctv) }) :
    Inv X pins σ (upd H s.heap.objs.size (LamO s.heap.objs.size l cl c td)) { s with heap := s.heap.push o, toks := t' } := by
  subst ho
  refine I.laid (a := s.heap.objs.size) (fun b u e => Heap.get?_push_of_some _ e) (Nat.le_refl _) ?_
  have e : (s.heap.push ({ cls := .type "function", data := .func (PySem.W.kdv_fn "<lambda>" l.qual l.params (.expr l.body) l.scope cl (dvOf td) doc pm (.ref c) ctv) } : Obj)).get? s.heap.objs.size = some ({ cls := .type "function", data := .func (PySem.W.kdv_fn "<lambda>" l.qual l.params (.expr l.body) l.scope cl (dvOf td) doc pm (.ref c) ctv) } : Obj) := Heap.get?_push_size _ rfl
  exact ⟨⟨_, _, doc, pm, ctv, e⟩, ⟨_, e⟩, fun h1 h2 ⟨od, sl, d, p, t, z⟩ st => ⟨od, sl, d, p, t, st _ z⟩⟩
/-- behind the defaults: the code object is new, or found in the table -/
theorem lam_tail {M : Addr → Prop} {T : List NTab} {nm : Nat → Nat → Str} {c Pt : Addr} {l : Lm} {pos : Pos} {td : Option Addr} {E : Value → Shared → Prop} {Q : Value → Shared → Prop} (I : Inv X pins σ H s) (TB : TabB X.base X.mg c Pt) (hcode : X.env.code = .ref c)
    (hT : ∀ p ∈ T, TabM M H p.1 p.2) (hm : (Pt, nm) ∈ T) (hu : ∀ p ∈ T, p.1 = Pt → p.2 = nm) (hn : nm pos.line pos.col = l.qual) (hM : ∀ a, H a = none → ¬ M a) (hfree : ∀ y ∈ l.scope.names, y.2 = .free → ∃ c, X.env.cells.lookup y.1 = some c)
    (h : ∀ (f c' : Addr) (H1 : Hp) (s' : Shared), Inv X pins σ H1 s' → (∀ a o, H a = some o → a ≠ Pt → H1 a = some o) → (∀ p ∈ T, TabM M H1 p.1 p.2) → H f = none → H1 f = some (LamO f l (cloFrom X.env.cells l.scope.names []) c' td) → ¬ M c' → H1 c' = some (CodeO c' l.qual) → Q (.ref f) s') :
    wpAny (model X.prog X.w) X.A (makeTail "<lambda>" l.qual l.params (.expr l.body) l.scope X.env (dvOf td) .none none pos pos.line) Q E s := by
  obtain ⟨ps, hP, ht, ha⟩ := (show TabM M H Pt nm from hT _ hm)
  have bP : s.heap.BuiltinsAt X.mg Pt := TB.bm.keeps I.bk
  have hP' : s.heap.get? Pt = some { cls := .none, data := .fields ps } := I.hok Pt _ hP
  cases hc : codeAmong pos ps.toList with
  | none =>
    refine PySem.W.kdv_makeTail (mg := X.mg) (c := c) (P := Pt) (ps := ps) (closure_ok hfree) I.ok.glob (I.mod.glob.keeps I.bk) hcode (TB.code.keeps I.bk) hP' ht hc TB.gP bP fun c' ctv doc h' tk hx hge hlt hrec htb => ?_
    obtain ⟨c2, oc, vs, t, e2, hoc, hd, hv⟩ := hrec
    cases e2
    have nC : H c' = none := I.hok.fresh hge
    have I1 := inv_table (t' := tk) (more := #[rawInt pos.line, rawInt pos.col, .ref c']) (h' := h') I hP (fun b o hb e => hx b o hb e) htb hge ⟨oc, vs, t, hoc, hd, hv⟩
    have hE : ∀ a o, H a = some o → a ≠ Pt → (upd (upd H Pt (.tbl (ps ++ #[rawInt pos.line, rawInt pos.col, .ref c']))) c' (CodeO c' l.qual)) a = some o := fun b o e n => by
      rw [upd_ne (ne_of_none e nC), upd_ne n]
      exact e
    have eL : (ps ++ #[rawInt pos.line, rawInt pos.col, .ref c']).toList = ps.toList ++ [rawInt pos.line, rawInt pos.col, .ref c'] := by simp
    have nPx : ∀ a φ, H a = some (.ext φ) → a ≠ Pt := fun a φ e z => by rw [z, hP] at e; cases e
    have T1 : ∀ p ∈ T, TabM M (upd (upd H Pt (.tbl (ps ++ #[rawInt pos.line, rawInt pos.col, .ref c']))) c' (CodeO c' l.qual)) p.1 p.2 := fun p hp => by
      by_cases hb : p.1 = Pt
      · rw [hu p hp hb, hb]
        refine ⟨_, by rw [upd_ne (ne_of_none hP nC), upd_same], by rw [eL]; exact PySem.TriplesOk_snoc _ _ _ _ ht, fun p' cv hcv => ?_⟩
        rw [eL] at hcv
        rcases NdefX.among_app2 _ ht hcv with z | ⟨z, z1, z2⟩
        · obtain ⟨c0, e1, e2, e3⟩ := ha p' cv z
          exact ⟨c0, e1, e2, hE _ _ e3 (nPx c0 _ (by unfold CodeO at e3; exact e3))⟩
        · refine ⟨c', z, hM c' nC, ?_⟩
          rw [← z1, ← z2, hn]
          exact upd_same
      · exact (hT p hp).mono (fun qs e => by rw [upd_ne (ne_of_none e nC), upd_ne hb]; exact e) fun a φ m e => ⟨m, hE a _ e (nPx a φ e)⟩
    have nF := I1.hok.fresh (Nat.le_refl _)
    have I2 := inv_lam (l := l) (cl := cloFrom X.env.cells l.scope.names []) (c := c') (td := td) (t' := tk) (doc := doc) (pm := (X.mg "__name__").getD .none) (ctv := ctv) I1 rfl
    refine h h'.objs.size c' _ _ I2 (fun b o e n => ?_) (fun p hp => ?_) (I.hok.fresh (Nat.le_trans hge (Nat.le_of_lt hlt))) upd_same (hM c' nC) ?_
    · have e1 := hE b o e n
      exact (upd_ne (ne_of_none e1 nF)).trans e1
    · exact (T1 p hp).mono (fun qs e => (upd_ne (ne_of_none e nF)).trans e) fun a φ m e => ⟨m, (upd_ne (ne_of_none e nF)).trans e⟩
    · exact (upd_ne (Nat.ne_of_lt hlt)).trans upd_same
  | some cv =>
    obtain ⟨c', e, hmc, hco⟩ := ha pos cv hc
    subst e
    rw [hn] at hco
    refine PySem.W.kdv_makeTailHit (mg := X.mg) (c := c) (P := Pt) (ps := ps) (closure_ok hfree) I.ok.glob (I.mod.glob.keeps I.bk) hcode (TB.code.keeps I.bk) hP' ht hc bP fun ctv doc h' tk hx hsz => ?_
    have I1 : Inv X pins σ H { s with heap := h', toks := tk } := I.kept hx
    have nF : H h'.objs.size = none := I1.hok.fresh (Nat.le_refl _)
    have I2 := inv_lam (l := l) (cl := cloFrom X.env.cells l.scope.names []) (c := c') (td := td) (t' := tk) (doc := doc) (pm := (X.mg "__name__").getD .none) (ctv := ctv) I1 rfl
    refine h h'.objs.size c' _ _ I2 (fun b o e n => ?_) (fun p hp => ?_) nF upd_same hmc ?_
    · exact (upd_ne (ne_of_none e nF)).trans e
    · exact (hT p hp).mono (fun qs e => (upd_ne (ne_of_none e nF)).trans e) fun a φ m e => ⟨m, (upd_ne (ne_of_none e nF)).trans e⟩
    · exact (upd_ne (ne_of_none hco nF)).trans hco
end
/-- the reading of a written lambda: T the tables, Pt the maker's -/
def tLm (T : List NTab) (Pt : Addr) (l : Lm) (cs : List (Str × Addr)) : TE := fun _ H Q => ∃ M : Addr → Prop, (∀ p ∈ T, TabM M H p.1 p.2) ∧ (∀ a, H a = none → ¬ M a) ∧
  ∀ (f c : Addr) (td : Option Addr) (H1 : Hp), (∀ a o, H a = some o → a ≠ Pt → H1 a = some o) → (∀ p ∈ T, TabM M H1 p.1 p.2) → H f = none → H1 f = some (LamO f l (cloFrom cs l.scope.names []) c td) → ¬ M c → H1 c = some (CodeO c l.qual) → DfT M H1 l td → Q (.ref f) H1
section
variable {X : Cx}
theorem pe_lm0 {T : List NTab} {nm : Nat → Nat → Str} {c Pt : Addr} {l : Lm} {pos : Pos} (TB : TabB X.base X.mg c Pt) (hcode : X.env.code = .ref c) (hm : (Pt, nm) ∈ T) (hu : ∀ p ∈ T, p.1 = Pt → p.2 = nm) (hn : nm pos.line pos.col = l.qual) (hq : l.qual = X.env.qual ++ "<lambda>")
    (hfree : ∀ y ∈ l.scope.names, y.2 = .free → X.env.scope.names.lookup y.1 = some .cell ∨ X.env.scope.names.lookup y.1 = some .free) (hdef : defaultsOf l.params X.env = ([], [])) (hd : l.dv = none) :
    PE X (.Lambda l.params l.body l.scope pos) (tLm T Pt l X.env.cells) := by
  refine ⟨fun pins s σ H Q I h => ?_⟩
  obtain ⟨M, hT, hM, h⟩ := h
  refine PySem.W.kla_eval hdef ?_
  rw [makeFunction_eq]
  simp only [List.zip_nil_right, List.filterMap_nil, List.isEmpty_nil, if_true, pure_bind]
  rw [← hq]
  have hfr : ∀ y ∈ l.scope.names, y.2 = .free → ∃ c, X.env.cells.lookup y.1 = some c := fun y hy e => (hfree y hy e).elim (fun z => I.ok.has _ (.inl z)) fun z => I.ok.has _ (.inr z)
  refine lam_tail (td := none) I TB hcode hT hm hu hn hM hfr fun f c' H1 s' I1 st T1 f0 f1 m1 c1 => ?_
  exact ⟨.ref f, H1, I1, rfl, h f c' none H1 st T1 f0 f1 m1 c1 (.inl ⟨hd, rfl⟩)⟩
theorem pe_lm1 {T : List NTab} {nm : Nat → Nat → Str} {c Pt : Addr} {l : Lm} {pos : Pos} {n : Int} {j : Nat} {p1 : Pos} (TB : TabB X.base X.mg c Pt) (hcode : X.env.code = .ref c) (hm : (Pt, nm) ∈ T) (hu : ∀ p ∈ T, p.1 = Pt → p.2 = nm) (hn : nm pos.line pos.col = l.qual) (hq : l.qual = X.env.qual ++ "<lambda>")
    (hfree : ∀ y ∈ l.scope.names, y.2 = .free → X.env.scope.names.lookup y.1 = some .cell ∨ X.env.scope.names.lookup y.1 = some .free) (hdef : l.params.defaults = [.Constant (.int n) j p1]) (hk0 : l.params.kw_defaults = []) (hd : l.dv = some n) :
    PE X (.Lambda l.params l.body l.scope pos) (tLm T Pt l X.env.cells) := by
  refine ⟨fun pins s σ H Q I h => ?_⟩
  obtain ⟨M, hT, hM, h⟩ := h
  refine PySem.W.kdv_lam (by rw [hdef]; rfl) hk0 ?_
  rw [hdef]
  refine PySem.W.kdv_all1 (wpAny_Constant_int (PySem.W.kdv_all0 ?_))
  rw [makeFunction_eq]
  simp only [List.zip_nil_right, List.filterMap_nil, List.isEmpty_nil, List.isEmpty_cons, Bool.false_eq_true, if_false, if_true, pure_bind]
  refine wpAny_bind (wpAny_newTextTuple ?_)
  rw [← hq]
  have hfr : ∀ y ∈ l.scope.names, y.2 = .free → ∃ c, X.env.cells.lookup y.1 = some c := fun y hy e => (hfree y hy e).elim (fun z => I.ok.has _ (.inl z)) fun z => I.ok.has _ (.inr z)
  have n0 : H s.heap.objs.size = none := I.hok.fresh (Nat.le_refl _)
  have I0 : Inv X pins σ (upd H s.heap.objs.size (.tup [.int n])) { s with heap := s.heap.push { cls := .type "tuple", data := .seq [Value.int n s.toks].toArray }, toks := s.toks + 1 } := by
    refine I.laid (a := s.heap.objs.size) (fun b u e => Heap.get?_push_of_some _ e) (Nat.le_refl _) ⟨by show 1 ≤ sizeLine; decide, [.int n s.toks], .cons ⟨_, rfl⟩ .nil, ?_⟩
    exact ⟨_, Heap.get?_push_size _ rfl, rfl, _, rfl⟩
  have sm : Same H (upd H s.heap.objs.size (.tup [.int n])) := Same.laid _ n0
  refine lam_tail (M := M) (td := some s.heap.objs.size) I0 TB hcode (fun p hp => (hT p hp).mono (fun ps e => sm _ _ e) fun a φ m e => ⟨m, sm _ _ e⟩) hm hu hn (fun a e => hM a ?_) hfr fun f c' H1 s' I1 st T1 f0 f1 m1 c1 => ?_
  · by_cases z : a = s.heap.objs.size
    · rw [z, upd_same] at e; cases e
    · rwa [upd_ne z] at e
  · have nP : s.heap.objs.size ≠ Pt := fun z => by
      obtain ⟨ps, e, _⟩ := (show TabM M H Pt nm from hT _ hm)
      rw [← z, n0] at e; cases e
    refine ⟨.ref f, H1, I1, rfl, h f c' (some s.heap.objs.size) H1 (fun a o e n => st a o (sm a o e) n) T1 ?_ f1 m1 c1 (.inr ⟨n, _, hd, rfl, hM _ n0, st _ _ upd_same nP⟩)⟩
    by_cases z : f = s.heap.objs.size
    · rw [z]; exact n0
    · rwa [upd_ne z] at f0
end
end

end
end Ag
namespace Ag
open PySem L2
open C8 (pss_cut tCut)
section
variable {P : Program} {w : World} {K : PySem.W.Frag} {mg : Str → Option Value} {base : Heap} {cs : List (Str × Addr)}
/-! things taken out of an abstract heap, and put in -/
section
open Classical in
noncomputable def cut (H : Hp) (S : Addr → Prop) : Hp := fun a => if S a then none else H a
open Classical in
noncomputable def put (G : Hp) (H : Hp) (S : Addr → Prop) : Hp := fun a => if S a then G a else H a
theorem cut_in {H : Hp} {S : Addr → Prop} {a : Addr} (h : S a) : cut H S a = none := by unfold cut; exact if_pos h
theorem cut_out {H : Hp} {S : Addr → Prop} {a : Addr} (h : ¬ S a) : cut H S a = H a := by unfold cut; exact if_neg h
theorem put_in {G H : Hp} {S : Addr → Prop} {a : Addr} (h : S a) : put G H S a = G a := by unfold put; exact if_pos h
theorem put_out {G H : Hp} {S : Addr → Prop} {a : Addr} (h : ¬ S a) : put G H S a = H a := by unfold put; exact if_neg h
theorem cut_some {H : Hp} {S : Addr → Prop} {a : Addr} {o : HO} (h : cut H S a = some o) : ¬ S a ∧ H a = some o := by
  by_cases z : S a
  · rw [cut_in z] at h; cases h
  · rw [cut_out z] at h; exact ⟨z, h⟩
theorem hok_cut {H : Hp} {h : Heap} {S : Addr → Prop} (k : HOk P w H h) (hS : ∀ a, S a → ∀ o, H a = some o → ∃ x y, o = .frz x y) : HOk P w (Ag.cut H S) h := fun b u e => by
  obtain ⟨_, e'⟩ := cut_some e
  refine (k b u e').stay (fun _ _ _ q => q) (fun c q => ?_) (fun c xs q => ?_)
  · rw [cut_out fun z => by obtain ⟨_, _, y⟩ := hS c z _ q; cases y]; exact q
  · rw [cut_out fun z => by obtain ⟨_, _, y⟩ := hS c z _ q; cases y]; exact q
variable {outer : List Env} {H : Hp} {s s' : Shared} {S : Addr → Prop} {Q Q' : VK} {u : Value} {E E' : XK} {A : Around}
/-- what was taken out for a call is there again behind it -/
theorem un_uncut {fs : List Addr} {H' : Hp} {h h' : Heap} (hS : ∀ c, S c → ∃ o, H c = some (CelO c o)) (un : Un fs [] (cut H S) H' h h') : Un fs [] H (put H H' S) h h' := by
  have nS : ∀ b, H b = none → ¬ S b := fun b n z => by obtain ⟨o, e⟩ := hS b z; rw [n] at e; cases e
  have nX : ∀ b o, H b = some o → (∀ x y, o ≠ .frz x y) → ¬ S b := fun b o e n z => by
    obtain ⟨o', e'⟩ := hS b z
    rw [e] at e'; cases e'; exact n _ _ rfl
  refine ⟨fun b o e n hb hx => un.keep b o e (by rw [cut_out (nS b n)]; exact n) hb hx, fun b o e n hb hx => un.slot b o e (by rw [cut_out (nS b n)]; exact n) hb hx, fun b o e n hx => by rw [put_out (nS b n)]; exact un.free b o e (by rw [cut_out (nS b n)]; exact n) hx, un.there, fun b xs e => ?_, fun b o u e => ?_, fun b ps e => ?_⟩
  · have z := nX b _ e fun _ _ y => by cases y
    rw [put_out z]; exact un.tups b xs (by rw [cut_out z]; exact e)
  · by_cases z : S b
    · rw [put_in z]; exact e
    · rw [put_out z]; exact un.frzs b o u (by rw [cut_out z]; exact e)
  · have z := nX b _ e fun _ _ y => by cases y
    obtain ⟨m, q⟩ := un.tbls b ps (by rw [cut_out z]; exact e)
    exact ⟨m, by rw [put_out z]; exact q⟩
theorem hok_put {H' : Hp} {h' : Heap} (hS : ∀ c, S c → ∃ o, H c = some (CelO c o) ∧ h'.get? c = some o) (h0 : ∀ c, S c → H' c = none) (k : HOk P w H' h') : HOk P w (put H H' S) h' := fun b u e => by
  by_cases z : S b
  · obtain ⟨o, e1, e2⟩ := hS b z
    rw [put_in z, e1] at e; cases e
    exact celO_ok e2
  · rw [put_out z] at e
    refine (k b u e).stay (fun _ _ _ q => q) (fun c q => ?_) (fun c xs q => ?_)
    · rw [put_out fun z => by rw [h0 c z] at q; cases q]; exact q
    · rw [put_out fun z => by rw [h0 c z] at q; cases q]; exact q
theorem ce_uncut (e0 : Env0 P w K mg base A outer s H) (hS : ∀ c, S c → ∃ o, H c = some (CelO c o)) (h : CE outer P w (cut H S) s Q' u s') (hQ : ∀ v H', (∀ c, S c → H' c = none) → Q' v H' → Q v (put H H' S)) : CE outer P w H s Q u s' := by
  obtain ⟨v, H', os, bare, un, hok, r, q⟩ := h
  have at_ : ∀ c, S c → ∃ o, H c = some (CelO c o) ∧ s.heap.get? c = some o ∧ c ∉ frs outer := fun c z => by
    obtain ⟨o, e⟩ := hS c z
    exact ⟨o, e, celO_at e0.hok e, fun hb => by rw [e0.frf c hb] at e; cases e⟩
  have h0 : ∀ c, S c → H' c = none := fun c z => by
    obtain ⟨o, e1, e2, e3⟩ := at_ c z
    exact un.free c o e2 (cut_in z) (by simp)
  refine ⟨v, put H H' S, os, bare, un_uncut hS un, hok_put (fun c z => ?_) h0 hok, r, hQ v H' h0 q⟩
  obtain ⟨o, e1, e2, e3⟩ := at_ c z
  exact ⟨o, e1, un.keep c o e2 (cut_in z) e3 (by simp)⟩
theorem cx_uncut (e0 : Env0 P w K mg base A outer s H) (hS : ∀ c, S c → ∃ o, H c = some (CelO c o)) (h : L2.CX P w outer (cut H S) s E' u s') (hE : ∀ cls d H', (∀ c, S c → H' c = none) → E' cls d H' → E cls d (put H H' S)) : L2.CX P w outer H s E u s' := by
  obtain ⟨a, B, H', cls, d, rfl, fly, hok, ub, na, os, ag, e⟩ := h
  have at_ : ∀ c, S c → ∃ o, H c = some (CelO c o) ∧ s.heap.get? c = some o ∧ c ∉ frs outer := fun c z => by
    obtain ⟨o, e⟩ := hS c z
    exact ⟨o, e, celO_at e0.hok e, fun hb => by rw [e0.frf c hb] at e; cases e⟩
  have h0 : ∀ c, S c → H' c = none := fun c z => by
    obtain ⟨o, e1, e2, e3⟩ := at_ c z
    exact ub.free c o e2 (cut_in z)
  have hB : ∀ c, S c → ∃ o, H c = some (CelO c o) ∧ B.get? c = some o := fun c z => by
    obtain ⟨o, e1, e2, e3⟩ := at_ c z
    exact ⟨o, e1, ub.keep c o e2 (cut_in z) e3⟩
  have nS : ∀ b, H b = none → ¬ S b := fun b n z => by obtain ⟨o, e⟩ := hS b z; rw [n] at e; cases e
  have nX : ∀ b o, H b = some o → (∀ x y, o ≠ .frz x y) → ¬ S b := fun b o e n z => by
    obtain ⟨o', e'⟩ := hS b z
    rw [e] at e'; cases e'; exact n _ _ rfl
  have nBa : B.get? a = none := fly.2.1
  refine ⟨a, B, put H H' S, cls, d, rfl, fly, hok_put hB h0 hok, ⟨fun b o e n hb => ub.keep b o e (by rw [cut_out (nS b n)]; exact n) hb, ub.slot, fun b o e n => by rw [put_out (nS b n)]; exact ub.free b o e (by rw [cut_out (nS b n)]; exact n), ub.there, fun b xs e => ?_, fun b o u e => ?_, fun b ps e => ?_⟩, ?_, os, ag, hE cls d H' h0 e⟩
  · have z := nX b _ e fun _ _ y => by cases y
    rw [put_out z]; exact ub.tups b xs (by rw [cut_out z]; exact e)
  · by_cases z : S b
    · rw [put_in z]; exact e
    · rw [put_out z]; exact ub.frzs b o u (by rw [cut_out z]; exact e)
  · have z := nX b _ e fun _ _ y => by cases y
    obtain ⟨m, q⟩ := ub.tbls b ps (by rw [cut_out z]; exact e)
    exact ⟨m, by rw [put_out z]; exact q⟩
  · rw [put_out fun z => by obtain ⟨o, _, q⟩ := hB a z; rw [nBa] at q; cases q]; exact na
/-- things lent for a call are taken back -/
theorem ce_unlend {o : Addr → Obj} (hS : ∀ c, S c → H c = none ∧ s.heap.get? c = some (o c) ∧ c ∉ frs outer) (h : CE outer P w (put (fun a => some (CelO a (o a))) H S) s Q' u s')
    (hQ : ∀ v H', HOk P w H' s'.heap → Q' v H' → (∀ c, S c → H' c = some (CelO c (o c))) ∧ Q v (cut H' S)) : CE outer P w H s Q u s' := by
  obtain ⟨v, H', os, bare, un, hok, r, q⟩ := h
  obtain ⟨hc, q⟩ := hQ v H' hok q
  have nX : ∀ b x, H b = some x → ¬ S b := fun b x e z => by rw [(hS b z).1] at e; cases e
  refine ⟨v, cut H' S, os, bare, ⟨fun b x e n hb hx => ?_, fun b x e n hb hx => ?_, fun b x e n hx => ?_, un.there, fun b xs e => ?_, fun b x y e => ?_, fun b ps e => ?_⟩, hok_cut hok fun a z x e => ?_, r, q⟩
  · by_cases z : S b
    · obtain ⟨_, e2, _⟩ := hS b z
      rw [e] at e2; cases e2
      exact celO_at hok (hc b z)
    · exact un.keep b x e (by rw [put_out z]; exact n) hb hx
  · by_cases z : S b
    · exact absurd hb (hS b z).2.2
    · exact un.slot b x e (by rw [put_out z]; exact n) hb hx
  · by_cases z : S b
    · exact cut_in z
    · rw [cut_out z]; exact un.free b x e (by rw [put_out z]; exact n) hx
  · have z := nX b _ e
    rw [cut_out z]; exact un.tups b xs (by rw [put_out z]; exact e)
  · have z := nX b _ e
    rw [cut_out z]; exact un.frzs b x y (by rw [put_out z]; exact e)
  · have z := nX b _ e
    obtain ⟨m, q⟩ := un.tbls b ps (by rw [put_out z]; exact e)
    exact ⟨m, by rw [cut_out z]; exact q⟩
  · rw [hc a z] at e; cases e; exact ⟨_, _, rfl⟩
theorem env0_cut (e0 : Env0 P w K mg base A outer s H) (hS : ∀ c, S c → ∃ o, H c = some (CelO c o)) : Env0 P w K mg base A outer s (cut H S) :=
  ⟨e0.frames, e0.mod, fun b o e => ⟨(e0.bs b o e).1, by
    by_cases z : S b
    · exact cut_in z
    · rw [cut_out z]; exact (e0.bs b o e).2⟩, e0.bsz, e0.funs, fun b hb => by
    by_cases z : S b
    · exact cut_in z
    · rw [cut_out z]; exact e0.frf b hb, hok_cut e0.hok fun a z x e => by
    obtain ⟨o, q⟩ := hS a z
    rw [e] at q; cases q; exact ⟨_, _, rfl⟩, e0.bare⟩
theorem env0_lend {o : Addr → Obj} (e0 : Env0 P w K mg base A outer s H) (hS : ∀ c, S c → H c = none ∧ s.heap.get? c = some (o c) ∧ c ∉ frs outer) (hB : ∀ c, S c → base.get? c = none) : Env0 P w K mg base A outer s (put (fun a => some (CelO a (o a))) H S) :=
  ⟨e0.frames, e0.mod, fun b x e => ⟨(e0.bs b x e).1, by
    rw [put_out fun z => by rw [hB b z] at e; cases e]; exact (e0.bs b x e).2⟩, e0.bsz, e0.funs, fun b hb => by
    rw [put_out fun z => (hS b z).2.2 hb]; exact e0.frf b hb, fun b x e => by
    by_cases z : S b
    · rw [put_in z] at e; cases e
      exact celO_ok (hS b z).2.1
    · rw [put_out z] at e
      refine (e0.hok b x e).stay (fun _ _ _ q => q) (fun c q => ?_) (fun c xs q => ?_)
      · rw [put_out fun z => by rw [(hS c z).1] at q; cases q]; exact q
      · rw [put_out fun z => by rw [(hS c z).1] at q; cases q]; exact q, e0.bare⟩
end

end
end Ag
namespace Ag
open PySem L2
open C8 (pss_cut tCut)
section
variable {P : Program} {w : World} {K : PySem.W.Frag} {mg : Str → Option Value} {base : Heap} {cs : List (Str × Addr)}
/-! lambdas: the call -/
/-- what data is made of -/
def isDat : HO → Bool
  | .lst _ => true
  | .tup _ => true
  | .dK _ => true
  | .ins _ _ _ => true
  | _ => false
mutual
/-- no function within -/
def noF : D → Bool
  | .tup ds => noFs ds
  | .lst ds => noFs ds
  | .dct _ ds => noFs ds
  | .ins _ fs => noFs fs
  | .lam _ => false
  | .fn _ _ => false
  | .exc _ _ => false
  | .non => true
  | .bl _ => true
  | .int _ => true
  | .str _ => true
def noFs : List D → Bool
  | [] => true
  | d :: ds => noF d && noFs ds
end
section
variable {C : Cl} {M M' : Addr → Prop} {H H' : Hp}
mutual
theorem noF_mono (m : ∀ a o, ¬ M a → H a = some o → isDat o = true → ¬ M' a ∧ H' a = some o) : ∀ (d : D) (v : V), noF d = true → Da K C M H d v → Da K C M' H' d v
  | .non, _, _, h => by unfold Da at *; exact h
  | .bl _, _, _, h => by unfold Da at *; exact h
  | .int _, _, _, h => by unfold Da at *; exact h
  | .str _, _, _, h => by unfold Da at *; exact h
  | .lam _, _, n, _ => by unfold noF at n; cases n
  | .fn _ _, _, n, _ => by unfold noF at n; cases n
  | .exc _ _, _, n, _ => by unfold noF at n; cases n
  | .tup ds, _, n, h => by
    unfold noF at n
    unfold Da at *
    obtain ⟨a, xs, e, h1, h2⟩ := h
    refine ⟨a, xs, e, ?_, noFs_mono m ds xs n h2⟩
    rcases h1 with h1 | h1
    · exact .inl (m _ _ h1.1 h1.2 rfl)
    · exact .inr h1
  | .lst ds, _, n, h => by
    unfold noF at n
    unfold Da at *
    obtain ⟨a, xs, e, nm, h1, h2⟩ := h
    exact ⟨a, xs, e, (m _ _ nm h1 rfl).1, (m _ _ nm h1 rfl).2, noFs_mono m ds xs n h2⟩
  | .dct ks ds, _, n, h => by
    unfold noF at n
    unfold Da at *
    obtain ⟨a, xs, e, nm, h1, hl, h2⟩ := h
    exact ⟨a, xs, e, (m _ _ nm h1 rfl).1, (m _ _ nm h1 rfl).2, hl, noFs_mono m ds xs n h2⟩
  | .ins c fs, _, n, h => by
    unfold noF at n
    unfold Da at *
    obtain ⟨a, dx, xs, e, nm, h1, hl, h2⟩ := h
    exact ⟨a, dx, xs, e, (m _ _ nm h1 rfl).1, (m _ _ nm h1 rfl).2, hl, noFs_mono m fs xs n h2⟩
theorem noFs_mono (m : ∀ a o, ¬ M a → H a = some o → isDat o = true → ¬ M' a ∧ H' a = some o) : ∀ (ds : List D) (vs : List V), noFs ds = true → DaL K C M H ds vs → DaL K C M' H' ds vs
  | [], _, _, h => by unfold DaL at *; exact h
  | d :: ds, _, n, h => by
    unfold noFs at n
    simp only [Bool.and_eq_true] at n
    unfold DaL at *
    obtain ⟨v, r, e, h1, h2⟩ := h
    exact ⟨v, r, e, noF_mono m d v n.1 h1, noFs_mono m ds r n.2 h2⟩
end
end
section
open NdefX (NF ncx envF NScope CellsAt startF inv_startN)
open LamX (CodeO)
/-- a function in hand, called: tl i: what the lambda i does with what it captured -/
def tAct (tl : Nat → DF) : DF := fun ρ R X => ∃ i ds, ρ = [.dat (.fn i ds)] ∧ noFs ds = true ∧ tl i (ds.map .dat) R X
def LamsOk (P : Program) (w : World) (K : PySem.W.Frag) (mg : Str → Option Value) (base : Heap) (C : Cl) (k : Nat) (tl : Nat → DF) : Prop := ∀ (A : Around) (outer : List Env) (s : Shared) (H : Hp) (f : Addr) (Q : VK) (E : XK), Room k A → Env0 P w K mg base A outer s H → spE K C (tAct tl) [.ref f] H Q E →
  PySem.W.FnAt f s.heap ∧ codeAny (model P w) A (.call (.ref f) ⟨[], []⟩) (CR (L2.CX P w) outer P w H s Q E) s
abbrev Lm.nf (l : Lm) (cl : List (Str × Addr)) (c : Addr) : NF := ⟨"<lambda>", l.qual, l.params, [], l.scope, cl, c⟩
theorem XRel.same {C : Cl} {M : Addr → Prop} {H H' : Hp} {x : Xc} {cls : Value} {dc : Option Addr} (s : Same H H') (h : XRel K C M H x cls dc) : XRel K C M H' x cls dc := by
  obtain ⟨e1, d, vs, e2, e3, e4, e5⟩ := h
  exact ⟨e1, d, vs, e2, s _ _ e3, e4, e5.same s⟩
/-- one lambda, by its body -/
theorem lam_run {C : Cl} {i k : Nat} {l : Lm} {N ps : List Str} {vs : List V} {dvs : List D} {tb : DT} {A : Around} {outer : List Env} {s : Shared} {H : Hp} {f : Addr} {Q : VK} {E : XK} {F : Fx} {ds : List D} {R : D → Prop} {X : Xc → Prop}
    (hli : C.lam i = some l) (S : NScope N ps l.fr l.scope) (hN : N = ps ++ l.fr) (hvl : vs.length = ps.length) (hdv : ∀ M H, DaL K C M H dvs vs) (hr : Room (k + 1) A) (e0 : Env0 P w K mg base A outer s H) (er : ER K C F H [some (.ref f)] [.dat (.fn i ds)]) (hnf : noFs ds = true)
    (hbind : ∀ (td : Option Addr) (cl : List (Str × Addr)) (doc pm cv ctv : Value), ((l.dv = none ∧ td = none) ∨ ∃ n t tok, l.dv = some n ∧ td = some t ∧ ∃ o m, s.heap.get? t = some o ∧ o.data = .seq #[.int n tok] m) →
      ∃ us, Vals vs us ∧ BindsTo s (PySem.W.kdv_fn "<lambda>" l.qual l.params (.expr l.body) l.scope cl (dvOf td) doc pm cv ctv) ⟨[], []⟩ (ps.zip us))
    (hbody : ∀ (A : Around) (outer : List Env) (s : Shared) (H : Hp) (E : XK) (cl : List (Str × Addr)) (c : Addr), Room k (A.deeper (envF (l.nf cl c) f s.heap.objs.size)) → PE (ncx (L2.CX P w) P w K mg base N (l.nf cl c) f A outer s H E) l.body (lift ⟨K, C, E⟩ tb))
    (ht : tb (dvs.map .dat ++ ds.map .dat) (fun d _ => R d) (fun x _ => X x))
    (hR : ∀ d v H', R d → FStep F H H' → F.B.Ok F.M H' → Da K C F.M H' d v → Q v H') (hX : ∀ x cls dc H', X x → FStep F H H' → F.B.Ok F.M H' → XRel K C F.M H' x cls dc → E cls dc H') :
    PySem.W.FnAt f s.heap ∧ codeAny (model P w) A (.call (.ref f) ⟨[], []⟩) (CR (L2.CX P w) outer P w H s Q E) s := by
  obtain ⟨v0, hv0, x0, ev0, hfn⟩ := er.at (i := 0) (s := .dat (.fn i ds)) rfl
  simp at hv0
  subst hv0
  cases ev0
  have mF : ∀ a, F.M a → MM F [some (V.ref f)] [.dat (.fn i ds)] a := fun a z => .inl z
  unfold Da at hfn
  obtain ⟨f', c, td, l', cl, xs, ef, el, nf, hf, nc, hc, hdf, hcl, hds⟩ := hfn
  cases ef
  rw [hli] at el; cases el
  obtain ⟨od, sl, doc, pm, ctv, ho⟩ := lamO_at e0.hok hf
  refine ⟨⟨_, _, _, _, ho⟩, ?_⟩
  -- the cells
  let Sc : Addr → Prop := fun a => ∃ y, cl.lookup y = some a
  have cell : ∀ a, Sc a → ∃ o u, H a = some (CelO a o) ∧ o.data = .cell (some u) ∧ ¬ MM F [some (V.ref f)] [.dat (.fn i ds)] a := fun a ⟨y, e⟩ => by
    obtain ⟨j, hj⟩ := List.mem_iff_getElem?.mp (hcl.all y a e)
    have hjl : j < xs.length := by rw [← hcl.len]; exact (List.getElem?_eq_some_iff.mp hj).1
    obtain ⟨c', o, u, q1, q2, q3, q4, q5⟩ := hcl.has j y xs[j] hj (List.getElem?_eq_getElem hjl)
    rw [e] at q1; cases q1
    exact ⟨o, u, q3, q4, q2⟩
  have hS : ∀ a, Sc a → ∃ o, H a = some (CelO a o) := fun a z => let ⟨o, u, e, _⟩ := cell a z; ⟨o, e⟩
  have e0c := env0_cut (S := Sc) e0 hS
  have notX : ∀ a o, H a = some o → (∀ x y, o ≠ .frz x y) → ¬ Sc a := fun a o e n z => by
    obtain ⟨o', e'⟩ := hS a z
    rw [e] at e'; cases e'; exact n _ _ rfl
  have notC : ∀ a q, H a = some (CodeO a q) → ¬ Sc a := fun a q e => notX a _ e fun x y z => by unfold CodeO at z; cases z
  have CA : CellsAt cl l.fr (xs.map some) s.heap (cut H Sc) := by
    refine ⟨by rw [List.length_map]; exact hcl.len.symm, fun y a e => ?_, hcl.inj, fun j y hj => ?_⟩
    · obtain ⟨o, u, e1, e2, _⟩ := cell a ⟨y, e⟩
      exact ⟨cut_in ⟨y, e⟩, _, o, celO_at e0.hok e1, e2⟩
    · have hjl : j < xs.length := by rw [← hcl.len]; exact (List.getElem?_eq_some_iff.mp hj).1
      obtain ⟨c', o, u, q1, q2, q3, q4, q5⟩ := hcl.has j y xs[j] hj (List.getElem?_eq_getElem hjl)
      refine ⟨c', q1, fun v hv => ?_⟩
      rw [List.getElem?_map, List.getElem?_eq_getElem hjl] at hv
      cases hv
      exact ⟨u, q5, o, celO_at e0.hok q3, q4⟩
  -- the captured data
  have no2 : ∀ s ∈ (dvs.map SV.dat ++ ds.map SV.dat), isOwn s = false := fun s hs => by
    rcases List.mem_append.mp hs with h | h <;> (obtain ⟨d, _, rfl⟩ := List.mem_map.mp h; rfl)
  have hst : startF N vs (xs.map some) = (vs ++ xs).map some := by
    unfold startF
    have q : N.length - vs.length - (xs.map some).length = 0 := by rw [hN, List.length_append, List.length_map, hcl.len, hvl]; omega
    rw [q, List.map_append]; simp
  have dcut : DaL K C F.M (cut H Sc) ds xs := noFs_mono (fun a o n e hx => ⟨fun z => n (.inl z), by rw [cut_out (notX a o e fun _ _ z => by subst z; cases hx)]; exact e⟩) ds xs hnf hds
  have ag : ArgL K C F F.M (cut H Sc) (dvs.map .dat ++ ds.map .dat) (vs ++ xs) := ArgL.append (ArgL.ofDats (hdv _ _)) (ArgL.ofDats dcut)
  have okc : F.B.Ok F.M (cut H Sc) := by
    refine ⟨fun b c e => ?_, fun p hp => ?_⟩
    · obtain ⟨ns, j, big, seed, cnt, g1, g2, r⟩ := er.bag.ok.bag b c e
      exact ⟨ns, j, big, seed, cnt, by rw [cut_out (notX _ _ g1 fun _ _ z => nomatch z)]; exact g1, by rw [cut_out (notX _ _ g2 fun _ _ z => nomatch z)]; exact g2, r⟩
    · obtain ⟨qs, g1, g2, g3⟩ := er.bag.ok.tab p hp
      refine ⟨qs, by rw [cut_out (notX _ _ g1 fun _ _ z => nomatch z)]; exact g1, g2, fun pos cv h => ?_⟩
      obtain ⟨c1, k1, k2, k3⟩ := g3 pos cv h
      exact ⟨c1, k1, k2, by rw [cut_out (notC _ _ k3)]; exact k3⟩
  have erc : ER K C F (cut H Sc) ((vs ++ xs).map some) (dvs.map .dat ++ ds.map .dat) := by
    refine er_of ag ⟨⟨okc, er.bag.ex, er.bag.cm⟩, er.tb⟩ fun a z => ?_
    obtain ⟨o, e⟩ := er.there a z
    refine ⟨o, ?_⟩
    rw [cut_out fun q => let ⟨_, _, _, _, n⟩ := cell a q; n (.inl z)]
    exact e
  have no3 : ∀ a, ¬ Own ((vs ++ xs).map some) (dvs.map SV.dat ++ ds.map SV.dat) a := noOwn no2
  -- the run
  obtain ⟨us, rv, hb⟩ := hbind td cl doc pm (.ref c) ctv (by
    rcases hdf with h | ⟨n, t, h1, h2, h3, h4⟩
    · exact .inl h
    · obtain ⟨_, its, rv, o, g1, g2, m, g3⟩ := e0.hok t _ h4
      obtain ⟨u1, rfl, tok, rfl⟩ := vals1 rv
      exact .inr ⟨n, t, tok, h1, h2, o, m, g1, g3⟩)
  have lim : s.heap.NoLimit := e0.mod.nolimit.keeps fun b o e => (e0.bs b o e).1
  obtain ⟨⟨oc, ovs, ot, g1, g2, g3⟩, _, _⟩ := e0.hok c _ hc
  let Q' : VK := fun v H' => ∃ d, R d ∧ FStep F (cut H Sc) H' ∧ F.B.Ok F.M H' ∧ Da K C F.M H' d v
  let E' : XK := fun cls dc H' => ∃ x, X x ∧ FStep F (cut H Sc) H' ∧ F.B.Ok F.M H' ∧ XRel K C F.M H' x cls dc
  have rc : codeAny (model P w) A (.call (.ref f) ⟨[], []⟩) (CR (L2.CX P w) outer P w (cut H Sc) s Q' E') s := by
    refine PySem.W.kla_callFunE hr.depth ho rfl S.co S.gen rfl ⟨c, oc, ovs, ot, rfl, g1, g2, g3⟩ (hb _ _ _ _ ?_)
    refine wpAny_newFunctionEnv S.nocell (fun ⟨n, _⟩ hy => S.par n (List.of_mem_zip hy).1) (fun h₁ hns hsb => ⟨lim.fresh _ hsb, ?_⟩) S.kind
    show codeAny _ _ (.expr l.body (envF (l.nf cl c) f s.heap.objs.size)) _ _
    have kp : ∀ b o, s.heap.get? b = some o → h₁.get? b = some o := fun b o e => hsb.extBut b o (Nat.ne_of_lt (Heap.lt_size e)) (Heap.get?_push_of_some _ e)
    have I : Inv (ncx (L2.CX P w) P w K mg base N (l.nf cl c) f A outer s (cut H Sc) E') [] (startF N vs (xs.map some)) (cut H Sc) { s with heap := h₁, toks := s.toks + (ps.zip us).length } := inv_startN S hr.hd e0c hvl rv CA hns kp
    rw [hst] at I
    refine PySem.W.kla_codeExpr (wpAny_mono ((hbody A outer s (cut H Sc) E' cl c (hr.deeper _)).run [] _ _ _ Q' I ⟨F, _, _, _, erc, ht, fun d ρ' v H' hr' st er' da => ?_, fun x ρ' H' cls dc hx st er' xr => ?_⟩) (fun v s' hq => ?_) fun e s' hq => hq)
    · exact ⟨d, hr', fun a o e nb => (st a o e (no3 a) nb).1, er'.bag.ok, da.weak fun a z => .inl z⟩
    · obtain ⟨k1, k2, k3, k4, k5, k6, k7⟩ := xr
      exact ⟨x, hx, fun a o e nb => (st a o e (no3 a) nb).1, er'.bag.ok, ⟨k1, k2, k3, k4, k5, k6, k7.weak fun a z => .inl z⟩⟩
    · obtain ⟨w', H', J', rv', q⟩ := hq
      exact ⟨w', H', J'.os, J'.bare, J'.base, J'.hok, rv', q⟩
  have stp : ∀ {H' : Hp}, (∀ a, Sc a → H' a = none) → FStep F (cut H Sc) H' → FStep F H (put H H' Sc) ∧ Same H' (put H H' Sc) := fun {H'} h0 fs => by
    refine ⟨fun a o e nb => ?_, fun a o e => ?_⟩
    · by_cases z : Sc a
      · rw [put_in z]; exact e
      · rw [put_out z]; exact fs a o (by rw [cut_out z]; exact e) nb
    · rw [put_out fun z => by rw [h0 a z] at e; cases e]; exact e
  refine codeAny_mono rc fun r s' hq => ?_
  cases r with
  | error e =>
    refine cx_uncut e0 hS (show L2.CX P w outer (cut H Sc) s E' e s' from hq) fun cls d H' h0 ⟨x, hx, fs, bo, xr⟩ => ?_
    obtain ⟨f1, sm⟩ := stp h0 fs
    exact hX x cls d _ hx f1 (bo.same sm) (xr.same sm)
  | ok fl =>
    cases fl with
    | ret u =>
      refine ce_uncut e0 hS (show CE outer P w (cut H Sc) s Q' u s' from hq) fun v H' h0 ⟨d, hd, fs, bo, da⟩ => ?_
      obtain ⟨f1, sm⟩ := stp h0 fs
      exact hR d v _ hd f1 (bo.same sm) (da.same sm)
    | next => exact False.elim hq
    | brk => exact False.elim hq
    | cont => exact False.elim hq
end

end
end Ag
namespace Ag
open PySem L2
open C8 (pss_cut tCut)
section
variable {P : Program} {w : World} {K : PySem.W.Frag} {mg : Str → Option Value} {base : Heap} {cs : List (Str × Addr)}
/-! a call that is lent the cells of the running frame -/
section
open LamX (CodeO)
open NdefX (clo_cm clo_has)
def csOf (cells : List (Str × Addr)) (jy : List (Nat × Str)) : List (Nat × Addr) := jy.filterMap fun p => (cells.lookup p.2).map fun c => (p.1, c)
theorem csOf_mem {cells : List (Str × Addr)} {jy : List (Nat × Str)} {j : Nat} {c : Addr} : (j, c) ∈ csOf cells jy ↔ ∃ y, (j, y) ∈ jy ∧ cells.lookup y = some c := by
  unfold csOf
  rw [List.mem_filterMap]
  constructor
  · rintro ⟨⟨j', y⟩, h, e⟩
    cases q : cells.lookup y with
    | none => simp [q] at e
    | some c' =>
      simp [q] at e
      obtain ⟨rfl, rfl⟩ := e
      exact ⟨y, h, q⟩
  · rintro ⟨y, h, e⟩
    exact ⟨(j, y), h, by simp [e]⟩
def inC (cells : List (Str × Addr)) (jy : List (Nat × Str)) : Addr → Prop := fun a => ∃ j y, (j, y) ∈ jy ∧ cells.lookup y = some a
def tCallL (P : Program) (w : World) (sp : Sp) (cells : List (Str × Addr)) (jy : List (Nat × Str)) (ta : TA) : TE := fun σ H Q => ta σ H fun vs H1 => ∀ o : Addr → Obj,
  (∀ x y c, cells.lookup x = some c → cells.lookup y = some c → x = y) → (∀ p ∈ jy, ∃ c, cells.lookup p.2 = some c) → (∀ a, inC cells jy a → H1 a = none) →
  (∀ j y c v, (j, y) ∈ jy → cells.lookup y = some c → σ[j]? = some (some v) → ∃ u, RelV v u ∧ (o c).data = .cell (some u)) → (∀ a, inC cells jy a → ∃ z, (o a).data = .cell z) →
  sp vs (put (fun a => some (CelO a (o a))) H1 (inC cells jy)) (fun v H' => (∀ a, inC cells jy a → H' a = some (CelO a (o a))) ∧ ∀ h, HOk P w H' h → Q v (cut H' (inC cells jy))) E0
theorem pe_callL {X : Cx} {k : Nat} {f : Addr} {fd : FuncData} {ps : List Str} {sp : Sp} {x : Str} {q pos : Pos} {e : Expr} {es : List Expr} {t : TA} {jy : List (Nat × Str)} (F : FnOk X.prog X.w X.K X.mg X.base CX0 k f fd ps sp) (hr : Room k X.A)
    (hj : ∀ p ∈ jy, X.N[p.1]? = some p.2 ∧ X.env.kindOf p.2 = some .cell) (hfn : ∀ y, X.fn y = true) (hg : Gl X x) (hm : X.mg x = some (.ref f)) (hk : PySem.W.keepIn X.K (.ref f) = true) (hb : Binds X.K fd ps []) (ha : PA X (e :: es) t)
    (hdb : (x == ("__debug__" : Str)) = false := by decide) (he : starEach (e :: es) X.env = (false, eval e X.env) :: starEach es X.env := by rfl) (hpl : (backTo pos (starEach es X.env)).any (·.1) = false := by rfl) :
    PE X (.Call (.Name x q) (e :: es) [] pos) (tCallL X.prog X.w sp X.env.cells jy t) := by
  refine ⟨fun pins s σ H Q I h => ?_⟩
  refine wpAny_Call_Name_kw (ld_glob I hg hm ?_ hdb)
  refine PySem.W.callWith_K (h₀ := X.base) I.ok.mod.kin hk (thn (ha.run pos pins s σ H _ I h) fun us s1 ⟨vs, H1, I1, r, q⟩ => ⟨I1.kIn, ?_⟩) he hpl
  have cel : ∀ y c, X.env.cells.lookup y = some c → ∃ ob z, s1.heap.get? c = some ob ∧ ob.data = .cell z ∧ H1 c = none ∧ X.s_0.heap.objs.size ≤ c := fun y c e => by
    obtain ⟨z, ob, h1, h2⟩ := I1.cell y c e
    exact ⟨ob, z, h1, h2, I1.freeC y c e, I1.ok.cab y c (hfn y) e⟩
  let o : Addr → Obj := fun a => (s1.heap.get? a).getD { cls := .none, data := .plain }
  have ho : ∀ y c, X.env.cells.lookup y = some c → s1.heap.get? c = some (o c) := fun y c e => by
    obtain ⟨ob, z, h1, _⟩ := cel y c e
    show s1.heap.get? c = some ((s1.heap.get? c).getD _)
    rw [h1]; rfl
  have nfr : ∀ y c, X.env.cells.lookup y = some c → c ∉ frs X.stack := fun y c e hb => by
    rcases List.mem_cons.mp (I1.stkSub c hb) with z | z
    · exact I1.cne y c e z
    · obtain ⟨_, ob, hob, _⟩ := I1.ok.funs.mem z
      obtain ⟨_, _, _, _, _, hge⟩ := cel y c e
      exact absurd (Nat.lt_of_lt_of_le (Heap.lt_size hob) hge) (Nat.lt_irrefl _)
  have hS : ∀ a, inC X.env.cells jy a → H1 a = none ∧ s1.heap.get? a = some (o a) ∧ a ∉ frs X.stack := fun a ⟨j, y, _, e⟩ => by
    obtain ⟨ob, z, _, _, n, _⟩ := cel y a e
    exact ⟨n, ho y a e, nfr y a e⟩
  have hB : ∀ a, inC X.env.cells jy a → X.base.get? a = none := fun a ⟨j, y, _, e⟩ => by
    obtain ⟨ob, z, _, _, _, hge⟩ := cel y a e
    cases q : X.base.get? a with
    | none => rfl
    | some ob' => exact absurd (Nat.lt_of_lt_of_le (Heap.lt_size (I1.ok.bs a ob' q).1) hge) (Nat.lt_irrefl _)
  have h2 := q o I1.ok.inj (fun p hp => I1.ok.has p.2 (.inl (hj p hp).2)) (fun a z => (hS a z).1) (fun j y c v hy e hv => ?_) (fun a ⟨j, y, _, e⟩ => ?_)
  · have hl : us.length = ps.length := by rw [← r.length]; exact F.len _ _ _ _ h2
    have b := hb s1 us I1.kIn (by rw [List.append_nil]; exact hl)
    rw [List.append_nil] at b
    refine wpAny_call (codeAny_mono (F.run X.A X.stack s1 _ ⟨us, []⟩ us vs _ _ hr (env0_lend I1.env0 hS hB) b r h2) fun rr s' hq => ?_)
    cases rr with
    | error e => exact (show False from hq).elim
    | ok fl =>
      cases fl with
      | ret u => exact I1.after (ce_unlend hS hq fun v H' hok ⟨z1, z2⟩ => ⟨z1, z2 _ hok⟩)
      | next => exact False.elim hq
      | brk => exact False.elim hq
      | cont => exact False.elim hq
  · obtain ⟨m, hn, hl⟩ := I1.loc
    obtain ⟨u, ru, lk⟩ := hl j y v (hj _ hy).1 hv (.inr (.inl (hj _ hy).2))
    refine ⟨u, ru, ?_⟩
    rcases lk with ⟨k1, _⟩ | ⟨_, c', e', z⟩
    · rw [(hj _ hy).2] at k1; cases k1
    · rw [e] at e'; cases e'
      obtain ⟨ob, h3, h4⟩ := z
      have h5 := ho y c e
      rw [h3] at h5; cases h5
      exact h4
  · obtain ⟨ob, z, h3, h4, _⟩ := cel y a e
    have h5 := ho y a e
    rw [h3] at h5; cases h5
    exact ⟨z, h4⟩
/-! over data -/
def capD (ρ : En) : List Nat → Option (List D)
  | [] => some []
  | j :: js => match ρ[j]? with
    | some (.dat d) => (capD ρ js).map (d :: ·)
    | _ => none
def lend1 (caps : Nat → List Nat) (ρ : En) : D → Option D
  | .lam i => (capD ρ (caps i)).bind fun ds => if noFs ds then some (.fn i ds) else none
  | d => if noF d then some d else none
def lendL (caps : Nat → List Nat) (ρ : En) : List D → Option (List D)
  | [] => some []
  | d :: ds => (lend1 caps ρ d).bind fun x => (lendL caps ρ ds).map (x :: ·)
def lendA (caps : Nat → List Nat) (ρ : En) : D → Option D
  | .lst ds => (lendL caps ρ ds).map .lst
  | d => lend1 caps ρ d
def dCallL (caps : Nat → List Nat) (t : DF) (ta : DG En) : DT := fun ρ R X => ta ρ (fun as ρ1 => ∃ d d', as = [.dat d] ∧ lendA caps ρ1 d = some d' ∧ t [.dat d'] (fun z => noF z = true ∧ R z ρ1) (fun _ => False)) X
/-- the written lambdas and what they capture -/
structure LamSt (lam : Nat → Option Lm) (jy : List (Nat × Str)) (caps : Nat → List Nat) : Prop where
  fr1 : ∀ i l, lam i = some l → ∀ y ∈ l.scope.names, y.2 = .free → y.1 ∈ l.fr
  fr2 : ∀ i l, lam i = some l → ∀ y ∈ l.fr, (y, NameKind.free) ∈ l.scope.names
  len : ∀ i l, lam i = some l → l.fr.length = (caps i).length
  cap : ∀ i l, lam i = some l → ∀ (n : Nat) (y : Str) (j : Nat), l.fr[n]? = some y → (caps i)[n]? = some j → (j, y) ∈ jy
section
variable {L : Lx} {F : Fx} {H H' : Hp} {σ σ' : St} {ρ ρ' : En}
theorem capD_at (er : ER L.K L.C F H σ ρ) : ∀ {js : List Nat} {ds : List D}, capD ρ js = some ds → ∃ xs, DaL L.K L.C (MM F σ ρ) H ds xs ∧ xs.length = js.length ∧ ∀ (n : Nat) (j : Nat) (x : V), js[n]? = some j → xs[n]? = some x → σ[j]? = some (some x)
  | [], ds, e => by unfold capD at e; cases e; exact ⟨[], DaL.nil, rfl, fun n j x h => by simp at h⟩
  | j :: js, ds, e => by
    unfold capD at e
    cases q : ρ[j]? with
    | none => rw [q] at e; cases e
    | some s =>
      rw [q] at e
      cases s with
      | dat d =>
        simp only [] at e
        cases q2 : capD ρ js with
        | none => rw [q2] at e; cases e
        | some es =>
          rw [q2] at e; cases e
          obtain ⟨xs, h1, h2, h3⟩ := capD_at er q2
          obtain ⟨v, hv, x, rfl, hx⟩ := er.at q
          refine ⟨x :: xs, DaL.cons hx h1, by simp [h2], fun n j' y e1 e2 => ?_⟩
          cases n with
          | zero => simp at e1 e2; subst e1 e2; exact hv
          | succ n => exact h3 n j' y (by simpa using e1) (by simpa using e2)
      | _ => cases e
/-- a lambda, lent -/
theorem lend1_at {jy : List (Nat × Str)} {caps : Nat → List Nat} (LS : LamSt L.C.lam jy caps) (er : ER L.K L.C F H σ ρ) {o : Addr → Obj} (hinj : ∀ x y c, L.C.cs.lookup x = some c → L.C.cs.lookup y = some c → x = y) (hhas : ∀ p ∈ jy, ∃ c, L.C.cs.lookup p.2 = some c) (hn : ∀ a, inC L.C.cs jy a → H a = none)
    (hv : ∀ j y c v, (j, y) ∈ jy → L.C.cs.lookup y = some c → σ[j]? = some (some v) → ∃ u, RelV v u ∧ (o c).data = .cell (some u)) {d d' : D} {v : V} (e : lend1 caps ρ d = some d') (h : Da L.K L.C (MM F σ ρ) H d v) :
    Da L.K L.C (MM F σ ρ) (put (fun a => some (CelO a (o a))) H (inC L.C.cs jy)) d' v := by
  have sm : Same H (put (fun a => some (CelO a (o a))) H (inC L.C.cs jy)) := fun a x q => by rw [put_out fun z => by rw [hn a z] at q; cases q]; exact q
  unfold lend1 at e
  split at e
  · rename_i i
    cases q : capD ρ (caps i) with
    | none => rw [q] at e; cases e
    | some ds =>
      rw [q] at e
      have e : (if noFs ds = true then some (D.fn i ds) else none) = some d' := e
      split at e
      · cases e
        obtain ⟨xs, h1, h2, h3⟩ := capD_at er q
        unfold Da at h
        obtain ⟨f, c, td, l, e1, e2, n1, g1, n2, g2, g3⟩ := h
        have hfree : ∀ y ∈ l.scope.names, y.2 = .free → ∃ c, L.C.cs.lookup y.1 = some c := fun y hy ey => by
          obtain ⟨n, hn'⟩ := List.mem_iff_getElem?.mp (LS.fr1 i l e2 y hy ey)
          have hlt : n < (caps i).length := by rw [← LS.len i l e2]; exact (List.getElem?_eq_some_iff.mp hn').1
          exact hhas _ (LS.cap i l e2 n y.1 _ hn' (List.getElem?_eq_getElem hlt))
        unfold Da
        refine ⟨f, c, td, l, cloFrom L.C.cs l.scope.names [], xs, e1, e2, n1, sm _ _ g1, n2, sm _ _ g2, g3.mono fun a x n q => ⟨n, sm a x q⟩, ⟨by rw [LS.len i l e2, h2], fun x y c' q1 q2 => hinj x y c' (clo_cm hfree q1) (clo_cm hfree q2), fun y c' q1 => ?_, fun n y x q1 q2 => ?_⟩, h1.same sm⟩
        · rcases cloFrom_mem (PySem.mem_of_lookup q1) with hm | ⟨hm, _⟩
          · cases hm
          · exact LS.fr1 i l e2 _ hm rfl
        · have hlt : n < (caps i).length := by rw [← LS.len i l e2]; exact (List.getElem?_eq_some_iff.mp q1).1
          have hj := List.getElem?_eq_getElem hlt
          have hjy := LS.cap i l e2 n y _ q1 hj
          obtain ⟨c', hc'⟩ := hhas _ hjy
          obtain ⟨u, ru, hu⟩ := hv _ y c' x hjy hc' (h3 n _ x hj q2)
          exact ⟨c', o c', u, clo_has hfree (LS.fr2 i l e2 y (List.mem_of_getElem? q1)) hc', er.newMM (hn c' ⟨_, y, hjy, hc'⟩), by rw [put_in ⟨_, y, hjy, hc'⟩], hu, ru⟩
      · cases e
  · split at e
    · cases e; exact h.same sm
    · cases e
theorem lendL_at {jy : List (Nat × Str)} {caps : Nat → List Nat} (LS : LamSt L.C.lam jy caps) (er : ER L.K L.C F H σ ρ) {o : Addr → Obj} (hinj : ∀ x y c, L.C.cs.lookup x = some c → L.C.cs.lookup y = some c → x = y) (hhas : ∀ p ∈ jy, ∃ c, L.C.cs.lookup p.2 = some c) (hn : ∀ a, inC L.C.cs jy a → H a = none)
    (hv : ∀ j y c v, (j, y) ∈ jy → L.C.cs.lookup y = some c → σ[j]? = some (some v) → ∃ u, RelV v u ∧ (o c).data = .cell (some u)) : ∀ {ds ds' : List D} {vs : List V}, lendL caps ρ ds = some ds' → DaL L.K L.C (MM F σ ρ) H ds vs →
    DaL L.K L.C (MM F σ ρ) (put (fun a => some (CelO a (o a))) H (inC L.C.cs jy)) ds' vs
  | [], ds', vs, e, h => by unfold lendL at e; cases e; unfold DaL at *; exact h
  | d :: ds, ds', vs, e, h => by
    unfold lendL at e
    cases q : lend1 caps ρ d with
    | none => rw [q] at e; cases e
    | some x =>
      rw [q] at e
      cases q2 : lendL caps ρ ds with
      | none => rw [q2] at e; cases e
      | some xs =>
        rw [q2] at e; cases e
        unfold DaL at h
        obtain ⟨v, r, rfl, h1, h2⟩ := h
        exact DaL.cons (lend1_at LS er hinj hhas hn hv q h1) (lendL_at LS er hinj hhas hn hv q2 h2)
theorem r_callL {jy : List (Nat × Str)} {caps : Nat → List Nat} {t : DF} {ta : DG En} {cells : List (Str × Addr)} (LS : LamSt L.C.lam jy caps) (hcs : L.C.cs = cells) : ∀ σ H Q, lift L (dCallL caps t ta) σ H Q → tCallL P w (spE L.K L.C t) cells jy (liftA L ta) σ H Q := by
  subst hcs
  rintro σ H Q ⟨F, ρ, R, X, er, ht, hR, hX⟩
  refine ⟨F, ρ, _, X, er, ht, fun as ρ1 vs H1 h1 st1 er1 da => ?_, hX⟩
  intro o hinj hhas hn hv hcell
  obtain ⟨d, d', rfl, el, ht'⟩ := h1
  have sm : Same H1 (put (fun a => some (CelO a (o a))) H1 (inC L.C.cs jy)) := fun a x q => by rw [put_out fun z => by rw [hn a z] at q; cases q]; exact q
  obtain ⟨v, rfl, hda⟩ := (ArgL.dats da (by rfl)).one
  have hd' : Da L.K L.C (MM F σ ρ1) (put (fun a => some (CelO a (o a))) H1 (inC L.C.cs jy)) d' v := by
    unfold lendA at el
    split at el
    · rename_i ds
      cases q : lendL caps ρ1 ds with
      | none => rw [q] at el; cases el
      | some ds' =>
        rw [q] at el; cases el
        unfold Da at hda ⊢
        obtain ⟨a, xs, e, n, g1, g2⟩ := hda
        exact ⟨a, xs, e, n, sm _ _ g1, lendL_at LS er1 hinj hhas hn hv q g2⟩
    · exact lend1_at LS er1 hinj hhas hn hv el hda
  have er2 := er1.same sm
  have ag : ArgL L.K L.C F (MM F σ ρ1) (put (fun a => some (CelO a (o a))) H1 (inC L.C.cs jy)) [.dat d'] [v] := by
    unfold ArgL
    exact ⟨v, [], rfl, rfl, (fun z => nomatch z), ⟨v, rfl, hd'⟩, by unfold ArgL; rfl⟩
  refine ⟨⟨MM F σ ρ1, F.B, F.A⟩, _, _, _, er2.callee ag, ag.slots.2.1, ht', fun z y H' hz fs hb dd => ?_, fun x cls dc H' hx => hx.elim⟩
  have keep : ∀ a, inC L.C.cs jy a → H' a = some (CelO a (o a)) := fun a za => fs a _ (by rw [put_in za]) (er2.bag.off fun z => er1.newMM (hn a za) (.inl z))
  refine ⟨keep, fun h hok => ?_⟩
  have fs2 : FStep F H1 (cut H' (inC L.C.cs jy)) := fun a x e nb => by
    rw [cut_out fun z => by rw [hn a z] at e; cases e]
    exact fs a x (sm a x e) nb
  have nX : ∀ a x, H' a = some x → (∀ y z, x ≠ .frz y z) → ¬ inC L.C.cs jy a := fun a x e n z => by
    rw [keep a z] at e; cases e; exact n _ _ rfl
  have hb2 : F.B.Ok F.M (cut H' (inC L.C.cs jy)) := by
    refine ⟨fun b c e => ?_, fun p hp => ?_⟩
    · obtain ⟨ns, j, big, seed, cnt, g1, g2, r⟩ := hb.bag b c e
      exact ⟨ns, j, big, seed, cnt, by rw [cut_out (nX _ _ g1 fun _ _ z => nomatch z)]; exact g1, by rw [cut_out (nX _ _ g2 fun _ _ z => nomatch z)]; exact g2, r⟩
    · obtain ⟨qs, g1, g2, g3⟩ := hb.tab p hp
      refine ⟨qs, by rw [cut_out (nX _ _ g1 fun _ _ z => nomatch z)]; exact g1, g2, fun pos cv hc => ?_⟩
      obtain ⟨c1, k1, k2, k3⟩ := g3 pos cv hc
      refine ⟨c1, k1, fun z => k2 (.inl z), ?_⟩
      rw [cut_out (nX _ _ k3 fun x y z => by unfold CodeO at z; cases z)]
      exact k3
  obtain ⟨st3, er3⟩ := er1.fstep (H' := cut H' (inC L.C.cs jy)) fs2 hb2
  exact hR z ρ1 y _ hz.2 (st1.trans st3) er3 (noF_mono (fun a x n e hx => ⟨n, by rw [cut_out (nX a x e fun _ _ z => by subst z; cases hx)]; exact e⟩) z y hz.1 dd)
/-! a lambda, written -/
def dLam (i : Nat) : DT := fun ρ R _ => R (.lam i) ρ
theorem r_lam {i : Nat} {l : Lm} {Pt : Addr} {cells : List (Str × Addr)} (hl : L.C.lam i = some l) (hcs : L.C.cs = cells) (hP : ∃ nm, (Pt, nm) ∈ L.C.tab) : ∀ σ H Q, lift L (dLam i) σ H Q → tLm L.C.tab Pt l cells σ H Q := by
  subst hcs
  rintro σ H Q ⟨F, ρ, R, X, er, ht, hR, hX⟩
  have ok2 : F.B.Ok (MM F σ ρ) H := er.bag.ok.more fun a φ z e => z.elim id fun q => (er.ownX q e).elim
  refine ⟨MM F σ ρ, fun p hp => ok2.tab p (by rw [er.tb]; exact hp), fun a e => er.newMM e, fun f c td H1 st T1 f0 f1 m1 c1 hdf => ?_⟩
  have exP : F.B.Ex Pt := by
    obtain ⟨nm, h⟩ := hP
    exact .inr ⟨(Pt, nm), by rw [er.tb]; exact h, rfl⟩
  have nPt : ∀ a, ¬ F.B.Ex a → a ≠ Pt := fun a n z => n (z ▸ exP)
  have fs : FStep F H H1 := fun a o e nb => st a o e (nPt a nb)
  have hb : F.B.Ok F.M H1 := by
    refine ⟨fun b c' e => ?_, fun p hp => ?_⟩
    · obtain ⟨ns, j, big, seed, cnt, g1, g2, r⟩ := er.bag.ok.bag b c' e
      obtain ⟨nm, hnm⟩ := hP
      obtain ⟨qs, q1, _⟩ := er.bag.ok.tab (Pt, nm) (by rw [er.tb]; exact hnm)
      exact ⟨ns, j, big, seed, cnt, st _ _ g1 (fun z => by rw [z, q1] at g1; cases g1), st _ _ g2 (fun z => by rw [z, q1] at g2; cases g2), r⟩
    · exact (T1 p (by rw [← er.tb]; exact hp)).mono (fun _ e => e) fun a φ n e => ⟨fun z => n (.inl z), e⟩
  obtain ⟨st2, er2⟩ := er.fstep (H' := H1) fs hb
  refine hR _ ρ _ H1 ht st2 er2 ?_
  unfold rD Da
  exact ⟨f, c, td, l, rfl, hl, er.newMM f0, f1, m1, c1, hdf⟩
end
end

end
end Ag
namespace Ag
open PySem L2
open C8 (pss_cut tCut)
section
variable {P : Program} {w : World} {K : PySem.W.Frag} {mg : Str → Option Value} {base : Heap} {cs : List (Str × Addr)}
/-! defs that may be called within an except suite -/
section
open L2H (RoomH)
def cxQ (P : Program) (w : World) (K : PySem.W.Frag) (mg : Str → Option Value) (base : Heap) (N : List Str) (qual : Str) (scope : Scope) (f : Addr) (cd : Value) (A : Around) (outer : List Env) (s : Shared) (H : Hp) (E : XK) : Cx :=
  { cxOf CX0 P w K mg base N qual scope f cd A outer s H E with calm := false }
theorem inv_startQ {N ps : List Str} {qual : Str} {scope : Scope} {f : Addr} {cd : Value} {A : Around} {outer : List Env} {s s1 : Shared} {H : Hp} {E : XK} {us : List Value} {vs : List V}
    (S : FnScope N ps scope) (e0 : Env0 P w K mg base A outer s H) (hl : vs.length = ps.length) (r : Vals vs us)
    (x : InCallC s s.heap.objs.size (bindL (PyProof.Rows.envOfC qual scope s.heap.objs.size f cd).kindOf (ps.zip us) fun _ => none) (cellsFrom (s.heap.objs.size + 1) scope.names []) (bindC (PyProof.Rows.envOfC qual scope s.heap.objs.size f cd).kindOf (ps.zip us) fun _ => none) s1) :
    Inv (cxQ P w K mg base N qual scope f cd A outer s H E) [] (L2.start N vs) H s1 := by
  have e1 : Env0 P w K mg base { A with handled := none } outer s H := ⟨e0.frames, e0.mod, e0.bs, e0.bsz, e0.funs, e0.frf, e0.hok, e0.bare⟩
  have J := inv_start (CX := CX0) (A := { A with handled := none }) (E := E) S rfl e1 hl r x
  have o := J.ok
  exact ⟨⟨o.mod, o.kind, o.glob, o.blt, o.above, o.inj, o.has, o.cab, (fun z => Bool.noConfusion (show false = true from z)), Around.frames_deeper e0.frames, .inr ⟨rfl, rfl⟩, o.exf, o.bs, o.bsz, o.noex, o.exfs, o.funs, o.frf⟩, J.os, J.bare, J.base, J.loc, J.cell, J.free, J.freeC, J.pin, J.hok, J.len⟩
structure FnQ (P : Program) (w : World) (K : PySem.W.Frag) (mg : Str → Option Value) (base : Heap) (k : Nat) (f : Addr) (fd : FuncData) (ps : List Str) (sp : Sp) : Prop where
  len : ∀ vs H Q E, sp vs H Q E → vs.length = ps.length
  run : ∀ (A : Around) (outer : List Env) (s : Shared) (H : Hp) (args : Args) (us : List Value) (vs : List V) (Q : VK) (E : XK), RoomH k A → Env0 P w K mg base A outer s H → BindsTo s fd args (ps.zip us) → Vals vs us → sp vs H Q E →
    codeAny (model P w) A (.call (.ref f) args) (CR CX0 outer P w H s Q E) s
theorem FnQ.ok {k : Nat} {f : Addr} {fd : FuncData} {ps : List Str} {sp : Sp} (F : FnQ P w K mg base k f fd ps sp) : FnOk P w K mg base CX0 k f fd ps sp := ⟨F.len, fun A outer s H args us vs Q E hr => F.run A outer s H args us vs Q E (L2H.roomH_of hr)⟩
theorem fn_ofQ {k : Nat} {f : Addr} {name qual : Str} {params : Arguments} {body : List Stmt} {scope : Scope} {dV kV doc pm cdv ct oc : Value} {an od : Option Addr}
    {osl : Array (Option Value)} {N ps : List Str} {sp : Sp} (lk : K.lookup f = some ⟨oc, od, .func (PySem.W.fnOf name qual params body scope dV kV doc pm an cdv ct), osl⟩) (hcd : PySem.W.codeIn K cdv qual = true) (S : FnScope N ps scope)
    (len : ∀ vs H Q E, sp vs H Q E → vs.length = ps.length)
    (hbody : ∀ (A : Around) (outer : List Env) (s : Shared) (H : Hp) (vs : List V) (Q : VK) (E : XK), RoomH k (A.deeper (PyProof.Rows.envOfC qual scope s.heap.objs.size f cdv)) → sp vs H Q E →
      ∃ t, PSs (cxQ P w K mg base N qual scope f cdv A outer s H E).nox body t ∧ t { nx := fun _ H' => Q .non H', rt := Q } (L2.start N vs) H) :
    FnQ P w K mg base (k + 1) f (PySem.W.fnOf name qual params body scope dV kV doc pm an cdv ct) ps sp := by
  refine ⟨len, fun A outer s H args us vs Q E hr e0 hb r hsp => ?_⟩
  have hl := len _ _ _ _ hsp
  have KX : K.In s.heap := e0.mod.kin.keeps fun b o e => (e0.bs b o e).1
  have lim : s.heap.NoLimit := e0.mod.nolimit.keeps fun b o e => (e0.bs b o e).1
  have hkind : ∀ y ∈ ps.zip us, scope.names.lookup y.1 = some .local ∨ (scope.names.lookup y.1 = some .cell ∧ ((cellsFrom (s.heap.objs.size + 1) scope.names []).lookup y.1).isSome = true) := fun ⟨n, v⟩ hy => by
    rcases S.par n (List.of_mem_zip hy).1 with q | q
    · exact .inl q
    · exact .inr ⟨q, PySem.W.cellsFrom_some _ _ _ (.inl q)⟩
  refine codeAny_call_function hr.depth (KX _ _ lk) rfl S.co S.gen rfl (PySem.W.codeRec_of KX hcd) (hb _ _ _ _ ?_)
  refine wpAny_newFunctionEnv_cells S.kind hkind fun env he s1 x => ?_
  subst he
  refine ⟨lim.keeps x.toInCall.keep, codeAny_func ?_⟩
  obtain ⟨t, ht, hq⟩ := hbody A outer s H vs Q E (hr.deeper _) hsp
  have I : Inv (cxQ P w K mg base N qual scope f cdv A outer s H E) [] (L2.start N vs) H s1 := inv_startQ S e0 hl r x
  refine wpAny_mono (ht.nox.run [] s1 (L2.start N vs) H _ I hq) (fun fl s' hs => ?_) fun e s' hs => hs
  have fin : ∀ {σ' : L2.St} {H' : Hp} {v : V} {u : Value}, Inv (cxQ P w K mg base N qual scope f cdv A outer s H E) [] σ' H' s' → RelV v u → Q v H' → CE outer P w H s Q u s' :=
    fun {σ' H' v u} J rv q => ⟨v, H', J.os, J.bare, J.base, J.hok, rv, q⟩
  cases fl with
  | ret u =>
    obtain ⟨v, σ', H', J, rv, q⟩ := hs
    exact fin J rv q
  | next =>
    obtain ⟨σ', H', J, q⟩ := hs
    exact fin (v := V.non) (u := Value.none) J rfl q
  | brk =>
    obtain ⟨_, _, _, q⟩ := hs
    exact False.elim q
  | cont =>
    obtain ⟨_, _, _, q⟩ := hs
    exact False.elim q
theorem Fun.okDQ {C : Cl} {x qual : Str} {st : Stmt} {f : Addr} {fd : FuncData} {N ps : List Str} {k : Nat} {t : DF} {tb : DS} (F : Fun K x qual st f fd) (S : FnScope N ps (defScope st)) (hl : ∀ ρ R X, t ρ R X → ρ.length = ps.length)
    (hbody : ∀ (cdv : Value) (A : Around) (outer : List Env) (s : Shared) (H : Hp) (E : XK), RoomH k (A.deeper (PyProof.Rows.envOfC qual (defScope st) s.heap.objs.size f cdv)) →
      PSs (cxQ P w K mg base N qual (defScope st) f cdv A outer s H E).nox (defBody st) (liftS ⟨K, C, E⟩ tb))
    (ht : ∀ ρ R X, t ρ R X → tb { nx := fun _ => R .non, rt := R, ex := fun x _ => X x } (ρ ++ List.replicate (N.length - ps.length) .no)) : FnQ P w K mg base (k + 1) f fd ps (spE K C t) := by
  obtain ⟨oc, od, kV, doc, pm, an, cdv, ct, osl, rfl, lk, hcd⟩ := F.ex
  exact fn_ofQ lk hcd S (spE_len hl) fun A outer s H vs Q E hr hsp => ⟨_, hbody cdv A outer s H E hr, body_in hl (fun _ _ _ q => q) ht hsp⟩
/-! a field of an exception that is data -/
/-- the exceptions' numbers; what is known of each -/
structure XOk (K : PySem.W.Frag) (C : Cl) (ex : Nat → Bool) : Prop where
  xf : ∀ c, ex c = true → XfC K (C.adr c)
  no : ∀ c, ex c = true → ∀ f ∈ C.fld c, PySem.W.findIn K (.ref (C.adr c)) f = some none
def tXa (K : PySem.W.Frag) (n : Str) (te : TE) : TE := fun σ H Q => te σ H fun x H1 => ∃ (a dd C : Addr) (o : Obj) (fs : List (Str × V)) (v : V), x = .ref a ∧ H1 a = some (CelO a o) ∧ (o.cls = .ref C ∧ o.dict = some dd ∧ ∃ vs, o.data = .fields vs) ∧ XfC K C ∧ PySem.W.findIn K (.ref C) n = some none ∧
  H1 dd = some (.xd fs) ∧ fs.lookup n = some v ∧ Q v H1
theorem pe_xa {X : Cx} {e : Expr} {te : TE} {pos : Pos} {n : Str} (he : PE X e te) (hb : attributeBase e n X.env (eval e X.env) = eval e X.env := by rfl) : PE X (.Attribute e n pos) (tXa X.K n te) := by
  refine ⟨fun pins s σ H Q I h => ?_⟩
  refine attr_of hb (thn (he.run pins s σ H _ I h) fun u s1 hh => ?_)
  obtain ⟨x, H1, I1, rx, a, dd, C, o, fs, v, ex, ha, ⟨h1, h2, vs, h3⟩, T, hno, ea, l, q⟩ := hh
  subst ex
  obtain rfl : u = Value.ref a := rx
  have ha := celO_at I1.hok ha
  have hx : ObjOk X.prog X.w H1 s1.heap dd (.xd fs) := I1.hok dd _ ea
  obtain ⟨mA, hns, hr⟩ := hx
  obtain ⟨od, ho, hl⟩ := lookIn_ns hns
  obtain ⟨u, hu, ru⟩ := RelO.some_of (v := v) (o := mA n) (by rw [← l]; exact hr n)
  have J : PySem.W.InstAt s1.heap a o C (some od) := ⟨ha, h1, by unfold PySem.W.notCls; rw [h3] <;> rfl, by rw [h2]; exact ho⟩
  exact HandSPX.exc_get I1.kIn J T.ga T.gg T.exC (PySem.W.findObj_own T.hdC hno rfl (by rw [hl, hu])) (handed_of ru) ⟨v, H1, I1.tok _, ru, q⟩
def fXa (ex : Nat → Bool) (fld : Nat → List Str) (n : Str) : D → Option D
  | .exc c fs => if ex c = true then ((fld c).zip fs).lookup n else none
  | _ => none
theorem zip_look2 {C : Cl} {M : Addr → Prop} {H : Hp} {n : Str} {d : D} : ∀ {ns : List Str} {ds : List D} {xs : List V}, ns.length = xs.length → DaL K C M H ds xs → (ns.zip ds).lookup n = some d → n ∈ ns ∧ ∃ v, (ns.zip xs).lookup n = some v ∧ Da K C M H d v
  | [], ds, xs, _, _, e => by simp at e
  | m :: ns, [], xs, _, _, e => by simp at e
  | m :: ns, d1 :: ds, [], hl, _, _ => by simp at hl
  | m :: ns, d1 :: ds, x :: xs, hl, h, e => by
    unfold DaL at h
    obtain ⟨v, r, ev, h1, h2⟩ := h
    cases ev
    rw [List.zip_cons_cons, List.lookup_cons] at e
    rw [List.zip_cons_cons, List.lookup_cons]
    split at e
    · rename_i q
      cases e
      exact ⟨by rw [eq_of_beq q]; exact List.mem_cons_self, x, rfl, h1⟩
    · rename_i q
      obtain ⟨a1, v, a2, a3⟩ := zip_look2 (by simpa using hl) h2 e
      exact ⟨List.mem_cons_of_mem _ a1, v, a2, a3⟩
theorem r_xa {L : Lx} {ex : Nat → Bool} {n : Str} {t : DT} (O : XOk L.K L.C ex) : ∀ σ H Q, lift L (dUn (fXa ex L.C.fld n) t) σ H Q → tXa L.K n (lift L t) σ H Q :=
  r_un (r := fun x H1 Q => ∃ (a dd C : Addr) (o : Obj) (fs : List (Str × V)) (v : V), x = .ref a ∧ H1 a = some (CelO a o) ∧ (o.cls = .ref C ∧ o.dict = some dd ∧ ∃ vs, o.data = .fields vs) ∧ XfC L.K C ∧ PySem.W.findIn L.K (.ref C) n = some none ∧ H1 dd = some (.xd fs) ∧ fs.lookup n = some v ∧ Q v H1)
    fun M H x a d Q fr ha e k => by
      cases a with
      | exc c fs =>
        have e : (if ex c = true then ((L.C.fld c).zip fs).lookup n else none) = some d := e
        split at e
        · rename_i hc
          unfold Da at ha
          obtain ⟨p, dd, o, xs, rfl, n1, h1, h2, n2, h3, h4, h5⟩ := ha
          obtain ⟨m1, v, m2, m3⟩ := zip_look2 h4 h5 e
          exact ⟨p, dd, _, o, _, v, rfl, h1, h2, O.xf c hc, O.no c hc n m1, h3, m2, k v H same0 m3⟩
        · cases e
      | _ => cases e
/-! within the suite -/
section
variable {X : Cx} {a : Addr} {oe : Obj} {cls : Value} {d : Option Addr} {pn : List (Addr × Obj)}
def tXs (K : PySem.W.Frag) (a : Addr) (cls : Value) (d : Option Addr) (f : Str) (te : TE) : TE := fun σ H Q => te σ H fun x H1 => x = .ref a ∧ ∃ (C dd : Addr) (fs : List (Str × V)) (v : V), cls = .ref C ∧ XfC K C ∧ PySem.W.findIn K (.ref C) f = some none ∧ d = some dd ∧ H1 dd = some (.xd fs) ∧ fs.lookup f = some v ∧ Q v H1
theorem pe_xs {e : Expr} {te : TE} {pos : Pos} {n : Str} (hz : Zc cls d oe) (hf : ∃ vs, oe.data = .fields vs) (he : PE (X.suite a ((a, oe) :: pn)) e te) (hb : attributeBase e n X.env (eval e X.env) = eval e X.env := by rfl) :
    PE (X.suite a ((a, oe) :: pn)) (.Attribute e n pos) (tXs X.K a cls d n te) := by
  refine ⟨fun pins s σ H Q I h => ?_⟩
  refine attr_of hb (thn (he.run pins s σ H _ I h) fun u s1 hh => ?_)
  obtain ⟨x, H1, I1, rx, ex, C, dd, fs, v, ec, T, hno, ed, ea, l, q⟩ := hh
  subst ex
  obtain rfl : u = Value.ref a := rx
  subst ec
  subst ed
  obtain ⟨ha, _⟩ := I1.pin (a, oe) (List.mem_append_left _ List.mem_cons_self)
  obtain ⟨vs, hd⟩ := hf
  have hx : ObjOk X.prog X.w H1 s1.heap dd (.xd fs) := I1.hok dd _ ea
  obtain ⟨mA, hns, hr⟩ := hx
  obtain ⟨od, ho, hl⟩ := lookIn_ns hns
  obtain ⟨u, hu, ru⟩ := RelO.some_of (v := v) (o := mA n) (by rw [← l]; exact hr n)
  have J : PySem.W.InstAt s1.heap a oe C (some od) := ⟨ha, hz.1, by unfold PySem.W.notCls; rw [hd] <;> rfl, by rw [hz.2]; exact ho⟩
  exact HandSPX.exc_get I1.kIn J T.ga T.gg T.exC (PySem.W.findObj_own T.hdC hno rfl (by rw [hl, hu])) (handed_of ru) ⟨v, H1, I1.tok _, ru, q⟩
/-- g(err), within the suite -/
def tXg (sp : Sp) (a : Addr) (cls : Value) (d : Option Addr) (ta : TA) : TE := fun σ H Q => ta σ H fun vs H1 => ∀ oe : Obj, Zc cls d oe → (∃ ws, oe.data = .fields ws) → H1 a = none →
  sp vs (put (fun b => some (CelO b oe)) H1 (· = a)) (fun v H' => H' a = some (CelO a oe) ∧ Q v (cut H' (· = a))) E0
theorem pe_xg {k : Nat} {f : Addr} {fd : FuncData} {ps : List Str} {sp : Sp} {x : Str} {q pos : Pos} {e : Expr} {es : List Expr} {t : TA} (F : FnQ X.prog X.w X.K X.mg X.base k f fd ps sp) (hr : RoomH k X.A) (hB : X.base.get? a = none) (hz : Zc cls d oe) (hf : ∃ vs, oe.data = .fields vs) (hg : Gl X x) (hm : X.mg x = some (.ref f)) (hk : PySem.W.keepIn X.K (.ref f) = true) (hb : Binds X.K fd ps [])
    (ha : PA (X.suite a ((a, oe) :: pn)) (e :: es) t)
    (hdb : (x == ("__debug__" : Str)) = false := by decide) (he : starEach (e :: es) X.env = (false, eval e X.env) :: starEach es X.env := by rfl) (hpl : (backTo pos (starEach es X.env)).any (·.1) = false := by rfl) :
    PE (X.suite a ((a, oe) :: pn)) (.Call (.Name x q) (e :: es) [] pos) (tXg sp a cls d t) := by
  refine ⟨fun pins s σ H Q I h => ?_⟩
  refine wpAny_Call_Name_kw (ld_glob (X := X.suite a ((a, oe) :: pn)) I hg hm ?_ hdb)
  refine PySem.W.callWith_K (h₀ := X.base) I.ok.mod.kin hk (thn (ha.run pos pins s σ H _ I h) fun us s1 ⟨vs, H1, I1, r, q⟩ => ⟨I1.kIn, ?_⟩) he hpl
  have P1 := I1.pin (a, oe) (List.mem_append_left _ List.mem_cons_self)
  have nfr : a ∉ frs X.stack := fun hm => (List.mem_cons.mp (I1.stkSub a hm)).elim P1.2.2.1 P1.2.2.2.1
  have hS : ∀ c, c = a → H1 c = none ∧ s1.heap.get? c = some oe ∧ c ∉ frs X.stack := fun c e => by subst e; exact ⟨P1.2.1, P1.1, nfr⟩
  have h2 := q oe hz hf P1.2.1
  have hl : us.length = ps.length := by rw [← r.length]; exact F.len _ _ _ _ h2
  have b := hb s1 us I1.kIn (by rw [List.append_nil]; exact hl)
  rw [List.append_nil] at b
  refine wpAny_call (codeAny_mono (F.run (X.A.mark (some (.ref a))) X.stack s1 _ ⟨us, []⟩ us vs _ _ ⟨hr.dp, hr.un⟩ (env0_lend (o := fun _ => oe) I1.env0 hS (fun c e => by subst e; exact hB)) b r h2) fun rr s' hq => ?_)
  cases rr with
  | error e => exact (show False from hq).elim
  | ok fl =>
    cases fl with
    | ret u => exact I1.after (ce_unlend (o := fun _ => oe) hS hq fun v H' hok ⟨z1, z2⟩ => ⟨fun c e => by subst e; exact z1, z2⟩)
    | next => exact False.elim hq
    | brk => exact False.elim hq
    | cont => exact False.elim hq
end
/-! try: body, except (x1, x2, x3) as n: suite; all that is raised is caught -/
theorem ff_keeps {base h h' : Heap} (k : ∀ b o, h.get? b = some o → h'.get? b = some o) : ∀ {l : List Env}, h.FunFrames base l → h'.FunFrames base l
  | [], _ => trivial
  | env :: r, hl => by
    obtain ⟨hk, ⟨L, o, hf, hn, ho, hd⟩, hr⟩ := hl
    exact ⟨hk, ⟨L, o, hf, hn, k _ _ ho, hd⟩, ff_keeps k hr⟩
theorem fly_keeps {B h h' : Heap} {l : List Env} {a : Addr} {Z : Obj → Prop} (k : ∀ b o, h.get? b = some o → h'.get? b = some o) (f : HandSPX.FlyingZ B l a Z h) : HandSPX.FlyingZ B l a Z h' := by
  obtain ⟨f1, f2, f3, oe, vs, T, oT, ts, g1, g2, g3, g4, g5, g6, g7, g8⟩ := f
  exact ⟨fun b o e => k b o (f1 b o e), f2, ff_keeps k f3, oe, vs, T, oT, ts, k _ _ g1, g2, g3, g4, g5, g6, k _ _ g7, g8⟩
def wAs3 (K : PySem.W.Frag) (cs : List Value) (i : Nat) (ts : Addr → Value → Option Addr → L2.TS) (D : Ends) : WX := fun cls d σ H =>
  PySem.W.exmAny K cls cs = some true ∧ ∀ a, H a = none → ts a cls d { nx := fun σ' H' => D.nx (σ'.set i none) H', rt := D.rt, bk := fun σ' H' => D.bk (σ'.set i none) H', ct := fun σ' H' => D.ct (σ'.set i none) H' } (σ.set i (some (.ref a))) H
section
variable {X : Cx} {n : Str} {i : Nat} {body suite : List Stmt} {b₀ : Stmt} {pos pos' : Pos} {tb : WX → L2.TS} {ts : Addr → Value → Option Addr → L2.TS} {x1 x2 x3 : Str} {c1 c2 c3 : Addr} {q1 q2 q3 q4 : Pos} {qq}
theorem ps_try_as3 (hs : X.stack = X.env :: X.outer) (hf : X.env.frame = some X.env.locals) (hN : X.N.Nodup) (hi : X.N[i]? = some n) (hln : X.env.kindOf n = some .local) (h1 : Gl X x1 ∧ X.mg x1 = some (.ref c1)) (h2 : Gl X x2 ∧ X.mg x2 = some (.ref c2)) (h3 : Gl X x3 ∧ X.mg x3 = some (.ref c3))
    (hdb : (x1 == ("__debug__" : Str)) = false ∧ (x2 == ("__debug__" : Str)) = false ∧ (x3 == ("__debug__" : Str)) = false)
    (hb : ∀ (W : WX) (pn : List (Addr × Obj)) (xe : Value → Shared → Prop), Takes (X.tr pn xe) W → PassesOwn (model X.prog X.w) X.A X.env xe → PSs (X.tr pn xe) body (tb W))
    (hsu : ∀ (a : Addr) (oe : Obj) (cls : Value) (d : Option Addr) (pn : List (Addr × Obj)), X.base.get? a = none → Zc cls d oe → (∃ vs, oe.data = .fields vs) → PSs (X.suite a ((a, oe) :: pn)) (b₀ :: suite) (ts a cls d))
    (hse : starEach [.Name x1 q1, .Name x2 q2, .Name x3 q3] X.env = [(false, eval (.Name x1 q1) X.env), (false, eval (.Name x2 q2) X.env), (false, eval (.Name x3 q3) X.env)] := by rfl) :
    PS X (.Try body [.ExceptHandler (some (.Tuple [.Name x1 q1, .Name x2 q2, .Name x3 q3] qq q4)) (some n) (b₀ :: suite) pos'] [] [] pos) (fun D σ H => tb (wAs3 X.K [.ref c1, .ref c2, .ref c3] i ts D) D σ H) := by
  refine ⟨fun pins s σ H D I h => ?_⟩
  have ok := I.ok
  have hfr : X.A.frames = some (X.env :: X.outer) := by rw [ok.frames, hs]
  have hloc : Loc X.env.scope n := .inl hln
  refine wpAny_Try_except ?_
  refine wpAny_mono ((hb (wAs3 X.K [.ref c1, .ref c2, .ref c3] i ts D) (X.pn ++ pins) (fun e s₁ => wpAny (model X.prog X.w) X.A (noteFrame e X.env) (fun _ s₂ => wpAny (model X.prog X.w) X.A (setFlight e none) (fun _ s₃ =>
    wpAny (model X.prog X.w) X.A (handleBy e X.env [.ExceptHandler (some (.Tuple [.Name x1 q1, .Name x2 q2, .Name x3 q3] qq q4)) (some n) (b₀ :: suite) pos']) (SP X pins D) X.xe s₃) X.xe s₂) X.xe s₁) (fun u s' xx => ?_) PassesOwn.looking).run [] s σ H D (I.toTry _) h) (fun f s1 hsp => ?_) (fun e s1 he => he)
  · -- the catch
    obtain ⟨a, B, sI, pins', σ', H', cls, d, rfl, J', nb, up, sky, na, os, ag, hb1, hyes⟩ := xx
    have J : Inv X pins σ' H' sI := J'.ofTry ok
    have sky' : Sky B (X.env :: X.outer) a (Zc cls d) X.env.locals s'.heap := by rw [← hs]; exact sky
    show wpAny (model X.prog X.w) X.A (noteFrame (.ref a) X.env) _ _ _
    refine Sky.land Zc.steady hfr hf sky' fun h3' fl3 up3 => ?_
    have J3 : Inv X pins σ' H' { s' with heap := h3' } := J.landed nb fl3.1 (up.trans up3) os ag
    obtain ⟨oe3, vs3, he3, hz3, hd3⟩ := fl3.there
    have notFr : ∀ {h : Heap} {o : Obj} {vs : Array Value}, h.FunFrames B (X.env :: X.outer) → h.get? a = some o → o.data = .fields vs → a ∉ frs (X.env :: X.outer) := fun {h o vs} ff e dd hm => by
      obtain ⟨_, o', e', hnf⟩ := ff.mem hm
      rw [e] at e'; cases e'
      exact hnf _ dd
    have nfr := notFr fl3.2.2.1 he3 hd3
    have nL : a ≠ X.env.locals := fun z => nfr (List.mem_filterMap.mpr ⟨X.env, List.mem_cons_self, by rw [hf, z]⟩)
    have nF : a ∉ X.fs := fun hm => by
      obtain ⟨e, he, q⟩ := List.mem_filterMap.mp hm
      exact nfr (List.mem_filterMap.mpr ⟨e, List.mem_cons_of_mem _ he, q⟩)
    have nBase : X.base.get? a = none := by
      cases q : X.base.get? a with
      | none => rfl
      | some o =>
        have z := nb a o (J.bk a o q) (by rw [hs]; exact nfr)
        rw [show B.get? a = none from fl3.2.1] at z; cases z
    have S3 := J3.suite he3 hd3 na nL nF
    refine wpAny_handleBy_cons (codeAny_handlers_test ?_) (by intro q; cases q)
    refine wpAny_Tuple_spliced ?_
    rw [hse]
    refine Calls.spliced_cons (ld_glob (X := X.suite a ((a, oe3) :: (X.pn ++ pins))) S3 h1.1 h1.2 ?_ hdb.1)
    refine Calls.spliced_cons (ld_glob (X := X.suite a ((a, oe3) :: (X.pn ++ pins))) S3 h2.1 h2.2 ?_ hdb.2.1)
    refine Calls.spliced_cons (ld_glob (X := X.suite a ((a, oe3) :: (X.pn ++ pins))) S3 h3.1 h3.2 ?_ hdb.2.2)
    refine Calls.spliced_nil ⟨by show 3 ≤ sizeLine; decide, ?_⟩
    have kp : ∀ b o, h3'.get? b = some o → (h3'.push { cls := .type "tuple", data := .seq [Value.ref c1, .ref c2, .ref c3].toArray }).get? b = some o := fun b o e => Heap.get?_push_of_some _ e
    have LT : PySem.W.Looks (model X.prog X.w) (h3'.push { cls := .type "tuple", data := .seq [Value.ref c1, .ref c2, .ref c3].toArray }) (typeOf (.ref a)) cls := fun A Q E s k q => wpAny_typeOf_ref (k _ _ (kp _ _ he3)) (by rw [hz3.1]; exact q)
    have LM := PySem.W.exm_tup3 (M := model X.prog X.w) (K := X.K) (J3.kIn.keeps kp) LT (Heap.get?_push_size _ rfl) hb1
    refine LM.here ?_
    have flp := fly_keeps kp fl3
    refine codeAny_handlers_suite_as ?_
    refine HandSPX.lands_againZ flp fun h4 fl4 up4 => ?_
    have J4 : Inv X pins σ' H' { s' with heap := h4 } := J.landed nb fl4.1 ((up.trans up3).trans ((Heap.UpToSlots.of_keeps kp).trans up4)) os ag
    obtain ⟨oe4, vs4, he4, hz4, hd4⟩ := fl4.there
    have S4 := J4.suite he4 hd4 na nL nF
    refine store_ok (X := X.suite a ((a, oe4) :: (X.pn ++ pins))) (v := .ref a) S4 hN hi hloc rfl (fun s5 S5 => ?_) (.inr hln)
    refine wpAny_mono ((hsu a oe4 cls d (X.pn ++ pins) nBase hz4 ⟨_, hd4⟩).run [] s5 _ H' _ S5 (hyes a na)) (fun f s6 hsp => ?_) (fun _ _ z => False.elim z)
    have end_ : ∀ {σ6 : L2.St} {H6 : Hp} {Q : Shared → Prop}, Inv (X.suite a ((a, oe4) :: (X.pn ++ pins))) [] σ6 H6 s6 → (∀ s7, Inv X pins (σ6.set i none) H6 s7 → Q s7) →
        wpAny (model X.prog X.w) X.A (do bindName X.env n .none; unbindBehindTheSuite X.env n pos') (fun _ s7 => Q s7) X.xe s6 := fun {σ6 H6 Q} S6 hq => gone_ok (S6.unsuite ok) hN hi hln hq
    cases f with
    | next =>
      obtain ⟨σ6, H6, S6, q6⟩ := hsp
      exact end_ S6 fun s7 J7 => ⟨_, _, J7, q6⟩
    | brk =>
      obtain ⟨σ6, H6, S6, q6⟩ := hsp
      exact end_ S6 fun s7 J7 => ⟨_, _, J7, q6⟩
    | cont =>
      obtain ⟨σ6, H6, S6, q6⟩ := hsp
      exact end_ S6 fun s7 J7 => ⟨_, _, J7, q6⟩
    | ret u =>
      obtain ⟨v6, σ6, H6, S6, r6, q6⟩ := hsp
      exact end_ S6 fun s7 J7 => ⟨_, _, _, J7, r6, q6⟩
  · cases f with
    | next =>
      obtain ⟨σ', H', J', q⟩ := hsp
      exact wpAny_execs_nil ⟨σ', H', J'.ofTry ok, q⟩
    | brk =>
      obtain ⟨σ', H', J', q⟩ := hsp
      exact ⟨σ', H', J'.ofTry ok, q⟩
    | cont =>
      obtain ⟨σ', H', J', q⟩ := hsp
      exact ⟨σ', H', J'.ofTry ok, q⟩
    | ret u =>
      obtain ⟨v, σ', H', J', r, q⟩ := hsp
      exact ⟨v, σ', H', J'.ofTry ok, r, q⟩
end
end

end
end Ag
namespace Ag
open PySem L2
open C8 (pss_cut tCut)
section
variable {P : Program} {w : World} {K : PySem.W.Frag} {mg : Str → Option Value} {base : Heap} {cs : List (Str × Addr)}
/-! a function in hand, called within a try -/
section
open L2H (RoomH)
theorem takesN {N : List Str} {F : NdefX.NF} {f : Addr} {A : Around} {outer : List Env} {s : Shared} {H : Hp} {E : XK} : Takes (NdefX.ncx (L2.CX P w) P w K mg base N F f A outer s H E) (fun cls d _ H => E cls d H) := takes_of rfl rfl rfl rfl
theorem passN {N : List Str} {F : NdefX.NF} {f : Addr} {A : Around} {outer : List Env} {s : Shared} {H : Hp} {E : XK} : Passes (L2.CX P w) (NdefX.ncx (L2.CX P w) P w K mg base N F f A outer s H E) E := passes_call takesN fun _ _ _ _ h => h
theorem passE0 {X : Cx} : Passes (L2.CX P w) X E0 := fun _ _ _ _ _ _ _ h => by
  obtain ⟨_, _, _, _, _, _, _, _, _, _, _, _, e⟩ := h
  exact e.elim
theorem pe_actD {X : Cx} {W : WX} {C : Cl} {k i : Nat} {tl : Nat → DF} {a : Str} {p1 p2 : Pos} (hl : LamsOk X.prog X.w X.K X.mg X.base C k tl) (hr : Room k X.A) (tk : Takes X W) (hv : PE X (.Name a p1) (tVar i)) :
    PE X (.Call (.Name a p1) [] [] p2) (fun σ H Q => ∃ f, σ[i]? = some (some (.ref f)) ∧ spE X.K C (tAct tl) [.ref f] H Q (fun cls d H' => W cls d σ H')) := by
  refine ⟨fun pins s σ H Q I h => ?_⟩
  obtain ⟨f, hs, hsp⟩ := h
  refine wpAny_Call_Name_kw (thn (hv.run pins s σ H (fun v H1 => v = .ref f ∧ H1 = H) I ⟨.ref f, hs, rfl, rfl⟩) fun u s1 ⟨v, H1, I1, r1, q1⟩ => ?_)
  obtain ⟨ev, eH⟩ := q1
  subst ev
  rw [eH] at I1
  obtain rfl : u = Value.ref f := r1
  obtain ⟨hf, rc⟩ := hl X.A X.stack s1 H f Q _ hr I1.env0 hsp
  refine PySem.W.callWith_F0 hf ?_
  refine wpAny_call (codeAny_mono rc fun r s' hq => ?_)
  cases r with
  | error e => exact tk _ _ (XE.of_call I1 (fun _ _ _ h => h) hq)
  | ok fl =>
    cases fl with
    | ret u => exact I1.after hq
    | next => exact False.elim hq
    | brk => exact False.elim hq
    | cont => exact False.elim hq
/-- what _law_try makes of a function: tf: what _law_fields does -/
def tTry (ex : Nat → Bool) (fld : Nat → List Str) (tf : DF) (tl : Nat → DF) : DF := fun ρ R _ => ∃ i ds, ρ = [.dat (.fn i ds)] ∧ noFs ds = true ∧
  tl i (ds.map .dat) (fun d => R (.tup [.str (cp ""), d])) (fun x => ex x.c = true ∧ ∃ code, ((fld x.c).zip x.fs).lookup (Str.ofString "code") = some code ∧ noF code = true ∧ tf [.dat (.exc x.c x.fs)] (fun z => noF z = true ∧ R (.tup [code, z])) (fun _ => False))
theorem try_in {C : Cl} {ex : Nat → Bool} {tf : DF} {tl : Nat → DF} {vs : List V} {H : Hp} {Q : VK} {E : XK} {cs : List Value} (O : XOk K C ex) (hm : ∀ c, ex c = true → PySem.W.exmAny K (.ref (C.adr c)) cs = some true) (h : spE K C (tTry ex C.fld tf tl) vs H Q E) :
    ∃ f, vs = [.ref f] ∧ ∀ σ : L2.St, σ.length = 2 → σ[0]? = some (some (.ref f)) → spE K C (tAct tl) [.ref f] H (fun v H' => [V.str (Str.ofString ""), v].length ≤ sizeLine ∧ ∀ p, H' p = none → Q (.ref p) (upd H' p (.tup [.str (Str.ofString ""), v])))
      (fun cls d H' => wAs3 K cs 1 (fun a cls d => tRet (tTup (tCons (tXs K a cls d "code" (tVar 1)) (tCons (tXg (spE K C tf) a cls d (tCons (tVar 1) tNil)) tNil)))) { nx := fun _ H' => Q .non H', rt := Q } cls d σ H') := by
  obtain ⟨F, ρ, R, X, er, hn, ⟨i, ds, rfl, hnf, ht⟩, hR, _⟩ := h
  have hl := er.len
  match vs, hl with
  | [x], _ =>
    obtain ⟨v0, hv0, x0, ev0, hfn⟩ := er.at (i := 0) (s := .dat (.fn i ds)) rfl
    simp at hv0
    subst hv0
    cases ev0
    have hfn2 := hfn
    unfold Da at hfn2
    obtain ⟨f, _, _, _, _, _, rfl, _⟩ := hfn2
    refine ⟨f, rfl, fun σ hσ h0 => ⟨F, _, _, _, er, hn, ⟨i, ds, rfl, hnf, ht⟩, fun d v H' hr fs hb da => ?_, fun x cls dc H' hx fs hb xr => ?_⟩⟩
    · refine ⟨by show 2 ≤ sizeLine; decide, fun p hp => ?_⟩
      have nM : ¬ F.M p := fun z => by
        obtain ⟨o, e⟩ := (er.fstep fs hb).2.there p z
        rw [hp] at e; cases e
      have sm : Same H' (upd H' p (.tup [.str (Str.ofString ""), v])) := Same.laid _ hp
      refine hR _ _ _ hr (fun a o e nb => sm a o (fs a o e nb)) (hb.same sm) (Da.tup (.inl ⟨nM, upd_same⟩) (DaL.cons ?_ (DaL.cons (da.same sm) DaL.nil)))
      unfold Da
      rw [S_cp]
    · obtain ⟨hc, code, hcode, hnc, hf⟩ := hx
      obtain ⟨k1, dd, ys, k2, k3, k4, k5⟩ := xr
      subst k1 k2
      refine ⟨hm _ hc, fun a ha => ?_⟩
      obtain ⟨st1, er1⟩ := er.fstep fs hb
      have nMa : ¬ F.M a := fun z => by
        obtain ⟨o, e⟩ := er1.there a z
        rw [ha] at e; cases e
      have co : ∀ (G : Hp) (b : Addr), b ≠ a → cut G (· = a) b = G b := fun G b n => cut_out (S := fun x => x = a) n
      have po : ∀ (G G' : Hp) (b : Addr), b ≠ a → put G G' (· = a) b = G' b := fun G G' b n => put_out (S := fun x => x = a) n
      have pi : ∀ (G G' : Hp), put G G' (· = a) a = G a := fun G G' => put_in (S := fun x => x = a) rfl
      have s1 : (σ.set 1 (some (V.ref a)))[1]? = some (some (.ref a)) := List.getElem?_set_self (by omega)
      obtain ⟨m1, cv, m2, m3⟩ := zip_look2 k4 k5.da hcode
      refine ⟨.ref a, s1, rfl, _, dd, _, cv, rfl, O.xf _ hc, O.no _ hc _ m1, rfl, k3, m2, ?_⟩
      refine ⟨.ref a, s1, fun oe hz hd _ => ?_⟩
      have sm : Same H' (put (fun b => some (CelO b oe)) H' (· = a)) := fun b o e => by rw [po _ _ b (ne_of_none e ha)]; exact e
      have er2 := er1.same sm
      have dx : Da K C F.M (put (fun b => some (CelO b oe)) H' (· = a)) (.exc x.c x.fs) (.ref a) := by
        unfold Da
        exact ⟨a, dd, oe, ys, rfl, nMa, by rw [pi], ⟨hz.1, hz.2, hd⟩, k5.nm, sm _ _ k3, k4, k5.da.same sm⟩
      have ag : ArgL K C F F.M (put (fun b => some (CelO b oe)) H' (· = a)) [.dat (.exc x.c x.fs)] [.ref a] := by
        unfold ArgL
        exact ⟨_, [], rfl, rfl, (fun z => nomatch z), ⟨_, rfl, dx⟩, by unfold ArgL; rfl⟩
      have nEa : ¬ F.B.Ex a := er1.bag.off nMa
      refine ⟨F, _, _, _, er_of ag ⟨er2.bag, er2.tb⟩ er2.there, ag.slots.2.1, hf, fun z zv H2 hz2 fs2 hb2 da2 => ?_, fun _ _ _ _ q => q.elim⟩
      have keep : H2 a = some (CelO a oe) := fs2 a _ (by rw [pi]) nEa
      refine ⟨keep, by show 2 ≤ sizeLine; decide, fun p hp => ?_⟩
      have nX : ∀ b o, H2 b = some o → (∀ y z, o ≠ .frz y z) → ¬ b = a := fun b o e n q => by
        rw [q, keep] at e; cases e; exact n _ _ rfl
      have fs3 : ∀ b o, H b = some o → ¬ F.B.Ex b → cut H2 (· = a) b = some o := fun b o e nb => by
        have e1 := fs b o e nb
        rw [co _ b (ne_of_none e1 ha)]
        exact fs2 b o (sm b o e1) nb
      have hb3 : F.B.Ok F.M (cut H2 (· = a)) := by
        refine ⟨fun b c e => ?_, fun q hq => ?_⟩
        · obtain ⟨ns, j, big, seed, cnt, g1, g2, r⟩ := hb2.bag b c e
          exact ⟨ns, j, big, seed, cnt, by rw [co _ _ (nX _ _ g1 fun _ _ z => nomatch z)]; exact g1, by rw [co _ _ (nX _ _ g2 fun _ _ z => nomatch z)]; exact g2, r⟩
        · exact (hb2.tab q hq).mono (fun ps e => by rw [co _ _ (nX _ _ e fun _ _ z => nomatch z)]; exact e) fun b φ n e => ⟨n, by rw [co _ _ (nX _ _ e fun _ _ z => nomatch z)]; exact e⟩
      have np : ∀ b o, cut H2 (· = a) b = some o → b ≠ p := fun b o e => ne_of_none e hp
      have sm3 : Same (cut H2 (· = a)) (upd (cut H2 (· = a)) p (.tup [cv, zv])) := Same.laid _ hp
      have nM : ¬ F.M p := fun z => by
        obtain ⟨o, e⟩ := er2.there p z
        by_cases hpe : F.B.Ex p
        · exact (hb3.apart hp).1 hpe
        · have := fs2 p o e hpe
          rw [co _ p fun q => nMa (q ▸ z)] at hp
          rw [hp] at this; cases this
      have dc : Da K C F.M (cut H2 (· = a)) code cv := noF_mono (fun b o n e hx => ⟨n, ?_⟩) code cv hnc m3
      · refine hR _ _ _ hz2.2 (fun b o e nb => sm3 b o (fs3 b o e nb)) (hb3.same sm3) (Da.tup (.inl ⟨nM, upd_same⟩) (DaL.cons (dc.same sm3) (DaL.cons ((noF_mono (fun b o n e hx => ⟨n, ?_⟩) z zv hz2.1 da2).same sm3) DaL.nil)))
        rw [co _ _ (nX _ _ e fun _ _ z => by subst z; cases hx)]; exact e
      · rw [co _ b (ne_of_none e ha)]
        exact fs2 b o (sm b o e) (er1.bag.off n)
end

end
end Ag
namespace Ag
open PySem L2
open C8 (pss_cut tCut)
section
variable {P : Program} {w : World} {K : PySem.W.Frag} {mg : Str → Option Value} {base : Heap} {cs : List (Str × Addr)}
/-! written lambdas, by their places in a def's text -/
def noE0 : Expr := .Constant .none 0 ⟨0, 0, 0, 0⟩
def noS0 : Stmt := .Pass ⟨0, 0, 0, 0⟩
def stAt (l : List Stmt) (n : Nat) : Stmt := l.getD n noS0
def stBody : Stmt → List Stmt
  | .For _ _ b _ _ => b
  | .While _ b _ _ => b
  | .If _ b _ _ => b
  | _ => []
def stElse : Stmt → List Stmt
  | .For _ _ _ b _ => b
  | .While _ _ b _ => b
  | .If _ _ b _ => b
  | _ => []
def stExp : Stmt → Expr
  | .Assign _ e _ => e
  | .Return (some e) _ => e
  | .Expr e _ => e
  | .If e _ _ _ => e
  | .For _ e _ _ _ => e
  | .While e _ _ _ => e
  | _ => noE0
def exAt (n : Nat) : Expr → Expr
  | .Call f as _ _ => (f :: as).getD n noE0
  | .List es _ => es.getD n noE0
  | .Tuple es _ _ => es.getD n noE0
  | .BinOp a _ b _ => [a, b].getD n noE0
  | .UnaryOp _ a _ => a
  | .BoolOp _ vs _ => vs.getD n noE0
  | .Compare a _ cs _ => (a :: cs).getD n noE0
  | .IfExp a b c _ => [a, b, c].getD n noE0
  | .Subscript a b _ => [a, b].getD n noE0
  | .Attribute a _ _ => a
  | _ => noE0
def lmOf (q : Str) (fr : List Str) (dv : Option Int) : Expr → Lm
  | .Lambda a b s _ => ⟨q, a, b, s, fr, dv⟩
  | _ => ⟨q, ⟨[], [], none, [], [], none, []⟩, noE0, defScope noS0, fr, dv⟩
def lamStB (ls : List Lm) (jy : List (Nat × Str)) (cl : List (List Nat)) : Bool := decide (ls.length = cl.length) && (ls.zip cl).all fun p =>
  p.1.scope.names.all (fun y => !decide (y.2 = .free) || decide (y.1 ∈ p.1.fr)) && p.1.fr.all (fun y => decide ((y, NameKind.free) ∈ p.1.scope.names)) && decide (p.1.fr.length = p.2.length) && (p.2.zip p.1.fr).all (fun q => decide (q ∈ jy))
theorem lamSt_by {ls : List Lm} {jy : List (Nat × Str)} {cl : List (List Nat)} (h : lamStB ls jy cl = true) : LamSt (fun i => ls[i]?) jy (fun i => cl.getD i []) := by
  unfold lamStB at h
  rw [Bool.and_eq_true] at h
  obtain ⟨hl, h⟩ := h
  have hl := of_decide_eq_true hl
  rw [List.all_eq_true] at h
  have at_ : ∀ i l, ls[i]? = some l → (l, cl.getD i []) ∈ ls.zip cl := fun i l e => by
    have hi : i < ls.length := (List.getElem?_eq_some_iff.mp e).1
    have hi2 : i < cl.length := by omega
    refine List.mem_iff_getElem?.mpr ⟨i, ?_⟩
    rw [List.getElem?_zip_eq_some]
    exact ⟨e, by rw [List.getD_eq_getElem?_getD, List.getElem?_eq_getElem hi2]; rfl⟩
  have all : ∀ i l, ls[i]? = some l → (∀ y ∈ l.scope.names, y.2 = .free → y.1 ∈ l.fr) ∧ (∀ y ∈ l.fr, (y, NameKind.free) ∈ l.scope.names) ∧ l.fr.length = (cl.getD i []).length ∧ ∀ q ∈ (cl.getD i []).zip l.fr, q ∈ jy := fun i l e => by
    have z := h _ (at_ i l e)
    simp only [Bool.and_eq_true, List.all_eq_true, Bool.or_eq_true, Bool.not_eq_true', decide_eq_true_eq, decide_eq_false_iff_not] at z
    obtain ⟨⟨⟨z1, z2⟩, z3⟩, z4⟩ := z
    exact ⟨fun y hy e => (z1 y hy).elim (fun q => absurd e q) id, z2, z3, z4⟩
  refine ⟨fun i l e => (all i l e).1, fun i l e => (all i l e).2.1, fun i l e => (all i l e).2.2.1, fun i l e n y j h1 h2 => (all i l e).2.2.2 _ ?_⟩
  exact List.mem_iff_getElem?.mpr ⟨n, by rw [List.getElem?_zip_eq_some]; exact ⟨h2, h1⟩⟩
theorem jyOk_by {N : List Str} {sc : Scope} {jy : List (Nat × Str)} (h : jy.all (fun p => decide (N[p.1]? = some p.2) && decide (sc.names.lookup p.2 = some .cell)) = true) : ∀ p ∈ jy, N[p.1]? = some p.2 ∧ sc.names.lookup p.2 = some .cell := fun p hp => by
  have z := List.all_eq_true.mp h p hp
  rw [Bool.and_eq_true] at z
  exact ⟨of_decide_eq_true z.1, of_decide_eq_true z.2⟩
theorem hu64q {A : Around} {k : Nat} (hr : L2H.RoomH k A) : A.units + 64 < cLine := by have := hr.un; omega
theorem lamFree_by {sc : Scope} {ns : List (Str × NameKind)} (h : ns.all (fun y => !decide (y.2 = .free) || decide (sc.names.lookup y.1 = some .cell)) = true) : ∀ y ∈ ns, y.2 = .free → sc.names.lookup y.1 = some .cell ∨ sc.names.lookup y.1 = some .free := fun y hy e => by
  have z := List.all_eq_true.mp h y hy
  simp only [Bool.or_eq_true, Bool.not_eq_true', decide_eq_true_eq, decide_eq_false_iff_not] at z
  exact .inl (z.elim (fun q => absurd e q) id)
def spLawT (K : PySem.W.Frag) (ps : List Addr) : Sp := fun vs H Q _ => ∃ (a : Addr) (ns : List Int), vs = [.ref a] ∧ SqL K H a (ns.map V.int) ∧ ns.length ≤ 63 ∧ (∀ p ∈ ps, H p = some (.tbl #[])) ∧ ∀ H', Q (.bl true) H'
/-! max of two -/
def fMax2 : List D → Option D
  | [.int i, .int j] => some (.int (if j > i then j else i))
  | _ => none
theorem ref_max2 {L : Lx} : RefCB L (fun xs H Q => ∃ i j, xs = [.int i, .int j] ∧ Q (.int (if j > i then j else i)) H) fMax2 := by
  intro M H xs ds d Q fr h e k
  unfold fMax2 at e
  split at e
  · cases e
    obtain ⟨v, w, rfl, h1, h2⟩ := h.two
    cases h1.of_int
    cases h2.of_int
    exact ⟨_, _, rfl, k _ H same0 Da.int⟩
  · cases e

end
end Ag
namespace Ag
open PySem L2
open C8 (pss_cut tCut)
section
variable {P : Program} {w : World} {K : PySem.W.Frag} {mg : Str → Option Value} {base : Heap} {cs : List (Str × Addr)}
abbrev cInvalidFormula : Nat := 0
def clF : Nat → List Str
  | 0 => ["value", "code"]
  | _ => []
def lm_0 : Lm := lmOf (("law" : Str) ++ ".<locals>." ++ "<lambda>") ["_law_form_here"] none (exAt 0 (exAt 1 (stExp (stAt (stBody (stAt (defBody s_law) 2)) 3))))
theorem sc_lam_0 : NdefX.NScope ["_law_form_here"] [] ["_law_form_here"] lm_0.scope := NdefX.nscope_by (by decide +kernel)
def lm_1 : Lm := lmOf (("law" : Str) ++ ".<locals>." ++ "<lambda>") ["_law_text_z"] (some 0) (exAt 1 (exAt 1 (stExp (stAt (stBody (stAt (defBody s_law) 2)) 3))))
theorem sc_lam_1 : NdefX.NScope ["_law_a", "_law_text_z"] ["_law_a"] ["_law_text_z"] lm_1.scope := NdefX.nscope_by (by decide +kernel)
def lmsL : List Lm := [lm_0, lm_1]
def jyL : List (Nat × Str) := [(4, "_law_form_here"), (6, "_law_text_z")]
def capsL : Nat → List Nat := fun i => [[4], [6]].getD i []
theorem lamStL : LamSt (fun i => lmsL[i]?) jyL capsL := lamSt_by (by decide +kernel)
theorem jyOkL : ∀ p ∈ jyL, (["_law_script", "_law_bag_here", "_law_words", "_law_turn", "_law_form_here", "_law_k", "_law_text_z", "_law_good", "_law_told", "_law_due", "_law_word", "_law_found", "_law_one"] : List Str)[p.1]? = some p.2 ∧ (defScope s_law).names.lookup p.2 = some .cell := jyOk_by (by decide +kernel)
def nmF : Nat → Nat → Str := fun _ _ => ("law" : Str) ++ ".<locals>." ++ "<lambda>"
def cl {K : PySem.W.Frag} {mg : Str → Option Value} (T : Txt K mg w P) (cs : List (Str × Addr)) : Cl := ⟨fun c => match c with
  | 0 => T.C_InvalidFormula
  | _ => 0, clF, [(T.tp_law, nmF)], fun i => lmsL[i]?, cs⟩
def excB : Nat → Bool
  | 0 => true
  | _ => false
theorem xok (T : Txt K mg w P) : XOk K (cl T cs) excB := ⟨fun c h => match c, h with
  | 0, _ => T.xf_InvalidFormula
  | n + 1, h => (by cases h), fun c h f hf => match c, h, f, hf with
  | 0, _, f, hf => (by
    rcases List.mem_cons.mp hf with rfl | hf
    · exact T.X_InvalidFormula.fld
    · obtain rfl := List.mem_singleton.mp hf
      exact T.X_InvalidFormula.code)
  | n + 1, h, _, _ => (by cases h)⟩
theorem emF (T : Txt K mg w P) : ∀ c, excB c = true → PySem.W.exmAny K (.ref ((cl T cs).adr c)) [.ref T.C_GroundError, .ref T.C_Missing, .ref T.C_NothingLeft] = some true := fun c h => match c, h with
  | 0, _ => T.em_InvalidFormula
  | n + 1, h => (by cases h)

/-! the law's own draws -/
def T__law_pull : DF := fun ρ R _ => ∃ m : Int, ρ = [.bag, .dat (.int m)] ∧ 0 < m ∧ m < 1099511627776 ∧ ∀ d : Int, 0 ≤ d → d < m → R (.int d)
/-- what is drawn out of a thing -/
def anyOf : D → Option (List D)
  | .lst ds => some ds
  | .tup ds => some ds
  | .str l => some (l.map fun c => .str [c])
  | _ => none
def T__law_any : DF := fun ρ R _ => ∃ (d : D) (ds : List D), ρ = [.bag, .dat d] ∧ anyOf d = some ds ∧ 0 < ds.length ∧ ds.length < 1000000 ∧ ∀ x ∈ ds, R x
theorem bag2 {C : Cl} {F : Fx} {H : Hp} {vs : List V} {d : D} (er : ER K C F H (vs.map some) [.bag, .dat d]) : ∃ b c v, F.B.bag = some (b, c) ∧ vs = [.ref b, v] ∧ Da K C F.M H d v ∧ BagAt b c H := by
  have hl := er.len
  match vs, hl with
  | [x, y], _ =>
    obtain ⟨v, hv, b, c, hB, e⟩ := er.at (i := 0) (s := .bag) rfl
    obtain ⟨u, hu, z, e2, hz⟩ := er.at (i := 1) (s := .dat d) rfl
    simp at hv hu
    subst hv hu
    cases e; cases e2
    exact ⟨b, c, _, hB, rfl, hz.weak fun a q => .inl q, er.bag.ok.bag b c hB⟩
theorem ok_D_law_pull (T : Txt K mg w P) : FnOk P w K mg base CX0 1 T.f__law_pull T.fd__law_pull ["_law_bag_here", "_law_many"] (spE K (cl T cs) T__law_pull) := by
  refine (ok_pull T).imp fun vs H Q E h => ?_
  obtain ⟨F, ρ, R, X, er, hn, ⟨m, rfl, m0, m1, k⟩, hR, _⟩ := h
  obtain ⟨b, c, v, hB, rfl, hv, hb⟩ := bag2 er
  cases hv.of_int
  refine ⟨b, c, m, rfl, hb, m0, m1, fun d H' d0 d1 x hb' => hR _ _ H' (k d d0 d1) (fun a o e nb => x a o (fun z => nb (.inl ⟨b, c, hB, z⟩)) e) (er.bag.ok.pull hB x hb') Da.int⟩
theorem ok_D_law_any (T : Txt K mg w P) : FnOk P w K mg base CX0 2 T.f__law_any T.fd__law_any ["_law_bag_here", "_law_things"] (spE K (cl T cs) T__law_any) := by
  refine (ok_any T).imp fun vs H Q E h => ?_
  obtain ⟨F, ρ, R, X, er, hn, ⟨d, ds, rfl, ea, l0, l1, k⟩, hR, _⟩ := h
  obtain ⟨b, c, v, hB, rfl, hv, hb⟩ := bag2 er
  have fs : ∀ {H'}, Ext b H H' → FStep F H H' := fun x a o e nb => x a o (fun z => nb (.inl ⟨b, c, hB, z⟩)) e
  have hbg : ∀ {H'}, Ext b H H' → BagAt b c H' → F.B.Ok F.M H' := fun x h => er.bag.ok.pull hB x h
  have mb : F.M b := er.bag.bagEx hB
  have m : ∀ {H'}, Ext b H H' → ∀ a o, ¬ F.M a → H a = some o → ¬ F.M a ∧ H' a = some o := fun x a o n e => ⟨n, x a o (fun z => n (z ▸ mb)) e⟩
  refine ⟨b, c, v, rfl, hb, ?_⟩
  cases d with
  | lst es =>
    cases ea
    unfold Da at hv
    obtain ⟨a, xs, rfl, n, h1, h2⟩ := hv
    refine .inl ⟨a, xs, rfl, .inl ⟨fun z => n (z ▸ mb), h1⟩, by rw [h2.length]; exact l0, by rw [h2.length]; exact l1, fun i x H' e1 x1 hb' => ?_⟩
    obtain ⟨d, q1, q2⟩ := h2.get e1
    exact hR d _ H' (k d (List.mem_of_getElem? q1)) (fs x1) (hbg x1 hb') (Da.mono (m x1) _ _ q2)
  | tup es =>
    cases ea
    obtain ⟨a, xs, rfl, h1, h2⟩ := hv.of_tup
    refine .inl ⟨a, xs, rfl, .inr h1, by rw [h2.length]; exact l0, by rw [h2.length]; exact l1, fun i x H' e1 x1 hb' => ?_⟩
    obtain ⟨d, q1, q2⟩ := h2.get e1
    exact hR d _ H' (k d (List.mem_of_getElem? q1)) (fs x1) (hbg x1 hb') (Da.mono (m x1) _ _ q2)
  | str l =>
    cases ea
    cases hv.of_str
    rw [List.length_map] at l0 l1
    refine .inr ⟨_, rfl, by rw [S_len]; exact l0, by rw [S_len]; exact l1, fun i cp H' e1 x1 hb' => ?_⟩
    have e1' : l[i]? = some cp := by simpa using e1
    exact hR _ _ H' (k (.str [cp]) (List.mem_map.mpr ⟨cp, List.mem_of_getElem? e1', rfl⟩)) (fs x1) (hbg x1 hb') Da.str
  | _ => cases ea

end
end Ag
namespace Ag
open PySem L2
open C8 (pss_cut tCut)
section
variable {P : Program} {w : World} {K : PySem.W.Frag} {mg : Str → Option Value} {base : Heap} {cs : List (Str × Addr)}
theorem kc_formula_text_0_formula (T : Txt K mg w P) : KBn K T.fd_formula_text ["formula"] 0 ["formula"] (fun us ws => us ++ ws) (fun vs zs => vs ++ zs) := by
  obtain ⟨_, _, _, _, _, _, _, _, _, e, _, _⟩ := T.F_formula_text.ex
  rw [e]
  exact ⟨fun s us ws _ h1 h2 => match us, ws, h1, h2 with | [], [_], _, _ => .of_eq rfl, fun r1 r2 => Vals.append r1 r2⟩
theorem kc_read_formula_0_text (T : Txt K mg w P) : KBn K T.fd_read_formula ["text"] 0 ["text"] (fun us ws => us ++ ws) (fun vs zs => vs ++ zs) := by
  obtain ⟨_, _, _, _, _, _, _, _, _, e, _, _⟩ := T.F_read_formula.ex
  rw [e]
  exact ⟨fun s us ws _ h1 h2 => match us, ws, h1, h2 with | [], [_], _, _ => .of_eq rfl, fun r1 r2 => Vals.append r1 r2⟩

noncomputable section
def T_is_number : DF := dDef 1 0 (dRet (dAndV (dIsi "int" (dVar 0)) (dNotV (dIsi "bool" (dVar 0)))))
theorem ok_is_number (T : Txt K mg w P) : FnOk P w K mg base CX0 1 T.f_is_number T.fd_is_number ["value"] (spE K (cl T cs) T_is_number) := by
    exact Fun.okD (k := 0) T.F_is_number sc_is_number (fun _ _ _ h => h.1) (fun cdv A outer s H E hr => (pss_one (toS (ps_ret (toE (pe_and (toE (pe_callB call_isi (by rfl) T.n_isinstance (by decide +kernel) (pa_cons (toE (pv 0) r_var) (pa_cons (pe_bltn (v := .ty "int") (u := .type "int") (by rfl) T.n_int (by decide +kernel) rfl) pa_nil))) (r_isi (by decide))) (pe_one (toE (pe_not (toE (pe_callB call_isi (by rfl) T.n_isinstance (by decide +kernel) (pa_cons (toE (pv 0) r_var) (pa_cons (pe_bltn (v := .ty "bool") (u := .type "bool") (by rfl) T.n_bool (by decide +kernel) rfl) pa_nil))) (r_isi (by decide)))) r_notV))) r_andV)) s_ret))) (fun _ _ _ h => h.2)

def T_is_name : DF := dDef 1 1 (dSeq (dIfS (dOr (dNot (dB (dIsi "str" (dVar 0)))) (dNot (dB (dChain fLe fLe (dC (.int 1)) (dCB fLen (dCons (dVar 0) dNil)) (dC (.int 6)))))) (dRet (dC (.bl false))) dNext)
    (dRet (dCB fAll (dCons (dLc (itemsS (dVar 0)) (dName 1) dYes (dOp fIn (dVar 1) (dC (.str (cp "abcdefghijklmnopqrstuvwxyz")))) [1]) dNil))))
theorem ok_is_name (T : Txt K mg w P) : FnOk P w K mg base CX0 1 T.f_is_name T.fd_is_name ["value"] (spE K (cl T cs) T_is_name) := by
    exact Fun.okD (k := 0) T.F_is_name sc_is_name (fun _ _ _ h => h.1) (fun cdv A outer s H E hr => (toSs (pss_cons (toS (ps_if (PW.pt (toW (pw_or (toT (pt_not (toT (pt_val (toE (pe_callB call_isi (by rfl) T.n_isinstance (by decide +kernel) (pa_cons (toE (pv 0) r_var) (pa_cons (pe_bltn (v := .ty "str") (u := .type "str") (by rfl) T.n_str (by decide +kernel) rfl) pa_nil))) (r_isi (by decide)))) r_B)) r_not) (pw_or1 (toT (pt_not (toT (pt_chain op_le op_le (toE pe_int r_int) (toE (pe_callB call_len (by rfl) T.n_len (by decide +kernel) (toA (pa_cons (toE (pv 0) r_var) (toA pa_nil r_nil)) r_cons)) (r_cb ref_len)) (toE (pe_glob (v := .int 6) rfl T.g_MOST_LETTERS ⟨_, rfl⟩) r_int)) (r_testChain ref_le ref_le))) r_not))) r_or)) (pss_one (toS (ps_ret (toE pe_bl r_bl)) s_ret)) (toSs pss_nil s_next)) s_if)
      (pss_one (toS (ps_ret (toE (pe_callB (cr_all rfl) (by rfl) T.n_all (by decide +kernel) (toA (pa_cons (toE (pe_lc (own := [("sign", 1)]) rfl sc_is_name.nd (toI (pi_str (toE (pv 0) r_var)) i_str) (blkOk_by (N := ["value", "sign"]) (sc := defScope s_is_name) (by decide +kernel)) (fun _ _ _ _ _ => (toG (pg_name (i := 1) sc_is_name.nd rfl (Or.inl rfl)) g_name)) (fun _ _ _ _ _ => toTs pts_nil r_yes) (fun _ _ _ _ _ => (toE (pe_cmpR op_inA (toE (pv 1) r_var) (toE (pe_glob (v := .str (Str.ofString "abcdefghijklmnopqrstuvwxyz")) rfl T.g_LETTERS ⟨_, rfl⟩) (r_str (s := "abcdefghijklmnopqrstuvwxyz"))) (by rfl)) (r_op ref_in)))) (r_lc (by decide))) (toA pa_nil r_nil)) r_cons)) (r_cb ref_all))) s_ret))) s_seq)) (fun _ _ _ h => h.2)

def T_is_leaf : DF := dDef 2 0 (dSeq (dIfS (dB (dOp fEq (dOp fIx (dVar 0) (dC (.int 0))) (dC (.str (cp "false"))))) (dRet (dOp fEq (dCB fLen (dCons (dVar 0) dNil)) (dC (.int 1)))) dNext)
    (dSeq (dIfS (dB (dOp fNe (dCB fLen (dCons (dVar 0) dNil)) (dC (.int 2)))) (dRet (dC (.bl false))) dNext)
    (dSeq (dIfS (dB (dOp fEq (dOp fIx (dVar 0) (dC (.int 0))) (dC (.str (cp "atom"))))) (dRet (dCall T_is_name (dCons (dOp fIx (dVar 0) (dC (.int 1))) dNil))) dNext)
    (dSeq (dIfS (dOr (dB (dOp fEq (dVar 1) (dC (.str (cp ""))))) (dB (dOp fNe (dOp fIx (dVar 0) (dC (.int 0))) (dVar 1)))) (dRet (dC (.bl false))) dNext)
    (dSeq (dIfS (dB (dOp fEq (dVar 1) (dC (.str (cp "hole"))))) (dRet (dAndV (dCall T_is_name (dCons (dOp fIx (dVar 0) (dC (.int 1))) dNil)) (dOp fEq (dCB fLen (dCons (dOp fIx (dVar 0) (dC (.int 1))) dNil)) (dC (.int 1))))) dNext)
    (dRet (dAndV (dCall T_is_number (dCons (dOp fIx (dVar 0) (dC (.int 1))) dNil)) (dOp fGe (dOp fIx (dVar 0) (dC (.int 1))) (dC (.int 0))))))))))
theorem ok_is_leaf (T : Txt K mg w P) : FnOk P w K mg base CX0 2 T.f_is_leaf T.fd_is_leaf ["value", "leaf"] (spE K (cl T cs) T_is_leaf) := by
    have G_is_name : FnOk P w K mg base CX0 1 T.f_is_name T.fd_is_name _ _ := (ok_is_name (cs := cs) T).mono (by decide)
    have G_is_number : FnOk P w K mg base CX0 1 T.f_is_number T.fd_is_number _ _ := (ok_is_number (cs := cs) T).mono (by decide)
    exact Fun.okD (k := 1) T.F_is_leaf sc_is_leaf (fun _ _ _ h => h.1) (fun cdv A outer s H E hr => (toSs (pss_cons (toS (ps_if (toT (pt_cmpR (op_eqA (hu64 hr)) (toE (pe_ix ix_seq (toE (pv 0) r_var) (toE pe_int r_int) (fun _ _ => rfl)) (r_op ref_ix)) (toE pe_str (r_str (s := "false"))) (nomark _)) (r_testOp ref_eq)) (pss_one (toS (ps_ret (toE (pe_cmpR (op_eqA (hu64 hr)) (toE (pe_callB call_len (by rfl) T.n_len (by decide +kernel) (toA (pa_cons (toE (pv 0) r_var) (toA pa_nil r_nil)) r_cons)) (r_cb ref_len)) (toE pe_int r_int) (nomark _)) (r_op ref_eq))) s_ret)) (toSs pss_nil s_next)) s_if)
      (toSs (pss_cons (toS (ps_if (toT (pt_cmpR (op_neA (hu64 hr)) (toE (pe_callB call_len (by rfl) T.n_len (by decide +kernel) (toA (pa_cons (toE (pv 0) r_var) (toA pa_nil r_nil)) r_cons)) (r_cb ref_len)) (toE pe_int r_int) (nomark _)) (r_testOp ref_ne)) (pss_one (toS (ps_ret (toE pe_bl r_bl)) s_ret)) (toSs pss_nil s_next)) s_if)
      (toSs (pss_cons (toS (ps_if (toT (pt_cmpR (op_eqA (hu64 hr)) (toE (pe_ix ix_seq (toE (pv 0) r_var) (toE pe_int r_int) (fun _ _ => rfl)) (r_op ref_ix)) (toE pe_str (r_str (s := "atom"))) (nomark _)) (r_testOp ref_eq)) (pss_one (toS (ps_ret (toE (pe_call G_is_name (hr.mono (by omega)) rfl T.g_is_name T.F_is_name.kp T.b_is_name .nil C8.pass0 (toA (pa_cons (toE (pe_ix ix_seq (toE (pv 0) r_var) (toE pe_int r_int) (fun _ _ => rfl)) (r_op ref_ix)) (toA pa_nil r_nil)) r_cons)) r_call)) s_ret)) (toSs pss_nil s_next)) s_if)
      (toSs (pss_cons (toS (ps_if (PW.pt (toW (pw_or (toT (pt_cmpR (op_eqA (hu64 hr)) (toE (pv 1) r_var) (toE pe_str (r_str (s := ""))) (nomark _)) (r_testOp ref_eq)) (pw_or1 (toT (pt_cmpR (op_neA (hu64 hr)) (toE (pe_ix ix_seq (toE (pv 0) r_var) (toE pe_int r_int) (fun _ _ => rfl)) (r_op ref_ix)) (toE (pv 1) r_var) (nomark _)) (r_testOp ref_ne)))) r_or)) (pss_one (toS (ps_ret (toE pe_bl r_bl)) s_ret)) (toSs pss_nil s_next)) s_if)
      (toSs (pss_cons (toS (ps_if (toT (pt_cmpR (op_eqA (hu64 hr)) (toE (pv 1) r_var) (toE pe_str (r_str (s := "hole"))) (nomark _)) (r_testOp ref_eq)) (pss_one (toS (ps_ret (toE (pe_and (toE (pe_call G_is_name (hr.mono (by omega)) rfl T.g_is_name T.F_is_name.kp T.b_is_name .nil C8.pass0 (toA (pa_cons (toE (pe_ix ix_seq (toE (pv 0) r_var) (toE pe_int r_int) (fun _ _ => rfl)) (r_op ref_ix)) (toA pa_nil r_nil)) r_cons)) r_call) (pe_one (toE (pe_cmpR (op_eqA (hu64 hr)) (toE (pe_callB call_len (by rfl) T.n_len (by decide +kernel) (toA (pa_cons (toE (pe_ix ix_seq (toE (pv 0) r_var) (toE pe_int r_int) (fun _ _ => rfl)) (r_op ref_ix)) (toA pa_nil r_nil)) r_cons)) (r_cb ref_len)) (toE pe_int r_int) (nomark _)) (r_op ref_eq)))) r_andV)) s_ret)) (toSs pss_nil s_next)) s_if)
      (pss_one (toS (ps_ret (toE (pe_and (toE (pe_call G_is_number (hr.mono (by omega)) rfl T.g_is_number T.F_is_number.kp T.b_is_number .nil C8.pass0 (toA (pa_cons (toE (pe_ix ix_seq (toE (pv 0) r_var) (toE pe_int r_int) (fun _ _ => rfl)) (r_op ref_ix)) (toA pa_nil r_nil)) r_cons)) r_call) (pe_one (toE (pe_cmpR op_ge (toE (pe_ix ix_seq (toE (pv 0) r_var) (toE pe_int r_int) (fun _ _ => rfl)) (r_op ref_ix)) (toE pe_int r_int) (nomark _)) (r_op ref_ge)))) r_andV)) s_ret))) s_seq)) s_seq)) s_seq)) s_seq)) s_seq)) (fun _ _ _ h => h.2)

def T_is_form : Nat → DF
  | 0 => fun ρ R X => False
  | n + 1 => dDef 3 1 (dSeq (dIfS (dOr (dB (dOp fEq (dVar 1) (dC (.int 0)))) (dOr (dNot (dB (dIsi "tuple" (dVar 0)))) (dOr (dB (dOp fEq (dCB fLen (dCons (dVar 0) dNil)) (dC (.int 0)))) (dNot (dB (dIsi "str" (dOp fIx (dVar 0) (dC (.int 0))))))))) (dRet (dC (.bl false))) dNext)
    (dSeq (dIfS (dB (dOp fNotIn (dOp fIx (dVar 0) (dC (.int 0))) (dC (tupS ["then", "and", "or"])))) (dRet (dCall T_is_leaf (dCons (dVar 0) (dCons (dVar 2) dNil)))) dNext)
    (dRet (dAndV (dOp fEq (dCB fLen (dCons (dVar 0) dNil)) (dC (.int 3))) (dCB fAll (dCons (dLc (itemsT (dSl (dVar 0) (dPart (dC (.int 1))) dNoPart)) (dName 3) dYes (dCall (T_is_form n) (dCons (dVar 3) (dCons (dOp fSub (dVar 1) (dC (.int 1))) (dCons (dVar 2) dNil)))) [3]) dNil))))))
theorem ok_is_form (T : Txt K mg w P) : ∀ n : Nat, FnOk P w K mg base CX0 (3 + n) T.f_is_form T.fd_is_form ["value", "deep", "leaf"] (spE K (cl T cs) (T_is_form n))
  | 0 => FnOk.zero fun _ _ _ h => h
  | n + 1 => by
    have G_is_form : FnOk P w K mg base CX0 (3 + n) T.f_is_form T.fd_is_form _ _ := ok_is_form T n
    have G_is_leaf : FnOk P w K mg base CX0 2 T.f_is_leaf T.fd_is_leaf _ _ := (ok_is_leaf (cs := cs) T).mono (by decide)
    exact Fun.okD (k := 3 + n) T.F_is_form sc_is_form (fun _ _ _ h => h.1) (fun cdv A outer s H E hr => (toSs (pss_cons (toS (ps_if (PW.pt (toW (pw_or (toT (pt_cmpR (op_eqA (hu64 hr)) (toE (pv 1) r_var) (toE pe_int r_int) (nomark _)) (r_testOp ref_eq)) (toW (pw_or (toT (pt_not (toT (pt_val (toE (pe_callB call_isi (by rfl) T.n_isinstance (by decide +kernel) (pa_cons (toE (pv 0) r_var) (pa_cons (pe_bltn (v := .ty "tuple") (u := .type "tuple") (by rfl) T.n_tuple (by decide +kernel) rfl) pa_nil))) (r_isi (by decide)))) r_B)) r_not) (toW (pw_or (toT (pt_cmpR (op_eqA (hu64 hr)) (toE (pe_callB call_len (by rfl) T.n_len (by decide +kernel) (toA (pa_cons (toE (pv 0) r_var) (toA pa_nil r_nil)) r_cons)) (r_cb ref_len)) (toE pe_int r_int) (nomark _)) (r_testOp ref_eq)) (pw_or1 (toT (pt_not (toT (pt_val (toE (pe_callB call_isi (by rfl) T.n_isinstance (by decide +kernel) (pa_cons (toE (pe_ix ix_seq (toE (pv 0) r_var) (toE pe_int r_int) (fun _ _ => rfl)) (r_op ref_ix)) (pa_cons (pe_bltn (v := .ty "str") (u := .type "str") (by rfl) T.n_str (by decide +kernel) rfl) pa_nil))) (r_isi (by decide)))) r_B)) r_not))) r_or)) r_or)) r_or)) (pss_one (toS (ps_ret (toE pe_bl r_bl)) s_ret)) (toSs pss_nil s_next)) s_if)
      (toSs (pss_cons (toS (ps_if (toT (pt_cmpR op_notInA (toE (pe_ix ix_seq (toE (pv 0) r_var) (toE pe_int r_int) (fun _ _ => rfl)) (r_op ref_ix)) (toE (pe_glob (v := .ref T.a_PAIRS) rfl T.g_PAIRS rfl) (r_ktup ["then", "and", "or"] T.q_PAIRS)) (by rfl)) (r_testOp ref_notIn)) (pss_one (toS (ps_ret (toE (pe_call G_is_leaf (hr.mono (by omega)) rfl T.g_is_leaf T.F_is_leaf.kp T.b_is_leaf .nil C8.pass0 (toA (pa_cons (toE (pv 0) r_var) (toA (pa_cons (toE (pv 2) r_var) (toA pa_nil r_nil)) r_cons)) r_cons)) r_call)) s_ret)) (toSs pss_nil s_next)) s_if)
      (pss_one (toS (ps_ret (toE (pe_and (toE (pe_cmpR (op_eqA (hu64 hr)) (toE (pe_callB call_len (by rfl) T.n_len (by decide +kernel) (toA (pa_cons (toE (pv 0) r_var) (toA pa_nil r_nil)) r_cons)) (r_cb ref_len)) (toE pe_int r_int) (nomark _)) (r_op ref_eq)) (pe_one (toE (pe_callB (cr_all rfl) (by rfl) T.n_all (by decide +kernel) (toA (pa_cons (toE (pe_lc (own := [("part", 3)]) rfl sc_is_form.nd (toI (pi_tup (toE (pe_slice sl_any (toE (pv 0) r_var) (toO (po_some (toE pe_int r_int)) r_part) (toO po_none r_noPart)) r_sl)) i_tup) (blkOk_by (N := ["value", "deep", "leaf", "part"]) (sc := defScope s_is_form) (by decide +kernel)) (fun _ _ _ _ _ => (toG (pg_name (i := 3) sc_is_form.nd rfl (Or.inl rfl)) g_name)) (fun _ _ _ _ _ => toTs pts_nil r_yes) (fun _ _ _ _ _ => (toE (pe_call G_is_form (hr.mono (by omega)) rfl T.g_is_form T.F_is_form.kp T.b_is_form .nil C8.pass0 (toA (pa_cons (toE (pv 3) r_var) (toA (pa_cons (toE (pe_op op_sub (toE (pv 1) r_var) (toE pe_int r_int)) (r_op ref_sub)) (toA (pa_cons (toE (pv 2) r_var) (toA pa_nil r_nil)) r_cons)) r_cons)) r_cons)) r_call))) (r_lc (by decide))) (toA pa_nil r_nil)) r_cons)) (r_cb ref_all)))) r_andV)) s_ret))) s_seq)) s_seq)) (fun _ _ _ h => h.2)

def T_is_formula : DF := dDef 1 0 (dRet (dCall (T_is_form 20) (dCons (dVar 0) (dCons (dC (.int 10)) (dCons (dC (.str (cp ""))) dNil)))))
theorem ok_is_formula (T : Txt K mg w P) : FnOk P w K mg base CX0 24 T.f_is_formula T.fd_is_formula ["value"] (spE K (cl T cs) T_is_formula) := by
    have G_is_form : FnOk P w K mg base CX0 23 T.f_is_form T.fd_is_form _ _ := (ok_is_form (cs := cs) T 20).mono (by decide)
    exact Fun.okD (k := 23) T.F_is_formula sc_is_formula (fun _ _ _ h => h.1) (fun cdv A outer s H E hr => (pss_one (toS (ps_ret (toE (pe_call G_is_form (hr.mono (by omega)) rfl T.g_is_form T.F_is_form.kp T.b_is_form .nil C8.pass0 (toA (pa_cons (toE (pv 0) r_var) (toA (pa_cons (toE (pe_glob (v := .int 10) rfl T.g_MOST_DEEP ⟨_, rfl⟩) r_int) (toA (pa_cons (toE pe_str (r_str (s := ""))) (toA pa_nil r_nil)) r_cons)) r_cons)) r_cons)) r_call)) s_ret))) (fun _ _ _ h => h.2)

def T_is_shape : DF := dDef 1 0 (dRet (dCall (T_is_form 20) (dCons (dVar 0) (dCons (dC (.int 5)) (dCons (dC (.str (cp "hole"))) dNil)))))
theorem ok_is_shape (T : Txt K mg w P) : FnOk P w K mg base CX0 24 T.f_is_shape T.fd_is_shape ["value"] (spE K (cl T cs) T_is_shape) := by
    have G_is_form : FnOk P w K mg base CX0 23 T.f_is_form T.fd_is_form _ _ := (ok_is_form (cs := cs) T 20).mono (by decide)
    exact Fun.okD (k := 23) T.F_is_shape sc_is_shape (fun _ _ _ h => h.1) (fun cdv A outer s H E hr => (pss_one (toS (ps_ret (toE (pe_call G_is_form (hr.mono (by omega)) rfl T.g_is_form T.F_is_form.kp T.b_is_form .nil C8.pass0 (toA (pa_cons (toE (pv 0) r_var) (toA (pa_cons (toE (pe_glob (v := .int 5) rfl T.g_SHAPE_DEEP ⟨_, rfl⟩) r_int) (toA (pa_cons (toE pe_str (r_str (s := "hole"))) (toA pa_nil r_nil)) r_cons)) r_cons)) r_cons)) r_call)) s_ret))) (fun _ _ _ h => h.2)

def T_written : Nat → DF
  | 0 => fun ρ R X => False
  | n + 1 => dDef 1 1 (dSeq (dAsg (dOp fIx (dVar 0) (dC (.int 0))) (dName 1))
    (dSeq (dIfS (dB (dOp fIn (dVar 1) (dC (tupS ["then", "and", "or"])))) (dRet (dJoined ((dC (.str (cp "\x28"))) :: ((dUn fFmt (dCall (T_written n) (dCons (dOp fIx (dVar 0) (dC (.int 1))) dNil))) :: ((dC (.str (cp " "))) :: ((dUn fFmt (dUn (fKd [("then", ">"), ("and", "&"), ("or", "|")]) (dVar 1))) :: ((dC (.str (cp " "))) :: ((dUn fFmt (dCall (T_written n) (dCons (dOp fIx (dVar 0) (dC (.int 2))) dNil))) :: ((dC (.str (cp "\x29"))) :: []))))))))) dNext)
    (dSeq (dIfS (dB (dOp fEq (dVar 1) (dC (.str (cp "false"))))) (dRet (dC (.str (cp "0")))) dNext)
    (dSeq (dIfS (dB (dOp fEq (dVar 1) (dC (.str (cp "hole"))))) (dRet (dOp fAdd (dC (.str (cp "?"))) (dOp fIx (dVar 0) (dC (.int 1))))) dNext)
    (dRet (dIf (dB (dOp fEq (dVar 1) (dC (.str (cp "part"))))) (dJoined ((dC (.str (cp "$"))) :: ((dUn fFmt (dOp fIx (dVar 0) (dC (.int 1)))) :: []))) (dOp fIx (dVar 0) (dC (.int 1)))))))))
theorem ok_written (T : Txt K mg w P) : ∀ n : Nat, FnOk P w K mg base CX0 (1 + n) T.f_written T.fd_written ["term"] (spE K (cl T cs) (T_written n))
  | 0 => FnOk.zero fun _ _ _ h => h
  | n + 1 => by
    have G_written : FnOk P w K mg base CX0 (1 + n) T.f_written T.fd_written _ _ := ok_written T n
    exact Fun.okD (k := 1 + n) T.F_written sc_written (fun _ _ _ h => h.1) (fun cdv A outer s H E hr => (toSs (pss_cons (toS (ps_set (i := 1) sc_written.nd rfl (Or.inl rfl) (toE (pe_ix ix_seq (toE (pv 0) r_var) (toE pe_int r_int) (fun _ _ => rfl)) (r_op ref_ix))) s_set)
      (toSs (pss_cons (toS (ps_if (toT (pt_cmpR op_inA (toE (pv 1) r_var) (toE (pe_glob (v := .ref T.a_PAIRS) rfl T.g_PAIRS rfl) (r_ktup ["then", "and", "or"] T.q_PAIRS)) (by rfl)) (r_testOp ref_in)) (pss_one (toS (ps_ret (toE (pe_joined (PJ.cons (toE pe_str (r_str (s := "\x28"))) (PJ.cons (toE (pe_fmt (toE (pe_call G_written (hr.mono (by omega)) rfl T.g_written T.F_written.kp T.b_written .nil C8.pass0 (toA (pa_cons (toE (pe_ix ix_seq (toE (pv 0) r_var) (toE pe_int r_int) (fun _ _ => rfl)) (r_op ref_ix)) (toA pa_nil r_nil)) r_cons)) r_call)) r_fmt) (PJ.cons (toE pe_str (r_str (s := " "))) (PJ.cons (toE (pe_fmt (toE (pe_ix ix_kdict (pe_glob (v := .ref T.a_SIGNS) rfl T.g_SIGNS rfl) (toE (pv 1) r_var) (fun _ _ => rfl)) (r_kdix T.kd_SIGNS))) r_fmt) (PJ.cons (toE pe_str (r_str (s := " "))) (PJ.cons (toE (pe_fmt (toE (pe_call G_written (hr.mono (by omega)) rfl T.g_written T.F_written.kp T.b_written .nil C8.pass0 (toA (pa_cons (toE (pe_ix ix_seq (toE (pv 0) r_var) (toE pe_int r_int) (fun _ _ => rfl)) (r_op ref_ix)) (toA pa_nil r_nil)) r_cons)) r_call)) r_fmt) (PJ.cons (toE pe_str (r_str (s := "\x29"))) PJ.nil)))))))) r_joined)) s_ret)) (toSs pss_nil s_next)) s_if)
      (toSs (pss_cons (toS (ps_if (toT (pt_cmpR (op_eqA (hu64 hr)) (toE (pv 1) r_var) (toE pe_str (r_str (s := "false"))) (nomark _)) (r_testOp ref_eq)) (pss_one (toS (ps_ret (toE pe_str (r_str (s := "0")))) s_ret)) (toSs pss_nil s_next)) s_if)
      (toSs (pss_cons (toS (ps_if (toT (pt_cmpR (op_eqA (hu64 hr)) (toE (pv 1) r_var) (toE pe_str (r_str (s := "hole"))) (nomark _)) (r_testOp ref_eq)) (pss_one (toS (ps_ret (toE (pe_op op_addA (toE pe_str (r_str (s := "?"))) (toE (pe_ix ix_seq (toE (pv 0) r_var) (toE pe_int r_int) (fun _ _ => rfl)) (r_op ref_ix))) (r_op ref_add))) s_ret)) (toSs pss_nil s_next)) s_if)
      (pss_one (toS (ps_ret (toE (pe_ifExp (toT (pt_cmpR (op_eqA (hu64 hr)) (toE (pv 1) r_var) (toE pe_str (r_str (s := "part"))) (nomark _)) (r_testOp ref_eq)) (toE (pe_joined (PJ.cons (toE pe_str (r_str (s := "$"))) (PJ.cons (toE (pe_fmt (toE (pe_ix ix_seq (toE (pv 0) r_var) (toE pe_int r_int) (fun _ _ => rfl)) (r_op ref_ix))) r_fmt) PJ.nil))) r_joined) (toE (pe_ix ix_seq (toE (pv 0) r_var) (toE pe_int r_int) (fun _ _ => rfl)) (r_op ref_ix))) r_if)) s_ret))) s_seq)) s_seq)) s_seq)) s_seq)) (fun _ _ _ h => h.2)

def T_formula_text : DF := dDef 1 0 (dSeq (dIfS (dAnd (dNot (dB (dCall T_is_formula (dCons (dVar 0) dNil)))) (dNot (dB (dCall T_is_shape (dCons (dVar 0) dNil))))) (dRaise1 cInvalidFormula (cp "InvalidFormula") (dCons (dVar 0) dNil)) dNext)
    (dRet (dCall (T_written 20) (dCons (dVar 0) dNil))))
theorem ok_formula_text (T : Txt K mg w P) : FnOk P w K mg base (L2.CX P w) 25 T.f_formula_text T.fd_formula_text ["formula"] (spE K (cl T cs) T_formula_text) := by
    have G_is_formula : FnOk P w K mg base CX0 24 T.f_is_formula T.fd_is_formula _ _ := (ok_is_formula (cs := cs) T).mono (by decide)
    have G_is_shape : FnOk P w K mg base CX0 24 T.f_is_shape T.fd_is_shape _ _ := (ok_is_shape (cs := cs) T).mono (by decide)
    have G_written : FnOk P w K mg base CX0 21 T.f_written T.fd_written _ _ := (ok_written (cs := cs) T 20).mono (by decide)
    exact Fun.okDX (k := 24) T.F_formula_text sc_formula_text (fun _ _ _ h => h.1) (fun cdv A outer s H E hr => (toSs (pss_cons (toS (ps_if (PW.pt (toW (pw_and (toT (pt_not (toT (pt_val (toE (pe_call G_is_formula (hr.mono (by omega)) rfl T.g_is_formula T.F_is_formula.kp T.b_is_formula .nil C8.pass0 (toA (pa_cons (toE (pv 0) r_var) (toA pa_nil r_nil)) r_cons)) r_call)) r_B)) r_not) (pw_and1 (toT (pt_not (toT (pt_val (toE (pe_call G_is_shape (hr.mono (by omega)) rfl T.g_is_shape T.F_is_shape.kp T.b_is_shape .nil C8.pass0 (toA (pa_cons (toE (pv 0) r_var) (toA pa_nil r_nil)) r_cons)) r_call)) r_B)) r_not))) r_and)) (pss_one (toS (ps_raise rfl takesD (pmk_oex T.X_InvalidFormula.sf.oex T.X_InvalidFormula.ini T.X_InvalidFormula.tyf (ok_InvalidFormula___init__ T) (hr.mono (by omega)) T.b_InvalidFormula___init__ .nil C8.pass0 rfl T.g_InvalidFormula (toA (pa_cons (toE (pv 0) r_var) (toA pa_nil r_nil)) r_cons))) (s_raiseS (c := cInvalidFormula) (code := "InvalidFormula") (fld := "value") rfl))) (toSs pss_nil s_next)) s_if)
      (pss_one (toS (ps_ret (toE (pe_call G_written (hr.mono (by omega)) rfl T.g_written T.F_written.kp T.b_written .nil C8.pass0 (toA (pa_cons (toE (pv 0) r_var) (toA pa_nil r_nil)) r_cons)) r_call)) s_ret))) s_seq)) (fun _ _ _ h => h.2)

def T_split_pair : DF := dDef 1 3 (dSeq (dAsg (dC (.int 0)) (dName 1))
    (dSeq (dFor (itemsE (dCons (dVar 0) dNil)) (dgTup 2 (dgCons (dName 2) (dgCons (dName 3) dgNil))) (dSeq (dIfS (dB (dOp fEq (dVar 3) (dC (.str (cp "\x28"))))) (dAug 1 (fIp fun i j => i + j) (dC (.int 1))) (dIfS (dB (dOp fEq (dVar 3) (dC (.str (cp "\x29"))))) (dAug 1 (fIp fun i j => i - j) (dC (.int 1))) (dIfS (dAnd (dB (dOp fEq (dVar 3) (dC (.str (cp " "))))) (dAnd (dB (dOp fEq (dVar 1) (dC (.int 0)))) (dAnd (dB (dOp fEq (dSl (dVar 0) (dPart (dOp fAdd (dVar 2) (dC (.int 2)))) (dPart (dOp fAdd (dVar 2) (dC (.int 3))))) (dC (.str (cp " "))))) (dB (dUn (fKdIn [(">", "then"), ("&", "and"), ("|", "or")]) (dOp fIx (dVar 0) (dOp fAdd (dVar 2) (dC (.int 1))))))))) (dRet (dTup (dCons (dSl (dVar 0) dNoPart (dPart (dVar 2))) (dCons (dOp fIx (dVar 0) (dOp fAdd (dVar 2) (dC (.int 1)))) (dCons (dSl (dVar 0) (dPart (dOp fAdd (dVar 2) (dC (.int 3)))) dNoPart) dNil))))) dNext)))
    (dIfS (dB (dOp fLt (dVar 1) (dC (.int 0)))) (dRet (dC .non)) dNext)))
    (dRet (dC .non))))
theorem ok_split_pair (T : Txt K mg w P) : FnOk P w K mg base CX0 1 T.f_split_pair T.fd_split_pair ["text"] (spE K (cl T cs) T_split_pair) := by
    exact Fun.okD (k := 0) T.F_split_pair sc_split_pair (fun _ _ _ h => h.1) (fun cdv A outer s H E hr => (toSs (pss_cons (toS (ps_set (i := 1) sc_split_pair.nd rfl (Or.inl rfl) (toE pe_int r_int)) s_set)
      (toSs (pss_cons (toS (ps_for PassesOwn.never rfl (toI (pi_enumA (by rfl) T.n_enumerate (toA (pa_cons (toE (pv 0) r_var) (toA pa_nil r_nil)) r_cons)) i_enum) (toG (pg_tup rfl (toGs (pgs_cons (toG (pg_name (i := 2) sc_split_pair.nd rfl (Or.inl rfl)) g_name) (toGs (pgs_cons (toG (pg_name (i := 3) sc_split_pair.nd rfl (Or.inl rfl)) g_name) (toGs pgs_nil g_nil)) g_cons)) g_cons)) g_tup) (toSs (pss_cons (toS (ps_if (toT (pt_cmpR (op_eqA (hu64 hr)) (toE (pv 3) r_var) (toE pe_str (r_str (s := "\x28"))) (nomark _)) (r_testOp ref_eq)) (pss_one (toS (ps_aug (i := 1) sc_split_pair.nd rfl (Or.inl rfl) (toE pe_int r_int) ip_add) (s_aug (ref_ip fun i j => i + j)))) (pss_one (toS (ps_if (toT (pt_cmpR (op_eqA (hu64 hr)) (toE (pv 3) r_var) (toE pe_str (r_str (s := "\x29"))) (nomark _)) (r_testOp ref_eq)) (pss_one (toS (ps_aug (i := 1) sc_split_pair.nd rfl (Or.inl rfl) (toE pe_int r_int) ip_sub) (s_aug (ref_ip fun i j => i - j)))) (pss_one (toS (ps_if (PW.pt (toW (pw_and (toT (pt_cmpR (op_eqA (hu64 hr)) (toE (pv 3) r_var) (toE pe_str (r_str (s := " "))) (nomark _)) (r_testOp ref_eq)) (toW (pw_and (toT (pt_cmpR (op_eqA (hu64 hr)) (toE (pv 1) r_var) (toE pe_int r_int) (nomark _)) (r_testOp ref_eq)) (toW (pw_and (toT (pt_cmpR (op_eqA (hu64 hr)) (toE (pe_slice sl_any (toE (pv 0) r_var) (toO (po_some (toE (pe_op op_addA (toE (pv 2) r_var) (toE pe_int r_int)) (r_op ref_add))) r_part) (toO (po_some (toE (pe_op op_addA (toE (pv 2) r_var) (toE pe_int r_int)) (r_op ref_add))) r_part)) r_sl) (toE pe_str (r_str (s := " "))) (nomark _)) (r_testOp ref_eq)) (pw_and1 (toT (pt_cmpR (op_in_kd T.kd_WORDS.choose_spec.choose_spec.1) (toE (pe_ix ix_seq (toE (pv 0) r_var) (toE (pe_op op_addA (toE (pv 2) r_var) (toE pe_int r_int)) (r_op ref_add)) (fun _ _ => rfl)) (r_op ref_ix)) (pe_glob (v := .ref T.a_WORDS) rfl T.g_WORDS rfl) (by rfl)) (r_testKdin T.kd_WORDS.choose_spec.choose_spec.1 T.kd_WORDS.choose_spec.choose_spec.2)))) r_and)) r_and)) r_and)) (pss_one (toS (ps_ret (toE (pe_tup (toA (pa_cons (toE (pe_slice sl_any (toE (pv 0) r_var) (toO po_none r_noPart) (toO (po_some (toE (pv 2) r_var)) r_part)) r_sl) (toA (pa_cons (toE (pe_ix ix_seq (toE (pv 0) r_var) (toE (pe_op op_addA (toE (pv 2) r_var) (toE pe_int r_int)) (r_op ref_add)) (fun _ _ => rfl)) (r_op ref_ix)) (toA (pa_cons (toE (pe_slice sl_any (toE (pv 0) r_var) (toO (po_some (toE (pe_op op_addA (toE (pv 2) r_var) (toE pe_int r_int)) (r_op ref_add))) r_part) (toO po_none r_noPart)) r_sl) (toA pa_nil r_nil)) r_cons)) r_cons)) r_cons)) r_tup)) s_ret)) (toSs pss_nil s_next)) s_if))) s_if))) s_if)
      (pss_one (toS (ps_if (toT (pt_cmpR op_lt (toE (pv 1) r_var) (toE pe_int r_int) (nomark _)) (r_testOp ref_lt)) (pss_one (toS (ps_ret (toE pe_non r_non)) s_ret)) (toSs pss_nil s_next)) s_if))) s_seq)) s_for)
      (pss_one (toS (ps_ret (toE pe_non r_non)) s_ret))) s_seq)) s_seq)) (fun _ _ _ h => h.2)

def T_form_in : Nat → DF
  | 0 => fun ρ R X => False
  | n + 1 => dDef 2 3 (dSeq (dIfS (dOr (dB (dOp fEq (dVar 1) (dC (.int 0)))) (dB (dOp fEq (dVar 0) (dC (.str (cp "")))))) (dRet (dC .non)) dNext)
    (dSeq (dIfS (dB (dOp fEq (dVar 0) (dC (.str (cp "0"))))) (dRet (dC (tupS ["false"]))) dNext)
    (dSeq (dIfS (dB (dOp fEq (dOp fIx (dVar 0) (dC (.int 0))) (dC (.str (cp "?"))))) (dRet (dTup (dCons (dC (.str (cp "hole"))) (dCons (dSl (dVar 0) (dPart (dC (.int 1))) dNoPart) dNil)))) dNext)
    (dSeq (dIfS (dB (dOp fNe (dOp fIx (dVar 0) (dC (.int 0))) (dC (.str (cp "\x28"))))) (dRet (dTup (dCons (dC (.str (cp "atom"))) (dCons (dVar 0) dNil)))) dNext)
    (dSeq (dAsg (dCall T_split_pair (dCons (dSl (dVar 0) (dPart (dC (.int 1))) (dPart (dUn fNeg (dC (.int 1))))) dNil)) (dName 2))
    (dSeq (dIfS (dOr (dB (dOp fNe (dOp fIx (dVar 0) (dUn fNeg (dC (.int 1)))) (dC (.str (cp "\x29"))))) (dB (dIsN (dVar 2)))) (dRet (dC .non)) dNext)
    (dSeq (dPar 3 4 (dCons (dCall (T_form_in n) (dCons (dOp fIx (dVar 2) (dC (.int 0))) (dCons (dOp fSub (dVar 1) (dC (.int 1))) dNil))) (dCons (dCall (T_form_in n) (dCons (dOp fIx (dVar 2) (dC (.int 2))) (dCons (dOp fSub (dVar 1) (dC (.int 1))) dNil))) dNil)))
    (dRet (dIf (dOr (dB (dIsN (dVar 3))) (dB (dIsN (dVar 4)))) (dC .non) (dTup (dCons (dUn (fKd [(">", "then"), ("&", "and"), ("|", "or")]) (dOp fIx (dVar 2) (dC (.int 1)))) (dCons (dVar 3) (dCons (dVar 4) dNil)))))))))))))
theorem ok_form_in (T : Txt K mg w P) : ∀ n : Nat, FnOk P w K mg base CX0 (2 + n) T.f_form_in T.fd_form_in ["text", "deep"] (spE K (cl T cs) (T_form_in n))
  | 0 => FnOk.zero fun _ _ _ h => h
  | n + 1 => by
    have G_form_in : FnOk P w K mg base CX0 (2 + n) T.f_form_in T.fd_form_in _ _ := ok_form_in T n
    have G_split_pair : FnOk P w K mg base CX0 1 T.f_split_pair T.fd_split_pair _ _ := (ok_split_pair (cs := cs) T).mono (by decide)
    exact Fun.okD (k := 2 + n) T.F_form_in sc_form_in (fun _ _ _ h => h.1) (fun cdv A outer s H E hr => (toSs (pss_cons (toS (ps_if (PW.pt (toW (pw_or (toT (pt_cmpR (op_eqA (hu64 hr)) (toE (pv 1) r_var) (toE pe_int r_int) (nomark _)) (r_testOp ref_eq)) (pw_or1 (toT (pt_cmpR (op_eqA (hu64 hr)) (toE (pv 0) r_var) (toE pe_str (r_str (s := ""))) (nomark _)) (r_testOp ref_eq)))) r_or)) (pss_one (toS (ps_ret (toE pe_non r_non)) s_ret)) (toSs pss_nil s_next)) s_if)
      (toSs (pss_cons (toS (ps_if (toT (pt_cmpR (op_eqA (hu64 hr)) (toE (pv 0) r_var) (toE pe_str (r_str (s := "0"))) (nomark _)) (r_testOp ref_eq)) (pss_one (toS (ps_ret (toE (pe_glob (v := .ref T.a_FALSE) rfl T.g_FALSE rfl) (r_ktup ["false"] T.q_FALSE))) s_ret)) (toSs pss_nil s_next)) s_if)
      (toSs (pss_cons (toS (ps_if (toT (pt_cmpR (op_eqA (hu64 hr)) (toE (pe_ix ix_seq (toE (pv 0) r_var) (toE pe_int r_int) (fun _ _ => rfl)) (r_op ref_ix)) (toE pe_str (r_str (s := "?"))) (nomark _)) (r_testOp ref_eq)) (pss_one (toS (ps_ret (toE (pe_tup (toA (pa_cons (toE pe_str (r_str (s := "hole"))) (toA (pa_cons (toE (pe_slice sl_any (toE (pv 0) r_var) (toO (po_some (toE pe_int r_int)) r_part) (toO po_none r_noPart)) r_sl) (toA pa_nil r_nil)) r_cons)) r_cons)) r_tup)) s_ret)) (toSs pss_nil s_next)) s_if)
      (toSs (pss_cons (toS (ps_if (toT (pt_cmpR (op_neA (hu64 hr)) (toE (pe_ix ix_seq (toE (pv 0) r_var) (toE pe_int r_int) (fun _ _ => rfl)) (r_op ref_ix)) (toE pe_str (r_str (s := "\x28"))) (nomark _)) (r_testOp ref_ne)) (pss_one (toS (ps_ret (toE (pe_tup (toA (pa_cons (toE pe_str (r_str (s := "atom"))) (toA (pa_cons (toE (pv 0) r_var) (toA pa_nil r_nil)) r_cons)) r_cons)) r_tup)) s_ret)) (toSs pss_nil s_next)) s_if)
      (toSs (pss_cons (toS (ps_set (i := 2) sc_form_in.nd rfl (Or.inl rfl) (toE (pe_call G_split_pair (hr.mono (by omega)) rfl T.g_split_pair T.F_split_pair.kp T.b_split_pair .nil C8.pass0 (toA (pa_cons (toE (pe_slice sl_any (toE (pv 0) r_var) (toO (po_some (toE pe_int r_int)) r_part) (toO (po_some (toE (pe_un un_neg (toE pe_int r_int)) (r_un ref_neg))) r_part)) r_sl) (toA pa_nil r_nil)) r_cons)) r_call)) s_set)
      (toSs (pss_cons (toS (ps_if (PW.pt (toW (pw_or (toT (pt_cmpR (op_neA (hu64 hr)) (toE (pe_ix ix_seq (toE (pv 0) r_var) (toE (pe_un un_neg (toE pe_int r_int)) (r_un ref_neg)) (fun _ _ => rfl)) (r_op ref_ix)) (toE pe_str (r_str (s := "\x29"))) (nomark _)) (r_testOp ref_ne)) (pw_or1 (toT (pt_cmp (pc_isN (toE (pv 2) r_var))) r_testIsN))) r_or)) (pss_one (toS (ps_ret (toE pe_non r_non)) s_ret)) (toSs pss_nil s_next)) s_if)
      (toSs (pss_cons (toS (ps_par (i := 3) (j := 4) rfl sc_form_in.nd rfl rfl (by decide) rfl rfl (toA (pa_cons (toE (pe_call G_form_in (hr.mono (by omega)) rfl T.g_form_in T.F_form_in.kp T.b_form_in .nil C8.pass0 (toA (pa_cons (toE (pe_ix ix_seq (toE (pv 2) r_var) (toE pe_int r_int) (fun _ _ => rfl)) (r_op ref_ix)) (toA (pa_cons (toE (pe_op op_sub (toE (pv 1) r_var) (toE pe_int r_int)) (r_op ref_sub)) (toA pa_nil r_nil)) r_cons)) r_cons)) r_call) (toA (pa_cons (toE (pe_call G_form_in (hr.mono (by omega)) rfl T.g_form_in T.F_form_in.kp T.b_form_in .nil C8.pass0 (toA (pa_cons (toE (pe_ix ix_seq (toE (pv 2) r_var) (toE pe_int r_int) (fun _ _ => rfl)) (r_op ref_ix)) (toA (pa_cons (toE (pe_op op_sub (toE (pv 1) r_var) (toE pe_int r_int)) (r_op ref_sub)) (toA pa_nil r_nil)) r_cons)) r_cons)) r_call) (toA pa_nil r_nil)) r_cons)) r_cons) rfl) s_par)
      (pss_one (toS (ps_ret (toE (pe_ifExp (PW.pt (toW (pw_or (toT (pt_cmp (pc_isN (toE (pv 3) r_var))) r_testIsN) (pw_or1 (toT (pt_cmp (pc_isN (toE (pv 4) r_var))) r_testIsN))) r_or)) (toE pe_non r_non) (toE (pe_tup (toA (pa_cons (toE (pe_ix ix_kdict (pe_glob (v := .ref T.a_WORDS) rfl T.g_WORDS rfl) (toE (pe_ix ix_seq (toE (pv 2) r_var) (toE pe_int r_int) (fun _ _ => rfl)) (r_op ref_ix)) (fun _ _ => rfl)) (r_kdix T.kd_WORDS)) (toA (pa_cons (toE (pv 3) r_var) (toA (pa_cons (toE (pv 4) r_var) (toA pa_nil r_nil)) r_cons)) r_cons)) r_cons)) r_tup)) r_if)) s_ret))) s_seq)) s_seq)) s_seq)) s_seq)) s_seq)) s_seq)) s_seq)) (fun _ _ _ h => h.2)

def T_read_formula : DF := dDef 1 1 (dSeq (dAsg (dIf (dB (dIsi "str" (dVar 0))) (dCall (T_form_in 20) (dCons (dVar 0) (dCons (dC (.int 10)) dNil))) (dC .non)) (dName 1))
    (dSeq (dIfS (dNot (dB (dCall T_is_formula (dCons (dVar 1) dNil)))) (dRaise1 cInvalidFormula (cp "InvalidFormula") (dCons (dVar 0) dNil)) dNext)
    (dRet (dVar 1))))
theorem ok_read_formula (T : Txt K mg w P) : FnOk P w K mg base (L2.CX P w) 25 T.f_read_formula T.fd_read_formula ["text"] (spE K (cl T cs) T_read_formula) := by
    have G_form_in : FnOk P w K mg base CX0 22 T.f_form_in T.fd_form_in _ _ := (ok_form_in (cs := cs) T 20).mono (by decide)
    have G_is_formula : FnOk P w K mg base CX0 24 T.f_is_formula T.fd_is_formula _ _ := (ok_is_formula (cs := cs) T).mono (by decide)
    exact Fun.okDX (k := 24) T.F_read_formula sc_read_formula (fun _ _ _ h => h.1) (fun cdv A outer s H E hr => (toSs (pss_cons (toS (ps_set (i := 1) sc_read_formula.nd rfl (Or.inl rfl) (toE (pe_ifExp (toT (pt_val (toE (pe_callB call_isi (by rfl) T.n_isinstance (by decide +kernel) (pa_cons (toE (pv 0) r_var) (pa_cons (pe_bltn (v := .ty "str") (u := .type "str") (by rfl) T.n_str (by decide +kernel) rfl) pa_nil))) (r_isi (by decide)))) r_B) (toE (pe_call G_form_in (hr.mono (by omega)) rfl T.g_form_in T.F_form_in.kp T.b_form_in .nil C8.pass0 (toA (pa_cons (toE (pv 0) r_var) (toA (pa_cons (toE (pe_glob (v := .int 10) rfl T.g_MOST_DEEP ⟨_, rfl⟩) r_int) (toA pa_nil r_nil)) r_cons)) r_cons)) r_call) (toE pe_non r_non)) r_if)) s_set)
      (toSs (pss_cons (toS (ps_if (toT (pt_not (toT (pt_val (toE (pe_call G_is_formula (hr.mono (by omega)) rfl T.g_is_formula T.F_is_formula.kp T.b_is_formula .nil C8.pass0 (toA (pa_cons (toE (pv 1) r_var) (toA pa_nil r_nil)) r_cons)) r_call)) r_B)) r_not) (pss_one (toS (ps_raise rfl takesD (pmk_oex T.X_InvalidFormula.sf.oex T.X_InvalidFormula.ini T.X_InvalidFormula.tyf (ok_InvalidFormula___init__ T) (hr.mono (by omega)) T.b_InvalidFormula___init__ .nil C8.pass0 rfl T.g_InvalidFormula (toA (pa_cons (toE (pv 0) r_var) (toA pa_nil r_nil)) r_cons))) (s_raiseS (c := cInvalidFormula) (code := "InvalidFormula") (fld := "value") rfl))) (toSs pss_nil s_next)) s_if)
      (pss_one (toS (ps_ret (toE (pv 1) r_var)) s_ret))) s_seq)) s_seq)) (fun _ _ _ h => h.2)

def T__law_text : Nat → DF
  | 0 => fun ρ R X => False
  | n + 1 => dDef 1 2 (dSeq (dAsg (dOp fIx (dVar 0) (dC (.int 0))) (dName 1))
    (dSeq (dIfS (dB (dOp fIn (dVar 1) (dTup (dCons (dC (.str (cp "then"))) (dCons (dC (.str (cp "and"))) (dCons (dC (.str (cp "or"))) dNil)))))) (dSeq (dAsg (dIf (dB (dOp fEq (dVar 1) (dC (.str (cp "then"))))) (dC (.str (cp ">"))) (dIf (dB (dOp fEq (dVar 1) (dC (.str (cp "and"))))) (dC (.str (cp "&"))) (dC (.str (cp "|"))))) (dName 2))
    (dRet (dOp fAdd (dOp fAdd (dOp fAdd (dOp fAdd (dOp fAdd (dOp fAdd (dC (.str (cp "\x28"))) (dCall (T__law_text n) (dCons (dOp fIx (dVar 0) (dC (.int 1))) dNil))) (dC (.str (cp " ")))) (dVar 2)) (dC (.str (cp " ")))) (dCall (T__law_text n) (dCons (dOp fIx (dVar 0) (dC (.int 2))) dNil))) (dC (.str (cp "\x29")))))) dNext)
    (dSeq (dIfS (dB (dOp fEq (dVar 1) (dC (.str (cp "false"))))) (dRet (dC (.str (cp "0")))) dNext)
    (dRet (dOp fAdd (dIf (dB (dOp fEq (dVar 1) (dC (.str (cp "hole"))))) (dC (.str (cp "?"))) (dC (.str (cp "")))) (dOp fIx (dVar 0) (dC (.int 1))))))))
theorem ok__law_text (T : Txt K mg w P) : ∀ n : Nat, FnOk P w K mg base CX0 (1 + n) T.f__law_text T.fd__law_text ["_law_term"] (spE K (cl T cs) (T__law_text n))
  | 0 => FnOk.zero fun _ _ _ h => h
  | n + 1 => by
    have G__law_text : FnOk P w K mg base CX0 (1 + n) T.f__law_text T.fd__law_text _ _ := ok__law_text T n
    exact Fun.okD (k := 1 + n) T.F__law_text sc__law_text (fun _ _ _ h => h.1) (fun cdv A outer s H E hr => (toSs (pss_cons (toS (ps_set (i := 1) sc__law_text.nd rfl (Or.inl rfl) (toE (pe_ix ix_seq (toE (pv 0) r_var) (toE pe_int r_int) (fun _ _ => rfl)) (r_op ref_ix))) s_set)
      (toSs (pss_cons (toS (ps_if (toT (pt_cmpR op_inA (toE (pv 1) r_var) (toE (pe_tup (toA (pa_cons (toE pe_str (r_str (s := "then"))) (toA (pa_cons (toE pe_str (r_str (s := "and"))) (toA (pa_cons (toE pe_str (r_str (s := "or"))) (toA pa_nil r_nil)) r_cons)) r_cons)) r_cons)) r_tup) (by rfl)) (r_testOp ref_in)) (toSs (pss_cons (toS (ps_set (i := 2) sc__law_text.nd rfl (Or.inl rfl) (toE (pe_ifExp (toT (pt_cmpR (op_eqA (hu64 hr)) (toE (pv 1) r_var) (toE pe_str (r_str (s := "then"))) (nomark _)) (r_testOp ref_eq)) (toE pe_str (r_str (s := ">"))) (toE (pe_ifExp (toT (pt_cmpR (op_eqA (hu64 hr)) (toE (pv 1) r_var) (toE pe_str (r_str (s := "and"))) (nomark _)) (r_testOp ref_eq)) (toE pe_str (r_str (s := "&"))) (toE pe_str (r_str (s := "|")))) r_if)) r_if)) s_set)
      (pss_one (toS (ps_ret (toE (pe_op op_addA (toE (pe_op op_addA (toE (pe_op op_addA (toE (pe_op op_addA (toE (pe_op op_addA (toE (pe_op op_addA (toE pe_str (r_str (s := "\x28"))) (toE (pe_call G__law_text (hr.mono (by omega)) rfl T.g__law_text T.F__law_text.kp T.b__law_text .nil C8.pass0 (toA (pa_cons (toE (pe_ix ix_seq (toE (pv 0) r_var) (toE pe_int r_int) (fun _ _ => rfl)) (r_op ref_ix)) (toA pa_nil r_nil)) r_cons)) r_call)) (r_op ref_add)) (toE pe_str (r_str (s := " ")))) (r_op ref_add)) (toE (pv 2) r_var)) (r_op ref_add)) (toE pe_str (r_str (s := " ")))) (r_op ref_add)) (toE (pe_call G__law_text (hr.mono (by omega)) rfl T.g__law_text T.F__law_text.kp T.b__law_text .nil C8.pass0 (toA (pa_cons (toE (pe_ix ix_seq (toE (pv 0) r_var) (toE pe_int r_int) (fun _ _ => rfl)) (r_op ref_ix)) (toA pa_nil r_nil)) r_cons)) r_call)) (r_op ref_add)) (toE pe_str (r_str (s := "\x29")))) (r_op ref_add))) s_ret))) s_seq) (toSs pss_nil s_next)) s_if)
      (toSs (pss_cons (toS (ps_if (toT (pt_cmpR (op_eqA (hu64 hr)) (toE (pv 1) r_var) (toE pe_str (r_str (s := "false"))) (nomark _)) (r_testOp ref_eq)) (pss_one (toS (ps_ret (toE pe_str (r_str (s := "0")))) s_ret)) (toSs pss_nil s_next)) s_if)
      (pss_one (toS (ps_ret (toE (pe_op op_addA (toE (pe_ifExp (toT (pt_cmpR (op_eqA (hu64 hr)) (toE (pv 1) r_var) (toE pe_str (r_str (s := "hole"))) (nomark _)) (r_testOp ref_eq)) (toE pe_str (r_str (s := "?"))) (toE pe_str (r_str (s := "")))) r_if) (toE (pe_ix ix_seq (toE (pv 0) r_var) (toE pe_int r_int) (fun _ _ => rfl)) (r_op ref_ix))) (r_op ref_add))) s_ret))) s_seq)) s_seq)) s_seq)) (fun _ _ _ h => h.2)

def T__law_like : Nat → DF
  | 0 => fun ρ R X => False
  | n + 1 => dDef 2 3 (dSeq (dIfS (dB (dIsi "dict" (dVar 1))) dNever dNext)
    (dSeq (dIfS (dB (dIsi2 "list" "tuple" (dVar 1))) (dSeq (dIfS (dOr (dB (dOp fNe (dIsi "list" (dVar 0)) (dIsi "list" (dVar 1)))) (dB (dOp fNe (dIsi "tuple" (dVar 0)) (dIsi "tuple" (dVar 1))))) (dRet (dC (.bl false))) dNext)
    (dRet (dAndV (dOp fEq (dCB fLen (dCons (dVar 0) dNil)) (dCB fLen (dCons (dVar 1) dNil))) (dCB fAll (dCons (dLc (itemsZ (dCons (dVar 0) (dCons (dVar 1) dNil))) (dgTup 2 (dgCons (dName 3) (dgCons (dName 4) dgNil))) dYes (dCall (T__law_like n) (dCons (dVar 3) (dCons (dVar 4) dNil))) [3, 4]) dNil))))) dNext)
    (dSeq (dIfS (dOr (dB (dIsN (dVar 1))) (dB (dIsN (dVar 0)))) (dRet (dAndV (dIsN (dVar 1)) (dIsN (dVar 0)))) dNext)
    (dSeq (dIfS (dOr (dB (dOp fNe (dIsi "bool" (dVar 0)) (dIsi "bool" (dVar 1)))) (dB (dOp fNe (dIsi "int" (dVar 0)) (dIsi "int" (dVar 1))))) (dRet (dC (.bl false))) dNext)
    (dRet (dAndV (dOp fEq (dIsi "str" (dVar 0)) (dIsi "str" (dVar 1))) (dOp fEq (dVar 0) (dVar 1))))))))
theorem ok__law_like (T : Txt K mg w P) : ∀ n : Nat, FnOk P w K mg base CX0 (1 + n) T.f__law_like T.fd__law_like ["_law_found", "_law_due"] (spE K (cl T cs) (T__law_like n))
  | 0 => FnOk.zero fun _ _ _ h => h
  | n + 1 => by
    have G__law_like : FnOk P w K mg base CX0 (1 + n) T.f__law_like T.fd__law_like _ _ := ok__law_like T n
    exact Fun.okD (k := 1 + n) T.F__law_like sc__law_like (fun _ _ _ h => h.1) (fun cdv A outer s H E hr => (toSs (pss_cons (toS (ps_if (toT (pt_val (toE (pe_callB call_isi (by rfl) T.n_isinstance (by decide +kernel) (pa_cons (toE (pv 1) r_var) (pa_cons (pe_bltn (v := .ty "dict") (u := .type "dict") (by rfl) T.n_dict (by decide +kernel) rfl) pa_nil))) (r_isi (by decide)))) r_B) (toSs pss_never s_never) (toSs pss_nil s_next)) s_if)
      (toSs (pss_cons (toS (ps_if (toT (pt_val (toE (pe_callB call_isiT (by rfl) T.n_isinstance (by decide +kernel) (pa_cons (toE (pv 1) r_var) (pa_cons (pe_tup (pa_cons (pe_bltn (v := .ty "list") (u := .type "list") (by rfl) T.n_list (by decide +kernel) rfl) (pa_cons (pe_bltn (v := .ty "tuple") (u := .type "tuple") (by rfl) T.n_tuple (by decide +kernel) rfl) pa_nil))) pa_nil))) (r_isi2 (by decide) (by decide)))) r_B) (toSs (pss_cons (toS (ps_if (PW.pt (toW (pw_or (toT (pt_cmpR (op_neA (hu64 hr)) (toE (pe_callB call_isi (by rfl) T.n_isinstance (by decide +kernel) (pa_cons (toE (pv 0) r_var) (pa_cons (pe_bltn (v := .ty "list") (u := .type "list") (by rfl) T.n_list (by decide +kernel) rfl) pa_nil))) (r_isi (by decide))) (toE (pe_callB call_isi (by rfl) T.n_isinstance (by decide +kernel) (pa_cons (toE (pv 1) r_var) (pa_cons (pe_bltn (v := .ty "list") (u := .type "list") (by rfl) T.n_list (by decide +kernel) rfl) pa_nil))) (r_isi (by decide))) (nomark _)) (r_testOp ref_ne)) (pw_or1 (toT (pt_cmpR (op_neA (hu64 hr)) (toE (pe_callB call_isi (by rfl) T.n_isinstance (by decide +kernel) (pa_cons (toE (pv 0) r_var) (pa_cons (pe_bltn (v := .ty "tuple") (u := .type "tuple") (by rfl) T.n_tuple (by decide +kernel) rfl) pa_nil))) (r_isi (by decide))) (toE (pe_callB call_isi (by rfl) T.n_isinstance (by decide +kernel) (pa_cons (toE (pv 1) r_var) (pa_cons (pe_bltn (v := .ty "tuple") (u := .type "tuple") (by rfl) T.n_tuple (by decide +kernel) rfl) pa_nil))) (r_isi (by decide))) (nomark _)) (r_testOp ref_ne)))) r_or)) (pss_one (toS (ps_ret (toE pe_bl r_bl)) s_ret)) (toSs pss_nil s_next)) s_if)
      (pss_one (toS (ps_ret (toE (pe_and (toE (pe_cmpR (op_eqA (hu64 hr)) (toE (pe_callB call_len (by rfl) T.n_len (by decide +kernel) (toA (pa_cons (toE (pv 0) r_var) (toA pa_nil r_nil)) r_cons)) (r_cb ref_len)) (toE (pe_callB call_len (by rfl) T.n_len (by decide +kernel) (toA (pa_cons (toE (pv 1) r_var) (toA pa_nil r_nil)) r_cons)) (r_cb ref_len)) (nomark _)) (r_op ref_eq)) (pe_one (toE (pe_callB (cr_all rfl) (by rfl) T.n_all (by decide +kernel) (toA (pa_cons (toE (pe_lc (own := [("_law_one", 3), ("_law_other", 4)]) rfl sc__law_like.nd (toI (RZ.pi_zipA (by rfl) T.n_zip (toA (pa_cons (toE (pv 0) r_var) (toA (pa_cons (toE (pv 1) r_var) (toA pa_nil r_nil)) r_cons)) r_cons)) i_zip) (blkOk_by (N := ["_law_found", "_law_due", "_law_key", "_law_one", "_law_other"]) (sc := defScope s__law_like) (by decide +kernel)) (fun _ _ _ _ _ => (toG (pg_tup rfl (toGs (pgs_cons (toG (pg_name (i := 3) sc__law_like.nd rfl (Or.inl rfl)) g_name) (toGs (pgs_cons (toG (pg_name (i := 4) sc__law_like.nd rfl (Or.inl rfl)) g_name) (toGs pgs_nil g_nil)) g_cons)) g_cons)) g_tup)) (fun _ _ _ _ _ => toTs pts_nil r_yes) (fun _ _ _ _ _ => (toE (pe_call G__law_like (hr.mono (by omega)) rfl T.g__law_like T.F__law_like.kp T.b__law_like .nil C8.pass0 (toA (pa_cons (toE (pv 3) r_var) (toA (pa_cons (toE (pv 4) r_var) (toA pa_nil r_nil)) r_cons)) r_cons)) r_call))) (r_lc (by decide))) (toA pa_nil r_nil)) r_cons)) (r_cb ref_all)))) r_andV)) s_ret))) s_seq) (toSs pss_nil s_next)) s_if)
      (toSs (pss_cons (toS (ps_if (PW.pt (toW (pw_or (toT (pt_cmp (pc_isN (toE (pv 1) r_var))) r_testIsN) (pw_or1 (toT (pt_cmp (pc_isN (toE (pv 0) r_var))) r_testIsN))) r_or)) (pss_one (toS (ps_ret (toE (pe_and (toE (pe_cmp (pc_isN (toE (pv 1) r_var)) rfl) r_isN) (pe_one (toE (pe_cmp (pc_isN (toE (pv 0) r_var)) rfl) r_isN))) r_andV)) s_ret)) (toSs pss_nil s_next)) s_if)
      (toSs (pss_cons (toS (ps_if (PW.pt (toW (pw_or (toT (pt_cmpR (op_neA (hu64 hr)) (toE (pe_callB call_isi (by rfl) T.n_isinstance (by decide +kernel) (pa_cons (toE (pv 0) r_var) (pa_cons (pe_bltn (v := .ty "bool") (u := .type "bool") (by rfl) T.n_bool (by decide +kernel) rfl) pa_nil))) (r_isi (by decide))) (toE (pe_callB call_isi (by rfl) T.n_isinstance (by decide +kernel) (pa_cons (toE (pv 1) r_var) (pa_cons (pe_bltn (v := .ty "bool") (u := .type "bool") (by rfl) T.n_bool (by decide +kernel) rfl) pa_nil))) (r_isi (by decide))) (nomark _)) (r_testOp ref_ne)) (pw_or1 (toT (pt_cmpR (op_neA (hu64 hr)) (toE (pe_callB call_isi (by rfl) T.n_isinstance (by decide +kernel) (pa_cons (toE (pv 0) r_var) (pa_cons (pe_bltn (v := .ty "int") (u := .type "int") (by rfl) T.n_int (by decide +kernel) rfl) pa_nil))) (r_isi (by decide))) (toE (pe_callB call_isi (by rfl) T.n_isinstance (by decide +kernel) (pa_cons (toE (pv 1) r_var) (pa_cons (pe_bltn (v := .ty "int") (u := .type "int") (by rfl) T.n_int (by decide +kernel) rfl) pa_nil))) (r_isi (by decide))) (nomark _)) (r_testOp ref_ne)))) r_or)) (pss_one (toS (ps_ret (toE pe_bl r_bl)) s_ret)) (toSs pss_nil s_next)) s_if)
      (pss_one (toS (ps_ret (toE (pe_and (toE (pe_cmpR (op_eqA (hu64 hr)) (toE (pe_callB call_isi (by rfl) T.n_isinstance (by decide +kernel) (pa_cons (toE (pv 0) r_var) (pa_cons (pe_bltn (v := .ty "str") (u := .type "str") (by rfl) T.n_str (by decide +kernel) rfl) pa_nil))) (r_isi (by decide))) (toE (pe_callB call_isi (by rfl) T.n_isinstance (by decide +kernel) (pa_cons (toE (pv 1) r_var) (pa_cons (pe_bltn (v := .ty "str") (u := .type "str") (by rfl) T.n_str (by decide +kernel) rfl) pa_nil))) (r_isi (by decide))) (nomark _)) (r_op ref_eq)) (pe_one (toE (pe_cmpR (op_eqA (hu64 hr)) (toE (pv 0) r_var) (toE (pv 1) r_var) (nomark _)) (r_op ref_eq)))) r_andV)) s_ret))) s_seq)) s_seq)) s_seq)) s_seq)) (fun _ _ _ h => h.2)

def T__law_names : DF := dDef 2 5 (dSeq (dAsg (dC (.str (cp "abcdefghijklmnopqrstuvwxyz"))) (dName 2))
    (dSeq (dAsg (dJoin (dC (.str (cp ""))) (dLc (itemsR1 (dCons (dCall T__law_pull (dBagA 0 (dCons (dC (.int 5)) dNil))) dNil)) (dName 6) dYes (dCall T__law_any (dBagA 0 (dCons (dVar 2) dNil))) [6])) (dName 3))
    (dSeq (dAsg (dTup (dCons (dCall T__law_pull (dBagA 0 (dCons (dOp fAdd (dCB fLen (dCons (dVar 3) dNil)) (dC (.int 1))) dNil))) (dCons (dCall T__law_pull (dBagA 0 (dCons (dC (.int 26)) dNil))) dNil))) (dgTup 2 (dgCons (dName 4) (dgCons (dName 5) dgNil))))
    (dRet (dLc (itemsR1 (dCons (dVar 1) dNil)) (dName 6) dYes (dOp fAdd (dOp fAdd (dSl (dVar 3) dNoPart (dPart (dVar 4))) (dOp fIx (dVar 2) (dOp fMod (dCB fToInt (dCons (dOp fAdd (dVar 5) (dOp fMul (dC (.int 5)) (dVar 6))) dNil)) (dC (.int 26))))) (dSl (dVar 3) (dPart (dVar 4)) dNoPart)) [6])))))
theorem ok__law_names (T : Txt K mg w P) : FnOk P w K mg base CX0 3 T.f__law_names T.fd__law_names ["_law_bag_here", "_law_many"] (spE K (cl T cs) T__law_names) := by
    have G__law_any : FnOk P w K mg base CX0 2 T.f__law_any T.fd__law_any _ _ := (ok_D_law_any (cs := cs) T).mono (by decide)
    have G__law_pull : FnOk P w K mg base CX0 1 T.f__law_pull T.fd__law_pull _ _ := (ok_D_law_pull (cs := cs) T).mono (by decide)
    exact Fun.okD (k := 2) T.F__law_names sc__law_names (fun _ _ _ h => h.1) (fun cdv A outer s H E hr => (toSs (pss_cons (toS (ps_set (i := 2) sc__law_names.nd rfl (Or.inr rfl) (toE pe_str (r_str (s := "abcdefghijklmnopqrstuvwxyz")))) s_set)
      (toSs (pss_cons (toS (ps_set (i := 3) sc__law_names.nd rfl (Or.inr rfl) (toE (pe_join (toE pe_str (r_str (s := ""))) (toE (pe_lc (own := [("_law_k", 6)]) rfl sc__law_names.nd (toI (pi_range1 (by rfl) T.n_range (toA (pa_cons (toE (pe_call G__law_pull (hr.mono (by omega)) rfl T.g__law_pull T.F__law_pull.kp T.b__law_pull .nil C8.pass0 (toA (pa_cons (pv 0) (toA (pa_cons (toE pe_int r_int) (toA pa_nil r_nil)) r_cons)) r_bagA)) r_call) (toA pa_nil r_nil)) r_cons)) i_range1) (blkOk_by (N := ["_law_bag_here", "_law_many", "_law_letters", "_law_stem", "_law_at", "_law_first", "_law_k"]) (sc := defScope s__law_names) (by decide +kernel)) (fun _ _ _ _ _ => (toG (pg_name (i := 6) sc__law_names.nd rfl (Or.inl rfl)) g_name)) (fun _ _ _ _ _ => toTs pts_nil r_yes) (fun _ _ _ _ _ => (toE (pe_call G__law_any (hr.mono (by omega)) rfl T.g__law_any T.F__law_any.kp T.b__law_any .nil C8.pass0 (toA (pa_cons (pv 0) (toA (pa_cons (toE (pv 2) r_var) (toA pa_nil r_nil)) r_cons)) r_bagA)) r_call))) (r_lc (by decide)))) r_join)) s_set)
      (toSs (pss_cons (toS (ps_asg (toE (pe_tup (toA (pa_cons (toE (pe_call G__law_pull (hr.mono (by omega)) rfl T.g__law_pull T.F__law_pull.kp T.b__law_pull .nil C8.pass0 (toA (pa_cons (pv 0) (toA (pa_cons (toE (pe_op op_addA (toE (pe_callB call_len (by rfl) T.n_len (by decide +kernel) (toA (pa_cons (toE (pv 3) r_var) (toA pa_nil r_nil)) r_cons)) (r_cb ref_len)) (toE pe_int r_int)) (r_op ref_add)) (toA pa_nil r_nil)) r_cons)) r_bagA)) r_call) (toA (pa_cons (toE (pe_call G__law_pull (hr.mono (by omega)) rfl T.g__law_pull T.F__law_pull.kp T.b__law_pull .nil C8.pass0 (toA (pa_cons (pv 0) (toA (pa_cons (toE pe_int r_int) (toA pa_nil r_nil)) r_cons)) r_bagA)) r_call) (toA pa_nil r_nil)) r_cons)) r_cons)) r_tup) (toG (pg_tup rfl (toGs (pgs_cons (toG (pg_name (i := 4) sc__law_names.nd rfl (Or.inr rfl)) g_name) (toGs (pgs_cons (toG (pg_name (i := 5) sc__law_names.nd rfl (Or.inr rfl)) g_name) (toGs pgs_nil g_nil)) g_cons)) g_cons)) g_tup)) s_asg)
      (pss_one (toS (ps_ret (toE (pe_lc (own := [("_law_k", 6)]) rfl sc__law_names.nd (toI (pi_range1 (by rfl) T.n_range (toA (pa_cons (toE (pv 1) r_var) (toA pa_nil r_nil)) r_cons)) i_range1) (blkOk_by (N := ["_law_bag_here", "_law_many", "_law_letters", "_law_stem", "_law_at", "_law_first", "_law_k"]) (sc := defScope s__law_names) (by decide +kernel)) (fun _ _ _ _ _ => (toG (pg_name (i := 6) sc__law_names.nd rfl (Or.inl rfl)) g_name)) (fun _ _ _ _ _ => toTs pts_nil r_yes) (fun _ _ _ _ _ => (toE (pe_op op_addA (toE (pe_op op_addA (toE (pe_slice sl_any (toE (pv 3) r_var) (toO po_none r_noPart) (toO (po_some (toE (pv 4) r_var)) r_part)) r_sl) (toE (pe_ix ix_seq (toE (pv 2) r_var) (toE (pe_op op_mod (toE (pe_callTy call_int1 (by rfl) T.n_int (by decide +kernel) (toA (pa_cons (toE (pe_op op_addA (toE (pv 5) r_var) (toE (pe_op op_mulA (toE pe_int r_int) (toE (pv 6) r_var)) (r_op ref_mul))) (r_op ref_add)) (toA pa_nil r_nil)) r_cons)) (r_cb ref_toInt)) (toE pe_int r_int)) (r_op ref_mod)) (fun _ _ => rfl)) (r_op ref_ix))) (r_op ref_add)) (toE (pe_slice sl_any (toE (pv 3) r_var) (toO (po_some (toE (pv 4) r_var)) r_part) (toO po_none r_noPart)) r_sl)) (r_op ref_add)))) (r_lc (by decide)))) s_ret))) s_seq)) s_seq)) s_seq)) (fun _ _ _ h => h.2)

def T__law_form : Nat → DF
  | 0 => fun ρ R X => False
  | n + 1 => dDef 3 2 (dSeq (dAsg (dCall T__law_pull (dBagA 0 (dCons (dC (.int 5)) dNil))) (dName 3))
    (dSeq (dIfS (dOr (dB (dOp fLt (dVar 2) (dC (.int 2)))) (dB (dOp fLt (dVar 3) (dC (.int 2))))) (dRet (dIf (dB (dOp fEq (dCall T__law_pull (dBagA 0 (dCons (dC (.int 7)) dNil))) (dC (.int 0)))) (dTup (dCons (dC (.str (cp "false"))) dNil)) (dTup (dCons (dC (.str (cp "atom"))) (dCons (dCall T__law_any (dBagA 0 (dCons (dVar 1) dNil))) dNil))))) dNext)
    (dSeq (dAsg (dCall (T__law_form n) (dBagA 0 (dCons (dVar 1) (dCons (dOp fSub (dVar 2) (dC (.int 1))) dNil)))) (dName 4))
    (dRet (dTup (dCons (dOp fIx (dTup (dCons (dC (.str (cp "then"))) (dCons (dC (.str (cp "and"))) (dCons (dC (.str (cp "or"))) dNil)))) (dOp fSub (dVar 3) (dC (.int 2)))) (dCons (dVar 4) (dCons (dCall (T__law_form n) (dBagA 0 (dCons (dVar 1) (dCons (dOp fSub (dVar 2) (dC (.int 1))) dNil)))) dNil))))))))
theorem ok__law_form (T : Txt K mg w P) : ∀ n : Nat, FnOk P w K mg base CX0 (3 + n) T.f__law_form T.fd__law_form ["_law_bag_here", "_law_words", "_law_deep_here"] (spE K (cl T cs) (T__law_form n))
  | 0 => FnOk.zero fun _ _ _ h => h
  | n + 1 => by
    have G__law_form : FnOk P w K mg base CX0 (3 + n) T.f__law_form T.fd__law_form _ _ := ok__law_form T n
    have G__law_any : FnOk P w K mg base CX0 2 T.f__law_any T.fd__law_any _ _ := (ok_D_law_any (cs := cs) T).mono (by decide)
    have G__law_pull : FnOk P w K mg base CX0 1 T.f__law_pull T.fd__law_pull _ _ := (ok_D_law_pull (cs := cs) T).mono (by decide)
    exact Fun.okD (k := 3 + n) T.F__law_form sc__law_form (fun _ _ _ h => h.1) (fun cdv A outer s H E hr => (toSs (pss_cons (toS (ps_set (i := 3) sc__law_form.nd rfl (Or.inl rfl) (toE (pe_call G__law_pull (hr.mono (by omega)) rfl T.g__law_pull T.F__law_pull.kp T.b__law_pull .nil C8.pass0 (toA (pa_cons (pv 0) (toA (pa_cons (toE pe_int r_int) (toA pa_nil r_nil)) r_cons)) r_bagA)) r_call)) s_set)
      (toSs (pss_cons (toS (ps_if (PW.pt (toW (pw_or (toT (pt_cmpR op_lt (toE (pv 2) r_var) (toE pe_int r_int) (nomark _)) (r_testOp ref_lt)) (pw_or1 (toT (pt_cmpR op_lt (toE (pv 3) r_var) (toE pe_int r_int) (nomark _)) (r_testOp ref_lt)))) r_or)) (pss_one (toS (ps_ret (toE (pe_ifExp (toT (pt_cmpR (op_eqA (hu64 hr)) (toE (pe_call G__law_pull (hr.mono (by omega)) rfl T.g__law_pull T.F__law_pull.kp T.b__law_pull .nil C8.pass0 (toA (pa_cons (pv 0) (toA (pa_cons (toE pe_int r_int) (toA pa_nil r_nil)) r_cons)) r_bagA)) r_call) (toE pe_int r_int) (nomark _)) (r_testOp ref_eq)) (toE (pe_tup (toA (pa_cons (toE pe_str (r_str (s := "false"))) (toA pa_nil r_nil)) r_cons)) r_tup) (toE (pe_tup (toA (pa_cons (toE pe_str (r_str (s := "atom"))) (toA (pa_cons (toE (pe_call G__law_any (hr.mono (by omega)) rfl T.g__law_any T.F__law_any.kp T.b__law_any .nil C8.pass0 (toA (pa_cons (pv 0) (toA (pa_cons (toE (pv 1) r_var) (toA pa_nil r_nil)) r_cons)) r_bagA)) r_call) (toA pa_nil r_nil)) r_cons)) r_cons)) r_tup)) r_if)) s_ret)) (toSs pss_nil s_next)) s_if)
      (toSs (pss_cons (toS (ps_set (i := 4) sc__law_form.nd rfl (Or.inl rfl) (toE (pe_call G__law_form (hr.mono (by omega)) rfl T.g__law_form T.F__law_form.kp T.b__law_form .nil C8.pass0 (toA (pa_cons (pv 0) (toA (pa_cons (toE (pv 1) r_var) (toA (pa_cons (toE (pe_op op_sub (toE (pv 2) r_var) (toE pe_int r_int)) (r_op ref_sub)) (toA pa_nil r_nil)) r_cons)) r_cons)) r_bagA)) r_call)) s_set)
      (pss_one (toS (ps_ret (toE (pe_tup (toA (pa_cons (toE (pe_ix ix_seq (toE (pe_tup (toA (pa_cons (toE pe_str (r_str (s := "then"))) (toA (pa_cons (toE pe_str (r_str (s := "and"))) (toA (pa_cons (toE pe_str (r_str (s := "or"))) (toA pa_nil r_nil)) r_cons)) r_cons)) r_cons)) r_tup) (toE (pe_op op_sub (toE (pv 3) r_var) (toE pe_int r_int)) (r_op ref_sub)) (fun _ _ => rfl)) (r_op ref_ix)) (toA (pa_cons (toE (pv 4) r_var) (toA (pa_cons (toE (pe_call G__law_form (hr.mono (by omega)) rfl T.g__law_form T.F__law_form.kp T.b__law_form .nil C8.pass0 (toA (pa_cons (pv 0) (toA (pa_cons (toE (pv 1) r_var) (toA (pa_cons (toE (pe_op op_sub (toE (pv 2) r_var) (toE pe_int r_int)) (r_op ref_sub)) (toA pa_nil r_nil)) r_cons)) r_cons)) r_bagA)) r_call) (toA pa_nil r_nil)) r_cons)) r_cons)) r_cons)) r_tup)) s_ret))) s_seq)) s_seq)) s_seq)) (fun _ _ _ h => h.2)

def T__law_deep : Nat → DF
  | 0 => fun ρ R X => False
  | n + 1 => dDef 1 0 (dSeq (dIfS (dB (dOp fIn (dOp fIx (dVar 0) (dC (.int 0))) (dTup (dCons (dC (.str (cp "then"))) (dCons (dC (.str (cp "and"))) (dCons (dC (.str (cp "or"))) dNil)))))) (dRet (dOp fAdd (dC (.int 1)) (dCB fMax2 (dCons (dCall (T__law_deep n) (dCons (dOp fIx (dVar 0) (dC (.int 1))) dNil)) (dCons (dCall (T__law_deep n) (dCons (dOp fIx (dVar 0) (dC (.int 2))) dNil)) dNil))))) dNext)
    (dRet (dC (.int 1))))
theorem ok__law_deep (T : Txt K mg w P) : ∀ n : Nat, FnOk P w K mg base CX0 (1 + n) T.f__law_deep T.fd__law_deep ["_law_term"] (spE K (cl T cs) (T__law_deep n))
  | 0 => FnOk.zero fun _ _ _ h => h
  | n + 1 => by
    have G__law_deep : FnOk P w K mg base CX0 (1 + n) T.f__law_deep T.fd__law_deep _ _ := ok__law_deep T n
    exact Fun.okD (k := 1 + n) T.F__law_deep sc__law_deep (fun _ _ _ h => h.1) (fun cdv A outer s H E hr => (toSs (pss_cons (toS (ps_if (toT (pt_cmpR op_inA (toE (pe_ix ix_seq (toE (pv 0) r_var) (toE pe_int r_int) (fun _ _ => rfl)) (r_op ref_ix)) (toE (pe_tup (toA (pa_cons (toE pe_str (r_str (s := "then"))) (toA (pa_cons (toE pe_str (r_str (s := "and"))) (toA (pa_cons (toE pe_str (r_str (s := "or"))) (toA pa_nil r_nil)) r_cons)) r_cons)) r_cons)) r_tup) (by rfl)) (r_testOp ref_in)) (pss_one (toS (ps_ret (toE (pe_op op_addA (toE pe_int r_int) (toE (pe_callB (call_max2 rfl) (by rfl) T.n_max (by decide +kernel) (toA (pa_cons (toE (pe_call G__law_deep (hr.mono (by omega)) rfl T.g__law_deep T.F__law_deep.kp T.b__law_deep .nil C8.pass0 (toA (pa_cons (toE (pe_ix ix_seq (toE (pv 0) r_var) (toE pe_int r_int) (fun _ _ => rfl)) (r_op ref_ix)) (toA pa_nil r_nil)) r_cons)) r_call) (toA (pa_cons (toE (pe_call G__law_deep (hr.mono (by omega)) rfl T.g__law_deep T.F__law_deep.kp T.b__law_deep .nil C8.pass0 (toA (pa_cons (toE (pe_ix ix_seq (toE (pv 0) r_var) (toE pe_int r_int) (fun _ _ => rfl)) (r_op ref_ix)) (toA pa_nil r_nil)) r_cons)) r_call) (toA pa_nil r_nil)) r_cons)) r_cons)) (r_cb ref_max2))) (r_op ref_add))) s_ret)) (toSs pss_nil s_next)) s_if)
      (pss_one (toS (ps_ret (toE pe_int r_int)) s_ret))) s_seq)) (fun _ _ _ h => h.2)

def T__law_fields : DF := dDef 1 1 (dSeq (dAsg (dUn (fXa excB clF "code") (dVar 0)) (dName 1))
    (dSeq (dIfS (dB (dOp fIn (dVar 1) (dTup (dCons (dC (.str (cp "InvalidName"))) (dCons (dC (.str (cp "InvalidNumber"))) (dCons (dC (.str (cp "InvalidFormula"))) (dCons (dC (.str (cp "InvalidShape"))) (dCons (dC (.str (cp "UnknownName"))) dNil)))))))) (dRet (dTup (dCons (dUn (fXa excB clF "value") (dVar 0)) dNil))) dNext)
    (dSeq (dIfS (dB (dOp fIn (dVar 1) (dTup (dCons (dC (.str (cp "InvalidRow"))) (dCons (dC (.str (cp "InvalidDeed"))) dNil))))) (dRet (dTup (dCons (dUn (fXa excB clF "at") (dVar 0)) dNil))) dNext)
    (dSeq (dIfS (dB (dOp fIn (dVar 1) (dTup (dCons (dC (.str (cp "InvalidText"))) (dCons (dC (.str (cp "InvalidPage"))) dNil))))) (dRet (dTup (dCons (dUn (fXa excB clF "line") (dVar 0)) dNil))) dNext)
    (dSeq (dIfS (dB (dOp fIn (dVar 1) (dTup (dCons (dC (.str (cp "TooMany"))) (dCons (dC (.str (cp "TooLarge"))) (dCons (dC (.str (cp "Full"))) dNil)))))) (dRet (dTup (dCons (dUn (fXa excB clF "most") (dVar 0)) dNil))) dNext)
    (dSeq (dIfS (dB (dOp fEq (dVar 1) (dC (.str (cp "InvalidCommand"))))) (dRet (dTup (dCons (dUn (fXa excB clF "path") (dVar 0)) dNil))) dNext)
    (dSeq (dIfS (dB (dOp fEq (dVar 1) (dC (.str (cp "Circular"))))) (dRet (dTup (dCons (dUn (fXa excB clF "name") (dVar 0)) dNil))) dNext)
    (dSeq (dIfS (dB (dOp fEq (dVar 1) (dC (.str (cp "NameInUse"))))) (dRet (dTup (dCons (dUn (fXa excB clF "user") (dVar 0)) dNil))) dNext)
    (dRet (dIf (dB (dOp fEq (dVar 1) (dC (.str (cp "Refused"))))) (dTup (dCons (dUn (fXa excB clF "path") (dVar 0)) (dCons (dUn (fXa excB clF "reason") (dVar 0)) dNil))) (dTup dNil)))))))))))
theorem ok__law_fields (T : Txt K mg w P) : FnQ P w K mg base 1 T.f__law_fields T.fd__law_fields ["_law_e"] (spE K (cl T cs) T__law_fields) := by
    exact Fun.okDQ (k := 0) T.F__law_fields sc__law_fields (fun _ _ _ h => h.1) (fun cdv A outer s H E hr => (toSs (pss_cons (toS (ps_set (i := 1) sc__law_fields.nd rfl (Or.inl rfl) (toE (pe_xa (toE (pv 0) r_var)) (r_xa (ex := excB) (xok T)))) s_set)
      (toSs (pss_cons (toS (ps_if (toT (pt_cmpR op_inA (toE (pv 1) r_var) (toE (pe_tup (toA (pa_cons (toE pe_str (r_str (s := "InvalidName"))) (toA (pa_cons (toE pe_str (r_str (s := "InvalidNumber"))) (toA (pa_cons (toE pe_str (r_str (s := "InvalidFormula"))) (toA (pa_cons (toE pe_str (r_str (s := "InvalidShape"))) (toA (pa_cons (toE pe_str (r_str (s := "UnknownName"))) (toA pa_nil r_nil)) r_cons)) r_cons)) r_cons)) r_cons)) r_cons)) r_tup) (by rfl)) (r_testOp ref_in)) (pss_one (toS (ps_ret (toE (pe_tup (toA (pa_cons (toE (pe_xa (toE (pv 0) r_var)) (r_xa (ex := excB) (xok T))) (toA pa_nil r_nil)) r_cons)) r_tup)) s_ret)) (toSs pss_nil s_next)) s_if)
      (toSs (pss_cons (toS (ps_if (toT (pt_cmpR op_inA (toE (pv 1) r_var) (toE (pe_tup (toA (pa_cons (toE pe_str (r_str (s := "InvalidRow"))) (toA (pa_cons (toE pe_str (r_str (s := "InvalidDeed"))) (toA pa_nil r_nil)) r_cons)) r_cons)) r_tup) (by rfl)) (r_testOp ref_in)) (pss_one (toS (ps_ret (toE (pe_tup (toA (pa_cons (toE (pe_xa (toE (pv 0) r_var)) (r_xa (ex := excB) (xok T))) (toA pa_nil r_nil)) r_cons)) r_tup)) s_ret)) (toSs pss_nil s_next)) s_if)
      (toSs (pss_cons (toS (ps_if (toT (pt_cmpR op_inA (toE (pv 1) r_var) (toE (pe_tup (toA (pa_cons (toE pe_str (r_str (s := "InvalidText"))) (toA (pa_cons (toE pe_str (r_str (s := "InvalidPage"))) (toA pa_nil r_nil)) r_cons)) r_cons)) r_tup) (by rfl)) (r_testOp ref_in)) (pss_one (toS (ps_ret (toE (pe_tup (toA (pa_cons (toE (pe_xa (toE (pv 0) r_var)) (r_xa (ex := excB) (xok T))) (toA pa_nil r_nil)) r_cons)) r_tup)) s_ret)) (toSs pss_nil s_next)) s_if)
      (toSs (pss_cons (toS (ps_if (toT (pt_cmpR op_inA (toE (pv 1) r_var) (toE (pe_tup (toA (pa_cons (toE pe_str (r_str (s := "TooMany"))) (toA (pa_cons (toE pe_str (r_str (s := "TooLarge"))) (toA (pa_cons (toE pe_str (r_str (s := "Full"))) (toA pa_nil r_nil)) r_cons)) r_cons)) r_cons)) r_tup) (by rfl)) (r_testOp ref_in)) (pss_one (toS (ps_ret (toE (pe_tup (toA (pa_cons (toE (pe_xa (toE (pv 0) r_var)) (r_xa (ex := excB) (xok T))) (toA pa_nil r_nil)) r_cons)) r_tup)) s_ret)) (toSs pss_nil s_next)) s_if)
      (toSs (pss_cons (toS (ps_if (toT (pt_cmpR (op_eqA (hu64q hr)) (toE (pv 1) r_var) (toE pe_str (r_str (s := "InvalidCommand"))) (nomark _)) (r_testOp ref_eq)) (pss_one (toS (ps_ret (toE (pe_tup (toA (pa_cons (toE (pe_xa (toE (pv 0) r_var)) (r_xa (ex := excB) (xok T))) (toA pa_nil r_nil)) r_cons)) r_tup)) s_ret)) (toSs pss_nil s_next)) s_if)
      (toSs (pss_cons (toS (ps_if (toT (pt_cmpR (op_eqA (hu64q hr)) (toE (pv 1) r_var) (toE pe_str (r_str (s := "Circular"))) (nomark _)) (r_testOp ref_eq)) (pss_one (toS (ps_ret (toE (pe_tup (toA (pa_cons (toE (pe_xa (toE (pv 0) r_var)) (r_xa (ex := excB) (xok T))) (toA pa_nil r_nil)) r_cons)) r_tup)) s_ret)) (toSs pss_nil s_next)) s_if)
      (toSs (pss_cons (toS (ps_if (toT (pt_cmpR (op_eqA (hu64q hr)) (toE (pv 1) r_var) (toE pe_str (r_str (s := "NameInUse"))) (nomark _)) (r_testOp ref_eq)) (pss_one (toS (ps_ret (toE (pe_tup (toA (pa_cons (toE (pe_xa (toE (pv 0) r_var)) (r_xa (ex := excB) (xok T))) (toA pa_nil r_nil)) r_cons)) r_tup)) s_ret)) (toSs pss_nil s_next)) s_if)
      (pss_one (toS (ps_ret (toE (pe_ifExp (toT (pt_cmpR (op_eqA (hu64q hr)) (toE (pv 1) r_var) (toE pe_str (r_str (s := "Refused"))) (nomark _)) (r_testOp ref_eq)) (toE (pe_tup (toA (pa_cons (toE (pe_xa (toE (pv 0) r_var)) (r_xa (ex := excB) (xok T))) (toA (pa_cons (toE (pe_xa (toE (pv 0) r_var)) (r_xa (ex := excB) (xok T))) (toA pa_nil r_nil)) r_cons)) r_cons)) r_tup) (toE (pe_tup (toA pa_nil r_nil)) r_tup)) r_if)) s_ret))) s_seq)) s_seq)) s_seq)) s_seq)) s_seq)) s_seq)) s_seq)) s_seq)) (fun _ _ _ h => h.2)

end

end
end Ag
namespace Ag
open PySem L2
open C8 (pss_cut tCut)
section
variable {P : Program} {w : World} {K : PySem.W.Frag} {mg : Str → Option Value} {base : Heap} {cs : List (Str × Addr)}
def tb_lam_0 : DT := (dCall T_formula_text (dCons (dVar 0) dNil))
def T_lam_0 : DF := fun ρ R X => ρ.length = 1 ∧ tb_lam_0 (([] : List D).map .dat ++ ρ) (fun d _ => R d) (fun x _ => X x)
def tb_lam_1 : DT := (dCall T_read_formula (dCons (dVar 1) dNil))
def T_lam_1 : DF := fun ρ R X => ρ.length = 1 ∧ tb_lam_1 (([.int 0] : List D).map .dat ++ ρ) (fun d _ => R d) (fun x _ => X x)
def tl_law : Nat → DF
  | 0 => T_lam_0
  | 1 => T_lam_1
  | _ => fun _ _ _ => False
theorem lamsOk (T : Txt K mg w P) : LamsOk P w K mg base (cl T cs) 26 tl_law := by
  have G_formula_text : FnOk P w K mg base (L2.CX P w) 25 T.f_formula_text T.fd_formula_text _ _ := (ok_formula_text (cs := cs) T).mono (by decide)
  have G_read_formula : FnOk P w K mg base (L2.CX P w) 25 T.f_read_formula T.fd_read_formula _ _ := (ok_read_formula (cs := cs) T).mono (by decide)
  intro A outer s H f Q E hr e0 h
  obtain ⟨F, ρ, R, X, er, _, ⟨i, ds, rfl, hnf, ht⟩, hR, hX⟩ := h
  match i, er, ht with
  | 0, er, ht =>
    exact lam_run (i := 0) (l := lm_0) (N := ["_law_form_here"]) (ps := []) (vs := []) (dvs := []) (tb := tb_lam_0) rfl sc_lam_0 rfl rfl (fun _ _ => DaL.nil) hr e0 er hnf
      (fun td cl doc pm cv ctv h => by
        rcases h with ⟨_, rfl⟩ | ⟨n, t, tok, e, _⟩
        · exact ⟨[], .nil, BindsTo.of_eq rfl⟩
        · cases e)
      (fun A outer s H E cl c hr => (toE (pe_call G_formula_text (hr.mono (by omega)) rfl T.g_formula_text T.F_formula_text.kp T.b_formula_text .nil passN (toA (pa_cons (toE (pv 0) r_var) (toA pa_nil r_nil)) r_cons)) r_call))
      ht.2 hR hX
  | 1, er, ht =>
    exact lam_run (i := 1) (l := lm_1) (N := ["_law_a", "_law_text_z"]) (ps := ["_law_a"]) (vs := [.int 0]) (dvs := [.int 0]) (tb := tb_lam_1) rfl sc_lam_1 rfl rfl (fun _ _ => (DaL.cons Da.int DaL.nil)) hr e0 er hnf
      (fun td cl doc pm cv ctv h => by
        rcases h with ⟨e, _⟩ | ⟨n, t, tok, e, rfl, o, m, g1, g2⟩
        · cases e
        · cases e
          exact ⟨[.int 0 tok], .cons ⟨_, rfl⟩ .nil, BindsTo.of_defaults rfl g1 g2 rfl rfl⟩)
      (fun A outer s H E cl c hr => (toE (pe_call G_read_formula (hr.mono (by omega)) rfl T.g_read_formula T.F_read_formula.kp T.b_read_formula .nil passN (toA (pa_cons (toE (pv 1) r_var) (toA pa_nil r_nil)) r_cons)) r_call))
      ht.2 hR hX
  | n + 2, er, ht => exact ht.elim


end
end Ag
namespace Ag
open PySem L2
open C8 (pss_cut tCut)
section
variable {P : Program} {w : World} {K : PySem.W.Frag} {mg : Str → Option Value} {base : Heap} {cs : List (Str × Addr)}
def T__law_try : DF := tTry excB clF T__law_fields tl_law
theorem ok_D_law_try (T : Txt K mg w P) : FnOk P w K mg base CX0 27 T.f__law_try T.fd__law_try ["_law_ask"] (spE K (cl T cs) T__law_try) := by
  have hl : LamsOk P w K mg base (cl T cs) 26 tl_law := lamsOk T
  have GF := ok__law_fields (P := P) (w := w) (base := base) (cs := cs) T
  refine T.F__law_try.ok (k := 26) sc__law_try (fun vs H Q E h => ?_) (fun cdv A outer s H vs Q E hr h => ?_)
  · obtain ⟨f, rfl, _⟩ := try_in (xok T) (emF T) h
    rfl
  · obtain ⟨f, rfl, hq⟩ := try_in (xok T) (emF T) h
    refine ⟨_, pss_one (ps_try_as3 (i := 1) (tb := fun W => tRet (tTup (tCons (tC (.str (Str.ofString ""))) (tCons (fun σ H Q => ∃ f, σ[0]? = some (some (.ref f)) ∧ spE K (cl T cs) (tAct tl_law) [.ref f] H Q (fun cls d H' => W cls d σ H')) tNil))))
      rfl rfl sc__law_try.nd rfl rfl ⟨rfl, T.g_GroundError⟩ ⟨rfl, T.g_Missing⟩ ⟨rfl, T.g_NothingLeft⟩ ⟨by decide, by decide, by decide⟩
      (fun W pn xe tk _ => pss_one (ps_ret (pe_tup (pa_cons pe_str (pa_cons (pe_actD hl hr tk (pv 0)) pa_nil)))))
      (fun a oe cls d pn hB hz hd => pss_one (ps_ret (pe_tup (pa_cons (pe_xs hz hd (pv 1)) (pa_cons (pe_xg GF (L2H.roomH_of (hr.mono (by decide))) hB hz hd rfl T.g__law_fields T.F__law_fields.kp T.b__law_fields (pa_cons (pv 1) pa_nil)) pa_nil)))))), ?_⟩
    exact ⟨f, rfl, hq _ rfl rfl⟩


end
end Ag
namespace Ag
open PySem L2
open C8 (pss_cut tCut)
section
variable {P : Program} {w : World} {K : PySem.W.Frag} {mg : Str → Option Value} {base : Heap} {cs : List (Str × Addr)}
noncomputable section
def T__law_tries : DF := dDef 1 1 (dRet (dLc (itemsL (dVar 0)) (dName 1) dYes (dCall T__law_try (dCons (dVar 1) dNil)) [1]))
theorem ok__law_tries (T : Txt K mg w P) : FnOk P w K mg base CX0 28 T.f__law_tries T.fd__law_tries ["_law_asks"] (spE K (cl T cs) T__law_tries) := by
    have G__law_try : FnOk P w K mg base CX0 27 T.f__law_try T.fd__law_try _ _ := (ok_D_law_try (cs := cs) T).mono (by decide)
    exact Fun.okD (k := 27) T.F__law_tries sc__law_tries (fun _ _ _ h => h.1) (fun cdv A outer s H E hr => (pss_one (toS (ps_ret (toE (pe_lc (own := [("_law_ask", 1)]) rfl sc__law_tries.nd (toI (pi_list (toE (pv 0) r_var)) i_list) (blkOk_by (N := ["_law_asks", "_law_ask"]) (sc := defScope s__law_tries) (by decide +kernel)) (fun _ _ _ _ _ => (toG (pg_name (i := 1) sc__law_tries.nd rfl (Or.inl rfl)) g_name)) (fun _ _ _ _ _ => toTs pts_nil r_yes) (fun _ _ _ _ _ => (toE (pe_call G__law_try (hr.mono (by omega)) rfl T.g__law_try T.F__law_try.kp T.b__law_try .nil C8.pass0 (toA (pa_cons (toE (pv 1) r_var) (toA pa_nil r_nil)) r_cons)) r_call))) (r_lc (by decide)))) s_ret))) (fun _ _ _ h => h.2)

end

end
end Ag
namespace Ag
open PySem L2
open C8 (pss_cut tCut)
section
variable {P : Program} {w : World} {K : PySem.W.Frag} {mg : Str → Option Value} {base : Heap} {cs : List (Str × Addr)}
noncomputable section
def tb_law_1 : DS := (dAsg (dCall T__law_names (dBagA 1 (dCons (dC (.int 3)) dNil))) (dName 2))
def tb_law_2 : DS := (dFor (itemsR1 (dCons (dC (.int 5)) dNil)) (dName 3) (dSeq (dAsg (dCall (T__law_form 20) (dBagA 1 (dCons (dVar 2) (dCons (dC (.int 5)) dNil)))) (dName 4))
    (dSeq (dFor (itemsR1 (dCons (dCall T__law_pull (dBagA 1 (dCons (dC (.int 8)) dNil))) dNil)) (dName 5) (dSeq (dAsg (dTup (dCons (dCall T__law_any (dBagA 1 (dCons (dLst (dCons (dC (.str (cp "then"))) (dCons (dC (.str (cp "and"))) (dCons (dC (.str (cp "or"))) dNil)))) dNil))) (dCons (dVar 4) (dCons (dTup (dCons (dC (.str (cp "atom"))) (dCons (dOp fIx (dVar 2) (dC (.int 0))) dNil))) dNil)))) (dName 4))
    (dIfS (dB (dOp fEq (dCall T__law_pull (dBagA 1 (dCons (dC (.int 2)) dNil))) (dC (.int 0)))) (dAsg (dTup (dCons (dOp fIx (dVar 4) (dC (.int 0))) (dCons (dOp fIx (dVar 4) (dC (.int 2))) (dCons (dOp fIx (dVar 4) (dC (.int 1))) dNil)))) (dName 4)) dNext)))
    (dSeq (dAsg (dTup (dCons (dCall (T__law_text 20) (dCons (dVar 4) dNil)) (dCons (dOp fLt (dCall (T__law_deep 20) (dCons (dVar 4) dNil)) (dC (.int 11))) dNil))) (dgTup 2 (dgCons (dName 6) (dgCons (dName 7) dgNil))))
    (dSeq (dAsg (dCallL capsL T__law_tries (dCons (dLst (dCons (dLam 0) (dCons (dLam 1) dNil))) dNil)) (dName 8))
    (dSeq (dAsg (dIf (dB (dVar 7)) (dLst (dCons (dTup (dCons (dC (.str (cp ""))) (dCons (dVar 6) dNil))) (dCons (dTup (dCons (dC (.str (cp ""))) (dCons (dVar 4) dNil))) dNil))) (dLst (dCons (dTup (dCons (dC (.str (cp "InvalidFormula"))) (dCons (dTup (dCons (dVar 4) dNil)) dNil))) (dCons (dTup (dCons (dC (.str (cp "InvalidFormula"))) (dCons (dTup (dCons (dVar 6) dNil)) dNil))) dNil)))) (dName 9))
    (dIfS (dOr (dB (dOp fNe (dCall T_is_formula (dCons (dVar 4) dNil)) (dVar 7))) (dNot (dB (dCall (T__law_like 20) (dCons (dVar 8) (dCons (dVar 9) dNil)))))) (dRet (dC (.bl false))) dNext)))))))
def tb_law_3 : DS := (dAsg (dOp fIx (dVar 2) (dC (.int 0))) (dName 10))
def tb_law_4 : DS := (dAsg (dLst (dCons (dCall T_read_formula (dCons (dC (.str (cp "0"))) dNil)) (dCons (dCall T_read_formula (dCons (dVar 10) dNil)) (dCons (dCallN (fun l => l) 0 1 T_read_formula dNil (dCons (dOp fAdd (dOp fAdd (dC (.str (cp "\x28"))) (dVar 10)) (dC (.str (cp " > 0\x29")))) dNil)) dNil)))) (dName 11))
def tb_law_5 : DS := (dAsg (dLst (dCons (dTup (dCons (dC (.str (cp "false"))) dNil)) (dCons (dTup (dCons (dC (.str (cp "atom"))) (dCons (dVar 10) dNil))) (dCons (dTup (dCons (dC (.str (cp "then"))) (dCons (dTup (dCons (dC (.str (cp "atom"))) (dCons (dVar 10) dNil))) (dCons (dTup (dCons (dC (.str (cp "false"))) dNil)) dNil)))) dNil)))) (dName 9))
def tb_law_6 : DS := (dRet (dAndV (dCall (T__law_like 20) (dCons (dVar 11) (dCons (dVar 9) dNil))) (dCall (T__law_like 20) (dCons (dLc (itemsL (dVar 9)) (dName 12) dYes (dCallN (fun l => l) 0 1 T_formula_text dNil (dCons (dVar 12) dNil)) [12]) (dCons (dLst (dCons (dC (.str (cp "0"))) (dCons (dVar 10) (dCons (dOp fAdd (dOp fAdd (dC (.str (cp "\x28"))) (dVar 10)) (dC (.str (cp " > 0\x29")))) dNil)))) dNil)))))
def tb_law : DS := (dSeq tb_law_1 (dSeq tb_law_2 (dSeq tb_law_3 (dSeq tb_law_4 (dSeq tb_law_5 tb_law_6)))))

end

end
end Ag
namespace Ag
open PySem L2
open C8 (pss_cut tCut)
section
variable {P : Program} {w : World} {K : PySem.W.Frag} {mg : Str → Option Value} {base : Heap} {cs : List (Str × Addr)}
theorem tabUni (T : Txt K mg w P) : ∀ p ∈ (cl T cs).tab, p.1 = T.tp_law → p.2 = nmF := fun p hp _ => by
  obtain rfl := List.mem_singleton.mp hp
  rfl
theorem law_body (T : Txt K mg w P) (TB_law : LamX.TabB base mg T.cd_law T.tp_law) (A : Around) (outer : List Env) (s : Shared) (H : Hp) (E : XK) (hr : Room 28 (A.deeper (PyProof.Rows.envOfC "law" (defScope s_law) s.heap.objs.size T.f_law (.ref T.cd_law)))) (hcs : cs = (PyProof.Rows.envOfC "law" (defScope s_law) s.heap.objs.size T.f_law (.ref T.cd_law)).cells) :
    PSs (cxOf CX0 P w K mg base ["_law_script", "_law_bag_here", "_law_words", "_law_turn", "_law_form_here", "_law_k", "_law_text_z", "_law_good", "_law_told", "_law_due", "_law_word", "_law_found", "_law_one"] "law" (defScope s_law) T.f_law (.ref T.cd_law) A outer s H E).nox ((defBody s_law).drop 1) (liftS ⟨K, cl T cs, E0⟩ tb_law) := by
  subst hcs
  have G__law_any : FnOk P w K mg base CX0 2 T.f__law_any T.fd__law_any _ _ := (ok_D_law_any (cs := (PyProof.Rows.envOfC "law" (defScope s_law) s.heap.objs.size T.f_law (.ref T.cd_law)).cells) T).mono (by decide)
  have G__law_deep : FnOk P w K mg base CX0 21 T.f__law_deep T.fd__law_deep _ _ := (ok__law_deep (cs := (PyProof.Rows.envOfC "law" (defScope s_law) s.heap.objs.size T.f_law (.ref T.cd_law)).cells) T 20).mono (by decide)
  have G__law_form : FnOk P w K mg base CX0 23 T.f__law_form T.fd__law_form _ _ := (ok__law_form (cs := (PyProof.Rows.envOfC "law" (defScope s_law) s.heap.objs.size T.f_law (.ref T.cd_law)).cells) T 20).mono (by decide)
  have G__law_like : FnOk P w K mg base CX0 21 T.f__law_like T.fd__law_like _ _ := (ok__law_like (cs := (PyProof.Rows.envOfC "law" (defScope s_law) s.heap.objs.size T.f_law (.ref T.cd_law)).cells) T 20).mono (by decide)
  have G__law_names : FnOk P w K mg base CX0 3 T.f__law_names T.fd__law_names _ _ := (ok__law_names (cs := (PyProof.Rows.envOfC "law" (defScope s_law) s.heap.objs.size T.f_law (.ref T.cd_law)).cells) T).mono (by decide)
  have G__law_pull : FnOk P w K mg base CX0 1 T.f__law_pull T.fd__law_pull _ _ := (ok_D_law_pull (cs := (PyProof.Rows.envOfC "law" (defScope s_law) s.heap.objs.size T.f_law (.ref T.cd_law)).cells) T).mono (by decide)
  have G__law_text : FnOk P w K mg base CX0 21 T.f__law_text T.fd__law_text _ _ := (ok__law_text (cs := (PyProof.Rows.envOfC "law" (defScope s_law) s.heap.objs.size T.f_law (.ref T.cd_law)).cells) T 20).mono (by decide)
  have G__law_tries : FnOk P w K mg base CX0 28 T.f__law_tries T.fd__law_tries _ _ := (ok__law_tries (cs := (PyProof.Rows.envOfC "law" (defScope s_law) s.heap.objs.size T.f_law (.ref T.cd_law)).cells) T).mono (by decide)
  have G_formula_text : FnOk P w K mg base (L2.CX P w) 25 T.f_formula_text T.fd_formula_text _ _ := (ok_formula_text (cs := (PyProof.Rows.envOfC "law" (defScope s_law) s.heap.objs.size T.f_law (.ref T.cd_law)).cells) T).mono (by decide)
  have G_is_formula : FnOk P w K mg base CX0 24 T.f_is_formula T.fd_is_formula _ _ := (ok_is_formula (cs := (PyProof.Rows.envOfC "law" (defScope s_law) s.heap.objs.size T.f_law (.ref T.cd_law)).cells) T).mono (by decide)
  have G_read_formula : FnOk P w K mg base (L2.CX P w) 25 T.f_read_formula T.fd_read_formula _ _ := (ok_read_formula (cs := (PyProof.Rows.envOfC "law" (defScope s_law) s.heap.objs.size T.f_law (.ref T.cd_law)).cells) T).mono (by decide)
  exact (toSs (pss_cons (toS (ps_set (i := 2) sc_law.nd rfl (Or.inl rfl) (toE (pe_call G__law_names (hr.mono (by omega)) rfl T.g__law_names T.F__law_names.kp T.b__law_names .nil C8.pass0 (toA (pa_cons (pv 1) (toA (pa_cons (toE pe_int r_int) (toA pa_nil r_nil)) r_cons)) r_bagA)) r_call)) s_set)
      (toSs (pss_cons (toS (ps_for PassesOwn.never rfl (toI (pi_range1 (by rfl) T.n_range (toA (pa_cons (toE pe_int r_int) (toA pa_nil r_nil)) r_cons)) i_range1) (toG (pg_name (i := 3) sc_law.nd rfl (Or.inl rfl)) g_name) (toSs (pss_cons (toS (ps_set (i := 4) sc_law.nd rfl (Or.inr rfl) (toE (pe_call G__law_form (hr.mono (by omega)) rfl T.g__law_form T.F__law_form.kp T.b__law_form .nil C8.pass0 (toA (pa_cons (pv 1) (toA (pa_cons (toE (pv 2) r_var) (toA (pa_cons (toE pe_int r_int) (toA pa_nil r_nil)) r_cons)) r_cons)) r_bagA)) r_call)) s_set)
      (toSs (pss_cons (toS (ps_for PassesOwn.never rfl (toI (pi_range1 (by rfl) T.n_range (toA (pa_cons (toE (pe_call G__law_pull (hr.mono (by omega)) rfl T.g__law_pull T.F__law_pull.kp T.b__law_pull .nil C8.pass0 (toA (pa_cons (pv 1) (toA (pa_cons (toE pe_int r_int) (toA pa_nil r_nil)) r_cons)) r_bagA)) r_call) (toA pa_nil r_nil)) r_cons)) i_range1) (toG (pg_name (i := 5) sc_law.nd rfl (Or.inl rfl)) g_name) (toSs (pss_cons (toS (ps_set (i := 4) sc_law.nd rfl (Or.inr rfl) (toE (pe_tup (toA (pa_cons (toE (pe_call G__law_any (hr.mono (by omega)) rfl T.g__law_any T.F__law_any.kp T.b__law_any .nil C8.pass0 (toA (pa_cons (pv 1) (toA (pa_cons (toE (pe_lst (toA (pa_cons (toE pe_str (r_str (s := "then"))) (toA (pa_cons (toE pe_str (r_str (s := "and"))) (toA (pa_cons (toE pe_str (r_str (s := "or"))) (toA pa_nil r_nil)) r_cons)) r_cons)) r_cons)) r_lst) (toA pa_nil r_nil)) r_cons)) r_bagA)) r_call) (toA (pa_cons (toE (pv 4) r_var) (toA (pa_cons (toE (pe_tup (toA (pa_cons (toE pe_str (r_str (s := "atom"))) (toA (pa_cons (toE (pe_ix ix_seq (toE (pv 2) r_var) (toE pe_int r_int) (fun _ _ => rfl)) (r_op ref_ix)) (toA pa_nil r_nil)) r_cons)) r_cons)) r_tup) (toA pa_nil r_nil)) r_cons)) r_cons)) r_cons)) r_tup)) s_set)
      (pss_one (toS (ps_if (toT (pt_cmpR (op_eqA (hu64 hr)) (toE (pe_call G__law_pull (hr.mono (by omega)) rfl T.g__law_pull T.F__law_pull.kp T.b__law_pull .nil C8.pass0 (toA (pa_cons (pv 1) (toA (pa_cons (toE pe_int r_int) (toA pa_nil r_nil)) r_cons)) r_bagA)) r_call) (toE pe_int r_int) (nomark _)) (r_testOp ref_eq)) (pss_one (toS (ps_set (i := 4) sc_law.nd rfl (Or.inr rfl) (toE (pe_tup (toA (pa_cons (toE (pe_ix ix_seq (toE (pv 4) r_var) (toE pe_int r_int) (fun _ _ => rfl)) (r_op ref_ix)) (toA (pa_cons (toE (pe_ix ix_seq (toE (pv 4) r_var) (toE pe_int r_int) (fun _ _ => rfl)) (r_op ref_ix)) (toA (pa_cons (toE (pe_ix ix_seq (toE (pv 4) r_var) (toE pe_int r_int) (fun _ _ => rfl)) (r_op ref_ix)) (toA pa_nil r_nil)) r_cons)) r_cons)) r_cons)) r_tup)) s_set)) (toSs pss_nil s_next)) s_if))) s_seq)) s_for)
      (toSs (pss_cons (toS (ps_asg (toE (pe_tup (toA (pa_cons (toE (pe_call G__law_text (hr.mono (by omega)) rfl T.g__law_text T.F__law_text.kp T.b__law_text .nil C8.pass0 (toA (pa_cons (toE (pv 4) r_var) (toA pa_nil r_nil)) r_cons)) r_call) (toA (pa_cons (toE (pe_cmpR op_lt (toE (pe_call G__law_deep (hr.mono (by omega)) rfl T.g__law_deep T.F__law_deep.kp T.b__law_deep .nil C8.pass0 (toA (pa_cons (toE (pv 4) r_var) (toA pa_nil r_nil)) r_cons)) r_call) (toE pe_int r_int) (nomark _)) (r_op ref_lt)) (toA pa_nil r_nil)) r_cons)) r_cons)) r_tup) (toG (pg_tup rfl (toGs (pgs_cons (toG (pg_name (i := 6) sc_law.nd rfl (Or.inr rfl)) g_name) (toGs (pgs_cons (toG (pg_name (i := 7) sc_law.nd rfl (Or.inl rfl)) g_name) (toGs pgs_nil g_nil)) g_cons)) g_cons)) g_tup)) s_asg)
      (toSs (pss_cons (toS (ps_set (i := 8) sc_law.nd rfl (Or.inl rfl) (toE (pe_callL (jy := jyL) G__law_tries (hr.mono (by omega)) jyOkL (fun _ => rfl) rfl T.g__law_tries T.F__law_tries.kp T.b__law_tries (toA (pa_cons (toE (pe_lst (toA (pa_cons (toE (pe_lm0 (l := lm_0) (T := (cl T (PyProof.Rows.envOfC "law" (defScope s_law) s.heap.objs.size T.f_law (.ref T.cd_law)).cells).tab) (nm := nmF) TB_law rfl (List.Mem.head _) (tabUni T) rfl rfl (lamFree_by (sc := defScope s_law) (by decide +kernel)) rfl rfl) (r_lam (i := 0) rfl rfl ⟨_, List.Mem.head _⟩)) (toA (pa_cons (toE (pe_lm1 (l := lm_1) (T := (cl T (PyProof.Rows.envOfC "law" (defScope s_law) s.heap.objs.size T.f_law (.ref T.cd_law)).cells).tab) (nm := nmF) TB_law rfl (List.Mem.head _) (tabUni T) rfl rfl (lamFree_by (sc := defScope s_law) (by decide +kernel)) rfl rfl rfl) (r_lam (i := 1) rfl rfl ⟨_, List.Mem.head _⟩)) (toA pa_nil r_nil)) r_cons)) r_cons)) r_lst) (toA pa_nil r_nil)) r_cons)) (r_callL lamStL rfl))) s_set)
      (toSs (pss_cons (toS (ps_set (i := 9) sc_law.nd rfl (Or.inl rfl) (toE (pe_ifExp (toT (pt_val (toE (pv 7) r_var)) r_B) (toE (pe_lst (toA (pa_cons (toE (pe_tup (toA (pa_cons (toE pe_str (r_str (s := ""))) (toA (pa_cons (toE (pv 6) r_var) (toA pa_nil r_nil)) r_cons)) r_cons)) r_tup) (toA (pa_cons (toE (pe_tup (toA (pa_cons (toE pe_str (r_str (s := ""))) (toA (pa_cons (toE (pv 4) r_var) (toA pa_nil r_nil)) r_cons)) r_cons)) r_tup) (toA pa_nil r_nil)) r_cons)) r_cons)) r_lst) (toE (pe_lst (toA (pa_cons (toE (pe_tup (toA (pa_cons (toE pe_str (r_str (s := "InvalidFormula"))) (toA (pa_cons (toE (pe_tup (toA (pa_cons (toE (pv 4) r_var) (toA pa_nil r_nil)) r_cons)) r_tup) (toA pa_nil r_nil)) r_cons)) r_cons)) r_tup) (toA (pa_cons (toE (pe_tup (toA (pa_cons (toE pe_str (r_str (s := "InvalidFormula"))) (toA (pa_cons (toE (pe_tup (toA (pa_cons (toE (pv 6) r_var) (toA pa_nil r_nil)) r_cons)) r_tup) (toA pa_nil r_nil)) r_cons)) r_cons)) r_tup) (toA pa_nil r_nil)) r_cons)) r_cons)) r_lst)) r_if)) s_set)
      (pss_one (toS (ps_if (PW.pt (toW (pw_or (toT (pt_cmpR (op_neA (hu64 hr)) (toE (pe_call G_is_formula (hr.mono (by omega)) rfl T.g_is_formula T.F_is_formula.kp T.b_is_formula .nil C8.pass0 (toA (pa_cons (toE (pv 4) r_var) (toA pa_nil r_nil)) r_cons)) r_call) (toE (pv 7) r_var) (nomark _)) (r_testOp ref_ne)) (pw_or1 (toT (pt_not (toT (pt_val (toE (pe_call G__law_like (hr.mono (by omega)) rfl T.g__law_like T.F__law_like.kp T.b__law_like .nil C8.pass0 (toA (pa_cons (toE (pv 8) r_var) (toA (pa_cons (toE (pv 9) r_var) (toA pa_nil r_nil)) r_cons)) r_cons)) r_call)) r_B)) r_not))) r_or)) (pss_one (toS (ps_ret (toE pe_bl r_bl)) s_ret)) (toSs pss_nil s_next)) s_if))) s_seq)) s_seq)) s_seq)) s_seq)) s_seq)) s_for)
      (toSs (pss_cons (toS (ps_set (i := 10) sc_law.nd rfl (Or.inl rfl) (toE (pe_ix ix_seq (toE (pv 2) r_var) (toE pe_int r_int) (fun _ _ => rfl)) (r_op ref_ix))) s_set)
      (toSs (pss_cons (toS (ps_set (i := 11) sc_law.nd rfl (Or.inl rfl) (toE (pe_lst (toA (pa_cons (toE (pe_call G_read_formula (hr.mono (by omega)) rfl T.g_read_formula T.F_read_formula.kp T.b_read_formula .nil passE0 (toA (pa_cons (toE pe_str (r_str (s := "0"))) (toA pa_nil r_nil)) r_cons)) r_call) (toA (pa_cons (toE (pe_call G_read_formula (hr.mono (by omega)) rfl T.g_read_formula T.F_read_formula.kp T.b_read_formula .nil passE0 (toA (pa_cons (toE (pv 10) r_var) (toA pa_nil r_nil)) r_cons)) r_call) (toA (pa_cons (toE (pe_callN0 G_read_formula (hr.mono (by omega)) rfl T.g_read_formula T.F_read_formula.kp (kc_read_formula_0_text T) passE0 (toK (pk_cons (toE (pe_op op_addA (toE (pe_op op_addA (toE pe_str (r_str (s := "\x28"))) (toE (pv 10) r_var)) (r_op ref_add)) (toE pe_str (r_str (s := " > 0\x29")))) (r_op ref_add)) (toK pk_nil r_nil)) r_cons)) (r_callN0 (pmE := fun l => l) (pmV := fun l => l) (fun h => h))) (toA pa_nil r_nil)) r_cons)) r_cons)) r_cons)) r_lst)) s_set)
      (toSs (pss_cons (toS (ps_set (i := 9) sc_law.nd rfl (Or.inl rfl) (toE (pe_lst (toA (pa_cons (toE (pe_tup (toA (pa_cons (toE pe_str (r_str (s := "false"))) (toA pa_nil r_nil)) r_cons)) r_tup) (toA (pa_cons (toE (pe_tup (toA (pa_cons (toE pe_str (r_str (s := "atom"))) (toA (pa_cons (toE (pv 10) r_var) (toA pa_nil r_nil)) r_cons)) r_cons)) r_tup) (toA (pa_cons (toE (pe_tup (toA (pa_cons (toE pe_str (r_str (s := "then"))) (toA (pa_cons (toE (pe_tup (toA (pa_cons (toE pe_str (r_str (s := "atom"))) (toA (pa_cons (toE (pv 10) r_var) (toA pa_nil r_nil)) r_cons)) r_cons)) r_tup) (toA (pa_cons (toE (pe_tup (toA (pa_cons (toE pe_str (r_str (s := "false"))) (toA pa_nil r_nil)) r_cons)) r_tup) (toA pa_nil r_nil)) r_cons)) r_cons)) r_cons)) r_tup) (toA pa_nil r_nil)) r_cons)) r_cons)) r_cons)) r_lst)) s_set)
      (pss_one (toS (ps_ret (toE (pe_and (toE (pe_call G__law_like (hr.mono (by omega)) rfl T.g__law_like T.F__law_like.kp T.b__law_like .nil C8.pass0 (toA (pa_cons (toE (pv 11) r_var) (toA (pa_cons (toE (pv 9) r_var) (toA pa_nil r_nil)) r_cons)) r_cons)) r_call) (pe_one (toE (pe_call G__law_like (hr.mono (by omega)) rfl T.g__law_like T.F__law_like.kp T.b__law_like .nil C8.pass0 (toA (pa_cons (toE (pe_lc (own := [("_law_one", 12)]) rfl sc_law.nd (toI (pi_list (toE (pv 9) r_var)) i_list) (blkOk_by (N := ["_law_script", "_law_bag_here", "_law_words", "_law_turn", "_law_form_here", "_law_k", "_law_text_z", "_law_good", "_law_told", "_law_due", "_law_word", "_law_found", "_law_one"]) (sc := defScope s_law) (by decide +kernel)) (fun _ _ _ _ _ => (toG (pg_name (i := 12) sc_law.nd rfl (Or.inl rfl)) g_name)) (fun _ _ _ _ _ => toTs pts_nil r_yes) (fun _ _ _ _ _ => (toE (pe_callN0 G_formula_text (hr.mono (by omega)) rfl T.g_formula_text T.F_formula_text.kp (kc_formula_text_0_formula T) passE0 (toK (pk_cons (toE (pv 12) r_var) (toK pk_nil r_nil)) r_cons)) (r_callN0 (pmE := fun l => l) (pmV := fun l => l) (fun h => h))))) (r_lc (by decide))) (toA (pa_cons (toE (pe_lst (toA (pa_cons (toE pe_str (r_str (s := "0"))) (toA (pa_cons (toE (pv 10) r_var) (toA (pa_cons (toE (pe_op op_addA (toE (pe_op op_addA (toE pe_str (r_str (s := "\x28"))) (toE (pv 10) r_var)) (r_op ref_add)) (toE pe_str (r_str (s := " > 0\x29")))) (r_op ref_add)) (toA pa_nil r_nil)) r_cons)) r_cons)) r_cons)) r_lst) (toA pa_nil r_nil)) r_cons)) r_cons)) r_call))) r_andV)) s_ret))) s_seq)) s_seq)) s_seq)) s_seq)) s_seq)
theorem ok_law (T : Txt K mg w P) (TB : LamX.TabB base mg T.cd_law T.tp_law) (hlaw : tb_law { nx := fun _ => False, rt := fun d => d = .bl true } ((List.replicate 13 SV.no).set 1 .bag)) : FnOk P w K mg base CX0 29 T.f_law T.fd_law ["_law_script"] (spLawT K [T.tp_law]) := by
  have G__law_bag : FnOk P w K mg base CX0 1 T.f__law_bag T.fd__law_bag _ (spBag K) := ok_bag T
  obtain ⟨oc, od, kV, doc, pm, an, ct, osl, e, lk⟩ := T.L_law
  rw [e] at lk ⊢
  refine fn_of (k := 28) lk T.cdk_law sc_law (fun vs H Q E h => ?_) (fun A outer s H vs Q E hr h => ?_)
  · obtain ⟨a, ns, rfl, _⟩ := h
    rfl
  · obtain ⟨a, ns, rfl, hS, hl, hT, k⟩ := h
    refine ⟨_, L2.PSs.nox (pss_cons (ps_set (i := 1) sc_law.nd rfl (Or.inl rfl) (pe_call G__law_bag (hr.mono (by omega)) rfl T.g__law_bag T.F__law_bag.kp T.b__law_bag .nil pass0 (pa_cons (pv 0) pa_nil)))
      (law_body (cs := _) T TB A outer s H E hr rfl)), ?_⟩
    refine ⟨_, rfl, a, ns, rfl, hS, hl, fun H1 b c s1 hb0 hB1 => ?_⟩
    refine law_in (N := ["_law_script", "_law_bag_here", "_law_words", "_law_turn", "_law_form_here", "_law_k", "_law_text_z", "_law_good", "_law_told", "_law_due", "_law_word", "_law_found", "_law_one"]) (by decide) (by decide) hB1 (fun p hp => ?_) k hlaw
    obtain rfl := List.mem_singleton.mp hp
    exact s1 _ _ (hT _ List.mem_cons_self)


end
end Ag
namespace Ag
open PySem L2
open C8 (pss_cut tCut)
section
variable {P : Program} {w : World} {K : PySem.W.Frag} {mg : Str → Option Value} {base : Heap} {cs : List (Str × Addr)}
/-! formulas, shapes, formulas with unknown parts -/
inductive Op where
  | th | an | or
  deriving DecidableEq
def opC : Op → List Nat
  | .th => cp "then"
  | .an => cp "and"
  | .or => cp "or"
theorem wne__atom : (cp "" = cp "atom") = False := eq_false (by decide +kernel)
theorem wne__false : (cp "" = cp "false") = False := eq_false (by decide +kernel)
theorem wne__hole : (cp "" = cp "hole") = False := eq_false (by decide +kernel)
theorem wne__part : (cp "" = cp "part") = False := eq_false (by decide +kernel)
theorem wne__then : (cp "" = cp "then") = False := eq_false (by decide +kernel)
theorem wne__and : (cp "" = cp "and") = False := eq_false (by decide +kernel)
theorem wne__or : (cp "" = cp "or") = False := eq_false (by decide +kernel)
theorem wne__gap : (cp "" = cp "gap") = False := eq_false (by decide +kernel)
theorem wne__own : (cp "" = cp "own") = False := eq_false (by decide +kernel)
theorem wne__new : (cp "" = cp "new") = False := eq_false (by decide +kernel)
theorem wne__name : (cp "" = cp "name") = False := eq_false (by decide +kernel)
theorem wne__newest : (cp "" = cp "newest") = False := eq_false (by decide +kernel)
theorem wne__oldest : (cp "" = cp "oldest") = False := eq_false (by decide +kernel)
theorem wne__shape : (cp "" = cp "shape") = False := eq_false (by decide +kernel)
theorem wne__both : (cp "" = cp "both") = False := eq_false (by decide +kernel)
theorem wne__goal : (cp "" = cp "goal") = False := eq_false (by decide +kernel)
theorem wne__toward : (cp "" = cp "toward") = False := eq_false (by decide +kernel)
theorem wne_atom_ : (cp "atom" = cp "") = False := eq_false (by decide +kernel)
theorem wne_atom_false : (cp "atom" = cp "false") = False := eq_false (by decide +kernel)
theorem wne_atom_hole : (cp "atom" = cp "hole") = False := eq_false (by decide +kernel)
theorem wne_atom_part : (cp "atom" = cp "part") = False := eq_false (by decide +kernel)
theorem wne_atom_then : (cp "atom" = cp "then") = False := eq_false (by decide +kernel)
theorem wne_atom_and : (cp "atom" = cp "and") = False := eq_false (by decide +kernel)
theorem wne_atom_or : (cp "atom" = cp "or") = False := eq_false (by decide +kernel)
theorem wne_atom_gap : (cp "atom" = cp "gap") = False := eq_false (by decide +kernel)
theorem wne_atom_own : (cp "atom" = cp "own") = False := eq_false (by decide +kernel)
theorem wne_atom_new : (cp "atom" = cp "new") = False := eq_false (by decide +kernel)
theorem wne_atom_name : (cp "atom" = cp "name") = False := eq_false (by decide +kernel)
theorem wne_atom_newest : (cp "atom" = cp "newest") = False := eq_false (by decide +kernel)
theorem wne_atom_oldest : (cp "atom" = cp "oldest") = False := eq_false (by decide +kernel)
theorem wne_atom_shape : (cp "atom" = cp "shape") = False := eq_false (by decide +kernel)
theorem wne_atom_both : (cp "atom" = cp "both") = False := eq_false (by decide +kernel)
theorem wne_atom_goal : (cp "atom" = cp "goal") = False := eq_false (by decide +kernel)
theorem wne_atom_toward : (cp "atom" = cp "toward") = False := eq_false (by decide +kernel)
theorem wne_false_ : (cp "false" = cp "") = False := eq_false (by decide +kernel)
theorem wne_false_atom : (cp "false" = cp "atom") = False := eq_false (by decide +kernel)
theorem wne_false_hole : (cp "false" = cp "hole") = False := eq_false (by decide +kernel)
theorem wne_false_part : (cp "false" = cp "part") = False := eq_false (by decide +kernel)
theorem wne_false_then : (cp "false" = cp "then") = False := eq_false (by decide +kernel)
theorem wne_false_and : (cp "false" = cp "and") = False := eq_false (by decide +kernel)
theorem wne_false_or : (cp "false" = cp "or") = False := eq_false (by decide +kernel)
theorem wne_false_gap : (cp "false" = cp "gap") = False := eq_false (by decide +kernel)
theorem wne_false_own : (cp "false" = cp "own") = False := eq_false (by decide +kernel)
theorem wne_false_new : (cp "false" = cp "new") = False := eq_false (by decide +kernel)
theorem wne_false_name : (cp "false" = cp "name") = False := eq_false (by decide +kernel)
theorem wne_false_newest : (cp "false" = cp "newest") = False := eq_false (by decide +kernel)
theorem wne_false_oldest : (cp "false" = cp "oldest") = False := eq_false (by decide +kernel)
theorem wne_false_shape : (cp "false" = cp "shape") = False := eq_false (by decide +kernel)
theorem wne_false_both : (cp "false" = cp "both") = False := eq_false (by decide +kernel)
theorem wne_false_goal : (cp "false" = cp "goal") = False := eq_false (by decide +kernel)
theorem wne_false_toward : (cp "false" = cp "toward") = False := eq_false (by decide +kernel)
theorem wne_hole_ : (cp "hole" = cp "") = False := eq_false (by decide +kernel)
theorem wne_hole_atom : (cp "hole" = cp "atom") = False := eq_false (by decide +kernel)
theorem wne_hole_false : (cp "hole" = cp "false") = False := eq_false (by decide +kernel)
theorem wne_hole_part : (cp "hole" = cp "part") = False := eq_false (by decide +kernel)
theorem wne_hole_then : (cp "hole" = cp "then") = False := eq_false (by decide +kernel)
theorem wne_hole_and : (cp "hole" = cp "and") = False := eq_false (by decide +kernel)
theorem wne_hole_or : (cp "hole" = cp "or") = False := eq_false (by decide +kernel)
theorem wne_hole_gap : (cp "hole" = cp "gap") = False := eq_false (by decide +kernel)
theorem wne_hole_own : (cp "hole" = cp "own") = False := eq_false (by decide +kernel)
theorem wne_hole_new : (cp "hole" = cp "new") = False := eq_false (by decide +kernel)
theorem wne_hole_name : (cp "hole" = cp "name") = False := eq_false (by decide +kernel)
theorem wne_hole_newest : (cp "hole" = cp "newest") = False := eq_false (by decide +kernel)
theorem wne_hole_oldest : (cp "hole" = cp "oldest") = False := eq_false (by decide +kernel)
theorem wne_hole_shape : (cp "hole" = cp "shape") = False := eq_false (by decide +kernel)
theorem wne_hole_both : (cp "hole" = cp "both") = False := eq_false (by decide +kernel)
theorem wne_hole_goal : (cp "hole" = cp "goal") = False := eq_false (by decide +kernel)
theorem wne_hole_toward : (cp "hole" = cp "toward") = False := eq_false (by decide +kernel)
theorem wne_part_ : (cp "part" = cp "") = False := eq_false (by decide +kernel)
theorem wne_part_atom : (cp "part" = cp "atom") = False := eq_false (by decide +kernel)
theorem wne_part_false : (cp "part" = cp "false") = False := eq_false (by decide +kernel)
theorem wne_part_hole : (cp "part" = cp "hole") = False := eq_false (by decide +kernel)
theorem wne_part_then : (cp "part" = cp "then") = False := eq_false (by decide +kernel)
theorem wne_part_and : (cp "part" = cp "and") = False := eq_false (by decide +kernel)
theorem wne_part_or : (cp "part" = cp "or") = False := eq_false (by decide +kernel)
theorem wne_part_gap : (cp "part" = cp "gap") = False := eq_false (by decide +kernel)
theorem wne_part_own : (cp "part" = cp "own") = False := eq_false (by decide +kernel)
theorem wne_part_new : (cp "part" = cp "new") = False := eq_false (by decide +kernel)
theorem wne_part_name : (cp "part" = cp "name") = False := eq_false (by decide +kernel)
theorem wne_part_newest : (cp "part" = cp "newest") = False := eq_false (by decide +kernel)
theorem wne_part_oldest : (cp "part" = cp "oldest") = False := eq_false (by decide +kernel)
theorem wne_part_shape : (cp "part" = cp "shape") = False := eq_false (by decide +kernel)
theorem wne_part_both : (cp "part" = cp "both") = False := eq_false (by decide +kernel)
theorem wne_part_goal : (cp "part" = cp "goal") = False := eq_false (by decide +kernel)
theorem wne_part_toward : (cp "part" = cp "toward") = False := eq_false (by decide +kernel)
theorem wne_then_ : (cp "then" = cp "") = False := eq_false (by decide +kernel)
theorem wne_then_atom : (cp "then" = cp "atom") = False := eq_false (by decide +kernel)
theorem wne_then_false : (cp "then" = cp "false") = False := eq_false (by decide +kernel)
theorem wne_then_hole : (cp "then" = cp "hole") = False := eq_false (by decide +kernel)
theorem wne_then_part : (cp "then" = cp "part") = False := eq_false (by decide +kernel)
theorem wne_then_and : (cp "then" = cp "and") = False := eq_false (by decide +kernel)
theorem wne_then_or : (cp "then" = cp "or") = False := eq_false (by decide +kernel)
theorem wne_then_gap : (cp "then" = cp "gap") = False := eq_false (by decide +kernel)
theorem wne_then_own : (cp "then" = cp "own") = False := eq_false (by decide +kernel)
theorem wne_then_new : (cp "then" = cp "new") = False := eq_false (by decide +kernel)
theorem wne_then_name : (cp "then" = cp "name") = False := eq_false (by decide +kernel)
theorem wne_then_newest : (cp "then" = cp "newest") = False := eq_false (by decide +kernel)
theorem wne_then_oldest : (cp "then" = cp "oldest") = False := eq_false (by decide +kernel)
theorem wne_then_shape : (cp "then" = cp "shape") = False := eq_false (by decide +kernel)
theorem wne_then_both : (cp "then" = cp "both") = False := eq_false (by decide +kernel)
theorem wne_then_goal : (cp "then" = cp "goal") = False := eq_false (by decide +kernel)
theorem wne_then_toward : (cp "then" = cp "toward") = False := eq_false (by decide +kernel)
theorem wne_and_ : (cp "and" = cp "") = False := eq_false (by decide +kernel)
theorem wne_and_atom : (cp "and" = cp "atom") = False := eq_false (by decide +kernel)
theorem wne_and_false : (cp "and" = cp "false") = False := eq_false (by decide +kernel)
theorem wne_and_hole : (cp "and" = cp "hole") = False := eq_false (by decide +kernel)
theorem wne_and_part : (cp "and" = cp "part") = False := eq_false (by decide +kernel)
theorem wne_and_then : (cp "and" = cp "then") = False := eq_false (by decide +kernel)
theorem wne_and_or : (cp "and" = cp "or") = False := eq_false (by decide +kernel)
theorem wne_and_gap : (cp "and" = cp "gap") = False := eq_false (by decide +kernel)
theorem wne_and_own : (cp "and" = cp "own") = False := eq_false (by decide +kernel)
theorem wne_and_new : (cp "and" = cp "new") = False := eq_false (by decide +kernel)
theorem wne_and_name : (cp "and" = cp "name") = False := eq_false (by decide +kernel)
theorem wne_and_newest : (cp "and" = cp "newest") = False := eq_false (by decide +kernel)
theorem wne_and_oldest : (cp "and" = cp "oldest") = False := eq_false (by decide +kernel)
theorem wne_and_shape : (cp "and" = cp "shape") = False := eq_false (by decide +kernel)
theorem wne_and_both : (cp "and" = cp "both") = False := eq_false (by decide +kernel)
theorem wne_and_goal : (cp "and" = cp "goal") = False := eq_false (by decide +kernel)
theorem wne_and_toward : (cp "and" = cp "toward") = False := eq_false (by decide +kernel)
theorem wne_or_ : (cp "or" = cp "") = False := eq_false (by decide +kernel)
theorem wne_or_atom : (cp "or" = cp "atom") = False := eq_false (by decide +kernel)
theorem wne_or_false : (cp "or" = cp "false") = False := eq_false (by decide +kernel)
theorem wne_or_hole : (cp "or" = cp "hole") = False := eq_false (by decide +kernel)
theorem wne_or_part : (cp "or" = cp "part") = False := eq_false (by decide +kernel)
theorem wne_or_then : (cp "or" = cp "then") = False := eq_false (by decide +kernel)
theorem wne_or_and : (cp "or" = cp "and") = False := eq_false (by decide +kernel)
theorem wne_or_gap : (cp "or" = cp "gap") = False := eq_false (by decide +kernel)
theorem wne_or_own : (cp "or" = cp "own") = False := eq_false (by decide +kernel)
theorem wne_or_new : (cp "or" = cp "new") = False := eq_false (by decide +kernel)
theorem wne_or_name : (cp "or" = cp "name") = False := eq_false (by decide +kernel)
theorem wne_or_newest : (cp "or" = cp "newest") = False := eq_false (by decide +kernel)
theorem wne_or_oldest : (cp "or" = cp "oldest") = False := eq_false (by decide +kernel)
theorem wne_or_shape : (cp "or" = cp "shape") = False := eq_false (by decide +kernel)
theorem wne_or_both : (cp "or" = cp "both") = False := eq_false (by decide +kernel)
theorem wne_or_goal : (cp "or" = cp "goal") = False := eq_false (by decide +kernel)
theorem wne_or_toward : (cp "or" = cp "toward") = False := eq_false (by decide +kernel)
theorem wne_gap_ : (cp "gap" = cp "") = False := eq_false (by decide +kernel)
theorem wne_gap_atom : (cp "gap" = cp "atom") = False := eq_false (by decide +kernel)
theorem wne_gap_false : (cp "gap" = cp "false") = False := eq_false (by decide +kernel)
theorem wne_gap_hole : (cp "gap" = cp "hole") = False := eq_false (by decide +kernel)
theorem wne_gap_part : (cp "gap" = cp "part") = False := eq_false (by decide +kernel)
theorem wne_gap_then : (cp "gap" = cp "then") = False := eq_false (by decide +kernel)
theorem wne_gap_and : (cp "gap" = cp "and") = False := eq_false (by decide +kernel)
theorem wne_gap_or : (cp "gap" = cp "or") = False := eq_false (by decide +kernel)
theorem wne_gap_own : (cp "gap" = cp "own") = False := eq_false (by decide +kernel)
theorem wne_gap_new : (cp "gap" = cp "new") = False := eq_false (by decide +kernel)
theorem wne_gap_name : (cp "gap" = cp "name") = False := eq_false (by decide +kernel)
theorem wne_gap_newest : (cp "gap" = cp "newest") = False := eq_false (by decide +kernel)
theorem wne_gap_oldest : (cp "gap" = cp "oldest") = False := eq_false (by decide +kernel)
theorem wne_gap_shape : (cp "gap" = cp "shape") = False := eq_false (by decide +kernel)
theorem wne_gap_both : (cp "gap" = cp "both") = False := eq_false (by decide +kernel)
theorem wne_gap_goal : (cp "gap" = cp "goal") = False := eq_false (by decide +kernel)
theorem wne_gap_toward : (cp "gap" = cp "toward") = False := eq_false (by decide +kernel)
theorem wne_own_ : (cp "own" = cp "") = False := eq_false (by decide +kernel)
theorem wne_own_atom : (cp "own" = cp "atom") = False := eq_false (by decide +kernel)
theorem wne_own_false : (cp "own" = cp "false") = False := eq_false (by decide +kernel)
theorem wne_own_hole : (cp "own" = cp "hole") = False := eq_false (by decide +kernel)
theorem wne_own_part : (cp "own" = cp "part") = False := eq_false (by decide +kernel)
theorem wne_own_then : (cp "own" = cp "then") = False := eq_false (by decide +kernel)
theorem wne_own_and : (cp "own" = cp "and") = False := eq_false (by decide +kernel)
theorem wne_own_or : (cp "own" = cp "or") = False := eq_false (by decide +kernel)
theorem wne_own_gap : (cp "own" = cp "gap") = False := eq_false (by decide +kernel)
theorem wne_own_new : (cp "own" = cp "new") = False := eq_false (by decide +kernel)
theorem wne_own_name : (cp "own" = cp "name") = False := eq_false (by decide +kernel)
theorem wne_own_newest : (cp "own" = cp "newest") = False := eq_false (by decide +kernel)
theorem wne_own_oldest : (cp "own" = cp "oldest") = False := eq_false (by decide +kernel)
theorem wne_own_shape : (cp "own" = cp "shape") = False := eq_false (by decide +kernel)
theorem wne_own_both : (cp "own" = cp "both") = False := eq_false (by decide +kernel)
theorem wne_own_goal : (cp "own" = cp "goal") = False := eq_false (by decide +kernel)
theorem wne_own_toward : (cp "own" = cp "toward") = False := eq_false (by decide +kernel)
theorem wne_new_ : (cp "new" = cp "") = False := eq_false (by decide +kernel)
theorem wne_new_atom : (cp "new" = cp "atom") = False := eq_false (by decide +kernel)
theorem wne_new_false : (cp "new" = cp "false") = False := eq_false (by decide +kernel)
theorem wne_new_hole : (cp "new" = cp "hole") = False := eq_false (by decide +kernel)
theorem wne_new_part : (cp "new" = cp "part") = False := eq_false (by decide +kernel)
theorem wne_new_then : (cp "new" = cp "then") = False := eq_false (by decide +kernel)
theorem wne_new_and : (cp "new" = cp "and") = False := eq_false (by decide +kernel)
theorem wne_new_or : (cp "new" = cp "or") = False := eq_false (by decide +kernel)
theorem wne_new_gap : (cp "new" = cp "gap") = False := eq_false (by decide +kernel)
theorem wne_new_own : (cp "new" = cp "own") = False := eq_false (by decide +kernel)
theorem wne_new_name : (cp "new" = cp "name") = False := eq_false (by decide +kernel)
theorem wne_new_newest : (cp "new" = cp "newest") = False := eq_false (by decide +kernel)
theorem wne_new_oldest : (cp "new" = cp "oldest") = False := eq_false (by decide +kernel)
theorem wne_new_shape : (cp "new" = cp "shape") = False := eq_false (by decide +kernel)
theorem wne_new_both : (cp "new" = cp "both") = False := eq_false (by decide +kernel)
theorem wne_new_goal : (cp "new" = cp "goal") = False := eq_false (by decide +kernel)
theorem wne_new_toward : (cp "new" = cp "toward") = False := eq_false (by decide +kernel)
theorem wne_name_ : (cp "name" = cp "") = False := eq_false (by decide +kernel)
theorem wne_name_atom : (cp "name" = cp "atom") = False := eq_false (by decide +kernel)
theorem wne_name_false : (cp "name" = cp "false") = False := eq_false (by decide +kernel)
theorem wne_name_hole : (cp "name" = cp "hole") = False := eq_false (by decide +kernel)
theorem wne_name_part : (cp "name" = cp "part") = False := eq_false (by decide +kernel)
theorem wne_name_then : (cp "name" = cp "then") = False := eq_false (by decide +kernel)
theorem wne_name_and : (cp "name" = cp "and") = False := eq_false (by decide +kernel)
theorem wne_name_or : (cp "name" = cp "or") = False := eq_false (by decide +kernel)
theorem wne_name_gap : (cp "name" = cp "gap") = False := eq_false (by decide +kernel)
theorem wne_name_own : (cp "name" = cp "own") = False := eq_false (by decide +kernel)
theorem wne_name_new : (cp "name" = cp "new") = False := eq_false (by decide +kernel)
theorem wne_name_newest : (cp "name" = cp "newest") = False := eq_false (by decide +kernel)
theorem wne_name_oldest : (cp "name" = cp "oldest") = False := eq_false (by decide +kernel)
theorem wne_name_shape : (cp "name" = cp "shape") = False := eq_false (by decide +kernel)
theorem wne_name_both : (cp "name" = cp "both") = False := eq_false (by decide +kernel)
theorem wne_name_goal : (cp "name" = cp "goal") = False := eq_false (by decide +kernel)
theorem wne_name_toward : (cp "name" = cp "toward") = False := eq_false (by decide +kernel)
theorem wne_newest_ : (cp "newest" = cp "") = False := eq_false (by decide +kernel)
theorem wne_newest_atom : (cp "newest" = cp "atom") = False := eq_false (by decide +kernel)
theorem wne_newest_false : (cp "newest" = cp "false") = False := eq_false (by decide +kernel)
theorem wne_newest_hole : (cp "newest" = cp "hole") = False := eq_false (by decide +kernel)
theorem wne_newest_part : (cp "newest" = cp "part") = False := eq_false (by decide +kernel)
theorem wne_newest_then : (cp "newest" = cp "then") = False := eq_false (by decide +kernel)
theorem wne_newest_and : (cp "newest" = cp "and") = False := eq_false (by decide +kernel)
theorem wne_newest_or : (cp "newest" = cp "or") = False := eq_false (by decide +kernel)
theorem wne_newest_gap : (cp "newest" = cp "gap") = False := eq_false (by decide +kernel)
theorem wne_newest_own : (cp "newest" = cp "own") = False := eq_false (by decide +kernel)
theorem wne_newest_new : (cp "newest" = cp "new") = False := eq_false (by decide +kernel)
theorem wne_newest_name : (cp "newest" = cp "name") = False := eq_false (by decide +kernel)
theorem wne_newest_oldest : (cp "newest" = cp "oldest") = False := eq_false (by decide +kernel)
theorem wne_newest_shape : (cp "newest" = cp "shape") = False := eq_false (by decide +kernel)
theorem wne_newest_both : (cp "newest" = cp "both") = False := eq_false (by decide +kernel)
theorem wne_newest_goal : (cp "newest" = cp "goal") = False := eq_false (by decide +kernel)
theorem wne_newest_toward : (cp "newest" = cp "toward") = False := eq_false (by decide +kernel)
theorem wne_oldest_ : (cp "oldest" = cp "") = False := eq_false (by decide +kernel)
theorem wne_oldest_atom : (cp "oldest" = cp "atom") = False := eq_false (by decide +kernel)
theorem wne_oldest_false : (cp "oldest" = cp "false") = False := eq_false (by decide +kernel)
theorem wne_oldest_hole : (cp "oldest" = cp "hole") = False := eq_false (by decide +kernel)
theorem wne_oldest_part : (cp "oldest" = cp "part") = False := eq_false (by decide +kernel)
theorem wne_oldest_then : (cp "oldest" = cp "then") = False := eq_false (by decide +kernel)
theorem wne_oldest_and : (cp "oldest" = cp "and") = False := eq_false (by decide +kernel)
theorem wne_oldest_or : (cp "oldest" = cp "or") = False := eq_false (by decide +kernel)
theorem wne_oldest_gap : (cp "oldest" = cp "gap") = False := eq_false (by decide +kernel)
theorem wne_oldest_own : (cp "oldest" = cp "own") = False := eq_false (by decide +kernel)
theorem wne_oldest_new : (cp "oldest" = cp "new") = False := eq_false (by decide +kernel)
theorem wne_oldest_name : (cp "oldest" = cp "name") = False := eq_false (by decide +kernel)
theorem wne_oldest_newest : (cp "oldest" = cp "newest") = False := eq_false (by decide +kernel)
theorem wne_oldest_shape : (cp "oldest" = cp "shape") = False := eq_false (by decide +kernel)
theorem wne_oldest_both : (cp "oldest" = cp "both") = False := eq_false (by decide +kernel)
theorem wne_oldest_goal : (cp "oldest" = cp "goal") = False := eq_false (by decide +kernel)
theorem wne_oldest_toward : (cp "oldest" = cp "toward") = False := eq_false (by decide +kernel)
theorem wne_shape_ : (cp "shape" = cp "") = False := eq_false (by decide +kernel)
theorem wne_shape_atom : (cp "shape" = cp "atom") = False := eq_false (by decide +kernel)
theorem wne_shape_false : (cp "shape" = cp "false") = False := eq_false (by decide +kernel)
theorem wne_shape_hole : (cp "shape" = cp "hole") = False := eq_false (by decide +kernel)
theorem wne_shape_part : (cp "shape" = cp "part") = False := eq_false (by decide +kernel)
theorem wne_shape_then : (cp "shape" = cp "then") = False := eq_false (by decide +kernel)
theorem wne_shape_and : (cp "shape" = cp "and") = False := eq_false (by decide +kernel)
theorem wne_shape_or : (cp "shape" = cp "or") = False := eq_false (by decide +kernel)
theorem wne_shape_gap : (cp "shape" = cp "gap") = False := eq_false (by decide +kernel)
theorem wne_shape_own : (cp "shape" = cp "own") = False := eq_false (by decide +kernel)
theorem wne_shape_new : (cp "shape" = cp "new") = False := eq_false (by decide +kernel)
theorem wne_shape_name : (cp "shape" = cp "name") = False := eq_false (by decide +kernel)
theorem wne_shape_newest : (cp "shape" = cp "newest") = False := eq_false (by decide +kernel)
theorem wne_shape_oldest : (cp "shape" = cp "oldest") = False := eq_false (by decide +kernel)
theorem wne_shape_both : (cp "shape" = cp "both") = False := eq_false (by decide +kernel)
theorem wne_shape_goal : (cp "shape" = cp "goal") = False := eq_false (by decide +kernel)
theorem wne_shape_toward : (cp "shape" = cp "toward") = False := eq_false (by decide +kernel)
theorem wne_both_ : (cp "both" = cp "") = False := eq_false (by decide +kernel)
theorem wne_both_atom : (cp "both" = cp "atom") = False := eq_false (by decide +kernel)
theorem wne_both_false : (cp "both" = cp "false") = False := eq_false (by decide +kernel)
theorem wne_both_hole : (cp "both" = cp "hole") = False := eq_false (by decide +kernel)
theorem wne_both_part : (cp "both" = cp "part") = False := eq_false (by decide +kernel)
theorem wne_both_then : (cp "both" = cp "then") = False := eq_false (by decide +kernel)
theorem wne_both_and : (cp "both" = cp "and") = False := eq_false (by decide +kernel)
theorem wne_both_or : (cp "both" = cp "or") = False := eq_false (by decide +kernel)
theorem wne_both_gap : (cp "both" = cp "gap") = False := eq_false (by decide +kernel)
theorem wne_both_own : (cp "both" = cp "own") = False := eq_false (by decide +kernel)
theorem wne_both_new : (cp "both" = cp "new") = False := eq_false (by decide +kernel)
theorem wne_both_name : (cp "both" = cp "name") = False := eq_false (by decide +kernel)
theorem wne_both_newest : (cp "both" = cp "newest") = False := eq_false (by decide +kernel)
theorem wne_both_oldest : (cp "both" = cp "oldest") = False := eq_false (by decide +kernel)
theorem wne_both_shape : (cp "both" = cp "shape") = False := eq_false (by decide +kernel)
theorem wne_both_goal : (cp "both" = cp "goal") = False := eq_false (by decide +kernel)
theorem wne_both_toward : (cp "both" = cp "toward") = False := eq_false (by decide +kernel)
theorem wne_goal_ : (cp "goal" = cp "") = False := eq_false (by decide +kernel)
theorem wne_goal_atom : (cp "goal" = cp "atom") = False := eq_false (by decide +kernel)
theorem wne_goal_false : (cp "goal" = cp "false") = False := eq_false (by decide +kernel)
theorem wne_goal_hole : (cp "goal" = cp "hole") = False := eq_false (by decide +kernel)
theorem wne_goal_part : (cp "goal" = cp "part") = False := eq_false (by decide +kernel)
theorem wne_goal_then : (cp "goal" = cp "then") = False := eq_false (by decide +kernel)
theorem wne_goal_and : (cp "goal" = cp "and") = False := eq_false (by decide +kernel)
theorem wne_goal_or : (cp "goal" = cp "or") = False := eq_false (by decide +kernel)
theorem wne_goal_gap : (cp "goal" = cp "gap") = False := eq_false (by decide +kernel)
theorem wne_goal_own : (cp "goal" = cp "own") = False := eq_false (by decide +kernel)
theorem wne_goal_new : (cp "goal" = cp "new") = False := eq_false (by decide +kernel)
theorem wne_goal_name : (cp "goal" = cp "name") = False := eq_false (by decide +kernel)
theorem wne_goal_newest : (cp "goal" = cp "newest") = False := eq_false (by decide +kernel)
theorem wne_goal_oldest : (cp "goal" = cp "oldest") = False := eq_false (by decide +kernel)
theorem wne_goal_shape : (cp "goal" = cp "shape") = False := eq_false (by decide +kernel)
theorem wne_goal_both : (cp "goal" = cp "both") = False := eq_false (by decide +kernel)
theorem wne_goal_toward : (cp "goal" = cp "toward") = False := eq_false (by decide +kernel)
theorem wne_toward_ : (cp "toward" = cp "") = False := eq_false (by decide +kernel)
theorem wne_toward_atom : (cp "toward" = cp "atom") = False := eq_false (by decide +kernel)
theorem wne_toward_false : (cp "toward" = cp "false") = False := eq_false (by decide +kernel)
theorem wne_toward_hole : (cp "toward" = cp "hole") = False := eq_false (by decide +kernel)
theorem wne_toward_part : (cp "toward" = cp "part") = False := eq_false (by decide +kernel)
theorem wne_toward_then : (cp "toward" = cp "then") = False := eq_false (by decide +kernel)
theorem wne_toward_and : (cp "toward" = cp "and") = False := eq_false (by decide +kernel)
theorem wne_toward_or : (cp "toward" = cp "or") = False := eq_false (by decide +kernel)
theorem wne_toward_gap : (cp "toward" = cp "gap") = False := eq_false (by decide +kernel)
theorem wne_toward_own : (cp "toward" = cp "own") = False := eq_false (by decide +kernel)
theorem wne_toward_new : (cp "toward" = cp "new") = False := eq_false (by decide +kernel)
theorem wne_toward_name : (cp "toward" = cp "name") = False := eq_false (by decide +kernel)
theorem wne_toward_newest : (cp "toward" = cp "newest") = False := eq_false (by decide +kernel)
theorem wne_toward_oldest : (cp "toward" = cp "oldest") = False := eq_false (by decide +kernel)
theorem wne_toward_shape : (cp "toward" = cp "shape") = False := eq_false (by decide +kernel)
theorem wne_toward_both : (cp "toward" = cp "both") = False := eq_false (by decide +kernel)
theorem wne_toward_goal : (cp "toward" = cp "goal") = False := eq_false (by decide +kernel)

theorem fIx_0 {a : D} {l : List D} : fIx (.tup (a :: l)) (.int 0) = some a := by
  show L2.atI (a :: l) ((0 : Nat) : Int) = some a
  exact atI_nat rfl
theorem fIx_1 {a b : D} {l : List D} : fIx (.tup (a :: b :: l)) (.int 1) = some b := by
  show L2.atI (a :: b :: l) ((1 : Nat) : Int) = some b
  exact atI_nat rfl
theorem fIx_2 {a b c : D} {l : List D} : fIx (.tup (a :: b :: c :: l)) (.int 2) = some c := by
  show L2.atI (a :: b :: c :: l) ((2 : Nat) : Int) = some c
  exact atI_nat rfl
theorem strL_flat : ∀ ss : List String, (strL ss).all flatD = true
  | [] => rfl
  | s :: ss => by rw [strL, List.map_cons, List.all_cons]; exact strL_flat ss
theorem inF_S (l : List Nat) (ss : List String) : inF (.str l) (strL ss) = ss.any fun s => decide (cp s = l) := by
  unfold inF strL
  rw [List.any_map]
  congr 1
  funext s
  show (cp s == l) = decide (cp s = l)
  exact Bool.beq_eq_decide_eq _ _
theorem inB_S {l : List Nat} {ss : List String} : inB (.str l) (tupS ss) = some (ss.any fun s => decide (cp s = l)) := by
  unfold tupS inB
  dsimp only
  rw [if_pos ⟨rfl, strL_flat ss⟩, inF_S]
theorem fIn_S {l : List Nat} {ss : List String} : fIn (.str l) (tupS ss) = some (.bl (ss.any fun s => decide (cp s = l))) := by rw [fIn, inB_S]; rfl
theorem fNotIn_S {l : List Nat} {ss : List String} : fNotIn (.str l) (tupS ss) = some (.bl !(ss.any fun s => decide (cp s = l))) := by rw [fNotIn, inB_S]; rfl
theorem pairs_op (o : Op) : (["then", "and", "or"].any fun s => decide (cp s = opC o)) = true := by cases o <;> decide +kernel
theorem fEq_str {a b : List Nat} : fEq (.str a) (.str b) = some (.bl (decide (a = b))) := rfl
theorem fNe_str {a b : List Nat} : fNe (.str a) (.str b) = some (.bl !(decide (a = b))) := rfl
theorem fAdd_str {a b : List Nat} (h : a.length + b.length ≤ 1000000) : fAdd (.str a) (.str b) = some (.str (a ++ b)) := by
  show (if _ then _ else _) = _
  exact if_pos h
theorem fAdd_lst {a b : List D} (h : a.length + b.length ≤ 1000000) : fAdd (.lst a) (.lst b) = some (.lst (a ++ b)) := by
  show (if _ then _ else _) = _
  exact if_pos h
theorem fEq_bl {a b : Bool} : fEq (.bl a) (.bl b) = some (.bl (decide (a = b))) := rfl
theorem fNe_bl {a b : Bool} : fNe (.bl a) (.bl b) = some (.bl !(decide (a = b))) := rfl
theorem fEq_int {a b : Int} : fEq (.int a) (.int b) = some (.bl (decide (a = b))) := rfl
theorem fNe_int {a b : Int} : fNe (.int a) (.int b) = some (.bl !(decide (a = b))) := rfl
inductive Tm where
  | atom (s : List Nat)
  | fls
  | hole (s : List Nat)
  | part (n : Int)
  | bin (o : Op) (a b : Tm)
  deriving DecidableEq
def encD : Tm → D
  | .atom s => .tup [.str (cp "atom"), .str s]
  | .fls => .tup [.str (cp "false")]
  | .hole s => .tup [.str (cp "hole"), .str s]
  | .part n => .tup [.str (cp "part"), .int n]
  | .bin o a b => .tup [.str (opC o), encD a, encD b]
def Tm.deep : Tm → Nat
  | .bin _ a b => max a.deep b.deep + 1
  | _ => 1
theorem Tm.deep_pos : ∀ t : Tm, 1 ≤ t.deep
  | .bin _ a b => by unfold Tm.deep; omega
  | .atom _ => Nat.le_refl _
  | .fls => Nat.le_refl _
  | .hole _ => Nat.le_refl _
  | .part _ => Nat.le_refl _
theorem lcL_map {i : Nat} {te : DT} {vs : List Nat} {f : D → D} {ρ : En} {k : List D → En → Prop} : ∀ (ds acc : List D), (∀ d ∈ ds, ∀ R : D → En → Prop, R (f d) (ρ.set i (.dat d)) → te (ρ.set i (.dat d)) R noX) → (∀ d, wipeE (ρ.set i (.dat d)) vs = ρ) → acc.length + ds.length ≤ 1000000 →
    k (acc ++ ds.map f) ρ → lcL (dName i) dYes te vs ds ρ acc k
  | [], acc, _, _, _, h => by simpa [lcL] using h
  | d :: ds, acc, ht, hw, hl, h => by
    have e : lcL (dName i) dYes te vs (d :: ds) ρ acc k = te (ρ.set i (.dat d)) (fun y ρ4 => acc.length < 1000000 ∧ lcL (dName i) dYes te vs ds (wipeE ρ4 vs) (acc ++ [y]) k) noX := by
      simp only [lcL, dName, dYes, if_true]
    rw [e]
    refine ht d List.mem_cons_self _ ⟨by rw [List.length_cons] at hl; omega, ?_⟩
    rw [hw d]
    exact lcL_map ds _ (fun e he => ht e (List.mem_cons_of_mem _ he)) hw (by simp at hl ⊢; omega) (by simpa using h)
theorem lcL_filter {i : Nat} {tt : DG Bool} {te : DT} {vs : List Nat} {p : D → Bool} {f : D → D} {ρ : En} {k : List D → En → Prop} : ∀ (ds acc : List D), (∀ d ∈ ds, ∀ R : Bool → En → Prop, R (p d) (ρ.set i (.dat d)) → tt (ρ.set i (.dat d)) R noX) →
    (∀ d ∈ ds, p d = true → ∀ R : D → En → Prop, R (f d) (ρ.set i (.dat d)) → te (ρ.set i (.dat d)) R noX) → (∀ d, wipeE (ρ.set i (.dat d)) vs = ρ) → acc.length + ds.length ≤ 1000000 →
    k (acc ++ (ds.filter p).map f) ρ → lcL (dName i) tt te vs ds ρ acc k
  | [], acc, _, _, _, _, h => by simpa [lcL] using h
  | d :: ds, acc, hp, ht, hw, hl, h => by
    refine hp d List.mem_cons_self _ ?_
    by_cases q : p d = true
    · rw [if_pos q]
      refine ht d List.mem_cons_self q _ ⟨by rw [List.length_cons] at hl; omega, ?_⟩
      rw [hw d]
      exact lcL_filter ds _ (fun e he => hp e (List.mem_cons_of_mem _ he)) (fun e he => ht e (List.mem_cons_of_mem _ he)) hw (by simp at hl ⊢; omega) (by simpa [List.filter_cons, q] using h)
    · rw [if_neg q, hw d]
      exact lcL_filter ds _ (fun e he => hp e (List.mem_cons_of_mem _ he)) (fun e he => ht e (List.mem_cons_of_mem _ he)) hw (by simp at hl ⊢; omega) (by simpa [List.filter_cons, q] using h)
theorem lcL_any {g : DGt} {tt : DG Bool} {te : DT} {vs : List Nat} {p : D → Bool} {f : D → D} {ρ : En} {k : List D → En → Prop} (s : D → En) : ∀ (ds acc : List D), (∀ d ∈ ds, ∀ k : En → Prop, k (s d) → g d ρ k) → (∀ d ∈ ds, ∀ R : Bool → En → Prop, R (p d) (s d) → tt (s d) R noX) →
    (∀ d ∈ ds, p d = true → ∀ R : D → En → Prop, R (f d) (s d) → te (s d) R noX) → (∀ d ∈ ds, wipeE (s d) vs = ρ) → acc.length + ds.length ≤ 1000000 →
    k (acc ++ (ds.filter p).map f) ρ → lcL g tt te vs ds ρ acc k
  | [], acc, _, _, _, _, _, h => by simpa [lcL] using h
  | d :: ds, acc, hg, hp, ht, hw, hl, h => by
    refine hg d List.mem_cons_self _ (hp d List.mem_cons_self _ ?_)
    have next := fun acc' => lcL_any (g := g) (tt := tt) (te := te) (vs := vs) (p := p) (f := f) (ρ := ρ) (k := k) s ds acc' (fun e he => hg e (List.mem_cons_of_mem _ he)) (fun e he => hp e (List.mem_cons_of_mem _ he)) (fun e he => ht e (List.mem_cons_of_mem _ he)) (fun e he => hw e (List.mem_cons_of_mem _ he))
    by_cases q : p d = true
    · rw [if_pos q]
      refine ht d List.mem_cons_self q _ ⟨by rw [List.length_cons] at hl; omega, ?_⟩
      rw [hw d List.mem_cons_self]
      exact next _ (by simp at hl ⊢; omega) (by simpa [List.filter_cons, q] using h)
    · rw [if_neg q, hw d List.mem_cons_self]
      exact next _ (by simp at hl ⊢; omega) (by simpa [List.filter_cons, q] using h)
theorem intL_flat : ∀ ns : List Nat, (ns.map fun n : Nat => D.int (n : Nat)).all flatD = true
  | [] => rfl
  | n :: ns => by rw [List.map_cons, List.all_cons]; exact intL_flat ns
theorem inF_I (n : Nat) (ns : List Nat) : inF (.int (n : Nat)) (ns.map fun n : Nat => .int (n : Nat)) = ns.contains n := by
  unfold inF
  rw [List.any_map, List.contains_eq_any_beq]
  congr 1
  funext m
  show ((m : Int) == (n : Int)) = (n == m)
  by_cases e : m = n
  · subst e; simp
  · have h1 : ((m : Int) == (n : Int)) = false := by rw [beq_eq_false_iff_ne]; omega
    have h2 : (n == m) = false := by simpa using Ne.symm e
    rw [h1, h2]
theorem inB_IT {n : Nat} {ns : List Nat} : inB (.int (n : Nat)) (.tup (ns.map fun n : Nat => .int (n : Nat))) = some (ns.contains n) := by
  unfold inB
  dsimp only
  rw [if_pos ⟨rfl, intL_flat ns⟩, inF_I]
theorem bools_true {α : Type} : ∀ l : List α, bools (l.map fun _ => D.bl true) = some (l.map fun _ => true)
  | [] => rfl
  | x :: l => by rw [List.map_cons, bools, bools_true l]; rfl
theorem all_true {α : Type} : ∀ l : List α, (l.map fun _ => true).all id = true
  | [] => rfl
  | x :: l => by rw [List.map_cons, List.all_cons, all_true l]; rfl
theorem zip_self {α : Type} : ∀ l : List α, l.zip l = l.map fun x => (x, x)
  | [] => rfl
  | x :: l => by rw [List.zip_cons_cons, zip_self l]; rfl
theorem bools_map {α : Type} (f : α → Bool) : ∀ l : List α, bools (l.map fun x => D.bl (f x)) = some (l.map f)
  | [] => rfl
  | x :: l => by rw [List.map_cons, bools, bools_map f l]; rfl
/-- a for whose turns keep I -/
theorem dForL_inv {g : DGt} {tb : DS} {G : DEn} (I : En → Prop) : ∀ (ds : List D) (ρ : En), I ρ → (∀ d ∈ ds, ∀ ρ, I ρ → ∀ N : En → Prop, (∀ ρ', I ρ' → N ρ') → g d ρ fun ρ1 => tb { G with nx := N, ct := N, bk := G.nx } ρ1) → (∀ ρ, I ρ → G.nx ρ) → dForL g tb ds G ρ
  | [], ρ, h, _, hn => hn ρ h
  | d :: ds, ρ, h, ht, hn => ht d List.mem_cons_self ρ h _ fun ρ' h' => dForL_inv I ds ρ' h' (fun e he => ht e (List.mem_cons_of_mem _ he)) hn
/-- a name's text -/
def isLw (c : Nat) : Bool := decide (97 ≤ c ∧ c ≤ 122)
def isNm (l : List Nat) : Bool := decide (1 ≤ l.length ∧ l.length ≤ 6) && l.all isLw
theorem letters_eq : cp "abcdefghijklmnopqrstuvwxyz" = List.range' 97 26 := by decide +kernel
theorem letters_mem (c : Nat) : decide (c ∈ cp "abcdefghijklmnopqrstuvwxyz") = isLw c := by
  rw [letters_eq]
  unfold isLw
  rw [decide_eq_decide, List.mem_range'_1]
  omega
theorem isNm_len {l : List Nat} (h : isNm l = true) : 1 ≤ l.length ∧ l.length ≤ 6 := by
  unfold isNm at h
  rw [Bool.and_eq_true_iff] at h
  exact of_decide_eq_true h.1
/-- a formula over names -/
def Tm.good : Tm → Bool
  | .atom s => isNm s
  | .fls => true
  | .hole _ => false
  | .part _ => false
  | .bin _ a b => a.good && b.good
def rowD (z : List Nat) (t : Tm) : D := .tup [.str z, encD t]
structure Row where
  z : List Nat
  t : Tm
  deriving DecidableEq
def Row.d (r : Row) : D := rowD r.z r.t
def Row.ok (r : Row) (n : Nat) : Prop := isNm r.z = true ∧ r.t.good = true ∧ r.t.deep ≤ n
theorem cp_ne {a b : String} (h : Str.ofString a ≠ Str.ofString b) : cp a ≠ cp b := fun e => h (by rw [← S_cp a, ← S_cp b, e])
/-! like: equal things -/
mutual
/-- nested less than n deep, no dicts, no objects -/
def fitD : Nat → D → Bool
  | 0, _ => false
  | n + 1, .tup ds => decide (ds.length ≤ 100000) && fitL n ds
  | n + 1, .lst ds => decide (ds.length ≤ 100000) && fitL n ds
  | _ + 1, .dct _ _ => false
  | _ + 1, .ins _ _ => false
  | _ + 1, .lam _ => false
  | _ + 1, .fn _ _ => false
  | _ + 1, .exc _ _ => false
  | _ + 1, _ => true
def fitL : Nat → List D → Bool
  | _, [] => true
  | n, d :: ds => fitD n d && fitL n ds
end
theorem fitL_mem {n : Nat} : ∀ {ds : List D}, fitL n ds = true → ∀ d ∈ ds, fitD n d = true
  | [], _, d, hd => by cases hd
  | e :: ds, h, d, hd => by
    unfold fitL at h
    rw [Bool.and_eq_true_iff] at h
    rcases List.mem_cons.mp hd with rfl | hd
    · exact h.1
    · exact fitL_mem h.2 d hd
theorem fitL_of {n : Nat} : ∀ {ds : List D}, (∀ d ∈ ds, fitD n d = true) → fitL n ds = true
  | [], _ => by unfold fitL; rfl
  | e :: ds, h => by
    unfold fitL
    rw [h e List.mem_cons_self, fitL_of fun d hd => h d (List.mem_cons_of_mem _ hd)]; rfl
theorem fitD_mono : ∀ {n m : Nat} {d : D}, fitD n d = true → n ≤ m → fitD m d = true
  | 0, _, _, h, _ => by unfold fitD at h; cases h
  | n + 1, 0, _, _, h => by omega
  | n + 1, m + 1, d, h, hm => by
    cases d with
    | tup ds =>
      unfold fitD at h ⊢
      rw [Bool.and_eq_true_iff] at h ⊢
      exact ⟨h.1, fitL_of fun x hx => fitD_mono (fitL_mem h.2 x hx) (by omega)⟩
    | lst ds =>
      unfold fitD at h ⊢
      rw [Bool.and_eq_true_iff] at h ⊢
      exact ⟨h.1, fitL_of fun x hx => fitD_mono (fitL_mem h.2 x hx) (by omega)⟩
    | dct _ _ => unfold fitD at h; cases h
    | ins _ _ => unfold fitD at h; cases h
    | lam _ => unfold fitD at h; cases h
    | fn _ _ => unfold fitD at h; cases h
    | exc _ _ => unfold fitD at h; cases h
    | _ => unfold fitD; rfl
theorem enc_fit : ∀ t : Tm, fitD (t.deep + 1) (encD t) = true
  | .atom s => by simp [encD, fitD, fitL, Tm.deep]
  | .fls => by simp [encD, fitD, fitL, Tm.deep]
  | .hole s => by simp [encD, fitD, fitL, Tm.deep]
  | .part n => by simp [encD, fitD, fitL, Tm.deep]
  | .bin o a b => by
    have h1 := fitD_mono (enc_fit a) (show a.deep + 1 ≤ max a.deep b.deep + 1 by omega)
    have h2 := fitD_mono (enc_fit b) (show b.deep + 1 ≤ max a.deep b.deep + 1 by omega)
    simp [encD, fitD, fitL, Tm.deep, h1, h2]

end
end Ag
namespace Ag
open PySem L2
open C8 (pss_cut tCut)
section
variable {P : Program} {w : World} {K : PySem.W.Frag} {mg : Str → Option Value} {base : Heap} {cs : List (Str × Addr)}
/-! what the transformers of the program's defs say -/
theorem T_is_name_str {l : List Nat} {R : D → Prop} {X : Xc → Prop} (hl : l.length ≤ 1000000) (h : R (.bl (isNm l))) : T_is_name [.dat (.str l)] R X := by
  unfold T_is_name
  simp only [wipeE, fIx_0, fIx_1, fIx_2, fEq_str, fNe_str, fEq_int, fNe_int, fEq_bl, fNe_bl, isNon, decide_true, decide_false, eq_self, dSeq, dNext, dRet, dRetN, dDrop, dIfS, dNever, dAsg, dPar, dPar3, dName, dgTup, dgCons, dgNil, dFor, dForL, dVar, dC, dOp, dUn, dNil, dCons, dBagA, dStar, dCB, dTup, dLst, dB, dAnd, dOr, dNot, dIf, dAndV, dOrV, dNotV, dChain, dIsN, dNotN, dIsi, dIsi2, dSl, dPart, dNoPart, dLc, dYes, dCall, dCallN, dDef, dMeth, dMethK, dMethR, dMake, dMakeK, dOwn, dInit, dSetF, dFldO, itemsL, itemsT, itemsS, itemsR1, itemsR2, itemsZ, itemsE, dJoin, dJoined, dJs, dAug, dOwnL, dAppend, dExtend, dPop, starT, datL, ok_some, ok_none, List.length_cons, List.length_nil, List.replicate_succ, List.replicate_zero, List.cons_append, List.nil_append, List.append_nil, List.getElem?_cons_zero, List.getElem?_cons_succ, List.getElem?_nil, List.set_cons_zero, List.set_cons_succ, List.set_nil, List.map_cons, List.map_nil, Option.map_some, Option.map_none, Option.bind_some, Option.bind_none, if_true, if_false, true_and, and_true, Bool.not_true, Bool.not_false, reduceIte, Bool.false_eq_true, Bool.true_or, Bool.or_true, Bool.true_and, Bool.and_true, Bool.false_and, Bool.and_false, Bool.false_or, Bool.or_false, String.reduceBEq, Int.cast_ofNat_Int, Int.reduceEq, Int.reduceLE, Int.reduceLT, Int.reduceNeg, Int.reduceAdd, Int.reduceSub, Bool.not_eq_true, inB_S, fIn_S, fNotIn_S,  Nat.reduceAdd, List.take_succ_cons, List.take_zero, List.drop_succ_cons, List.drop_zero, Nat.reduceEqDiff, Nat.reduceLeDiff, Nat.zero_le, isIns, fFld, beq_self_eq_true, tyD, subT, fLen, fInt, hl]
  by_cases h1 : (1 : Int) ≤ (l.length : Int)
  · rw [if_pos (decide_eq_true h1)]
    by_cases h2 : (l.length : Int) ≤ 6
    · rw [decide_eq_true h2, if_neg (by decide)]
      refine lcL_map (f := fun d => match d with | .str [c] => .bl (isLw c) | _ => .non) _ _ (fun d hd R hR => ?_) (fun d => rfl) (by simpa using hl) ?_
      · obtain ⟨c, hc, rfl⟩ := List.mem_map.mp hd
        simp only [wipeE, fIx_0, fIx_1, fIx_2, fEq_str, fNe_str, fEq_int, fNe_int, fEq_bl, fNe_bl, isNon, decide_true, decide_false, eq_self, dSeq, dNext, dRet, dRetN, dDrop, dIfS, dNever, dAsg, dPar, dPar3, dName, dgTup, dgCons, dgNil, dFor, dForL, dVar, dC, dOp, dUn, dNil, dCons, dBagA, dStar, dCB, dTup, dLst, dB, dAnd, dOr, dNot, dIf, dAndV, dOrV, dNotV, dChain, dIsN, dNotN, dIsi, dIsi2, dSl, dPart, dNoPart, dLc, dYes, dCall, dCallN, dDef, dMeth, dMethK, dMethR, dMake, dMakeK, dOwn, dInit, dSetF, dFldO, itemsL, itemsT, itemsS, itemsR1, itemsR2, itemsZ, itemsE, dJoin, dJoined, dJs, dAug, dOwnL, dAppend, dExtend, dPop, starT, datL, ok_some, ok_none, List.length_cons, List.length_nil, List.replicate_succ, List.replicate_zero, List.cons_append, List.nil_append, List.append_nil, List.getElem?_cons_zero, List.getElem?_cons_succ, List.getElem?_nil, List.set_cons_zero, List.set_cons_succ, List.set_nil, List.map_cons, List.map_nil, Option.map_some, Option.map_none, Option.bind_some, Option.bind_none, if_true, if_false, true_and, and_true, Bool.not_true, Bool.not_false, reduceIte, Bool.false_eq_true, Bool.true_or, Bool.or_true, Bool.true_and, Bool.and_true, Bool.false_and, Bool.and_false, Bool.false_or, Bool.or_false, String.reduceBEq, Int.cast_ofNat_Int, Int.reduceEq, Int.reduceLE, Int.reduceLT, Int.reduceNeg, Int.reduceAdd, Int.reduceSub, Bool.not_eq_true, inB_S, fIn_S, fNotIn_S,  Nat.reduceAdd, List.take_succ_cons, List.take_zero, List.drop_succ_cons, List.drop_zero, Nat.reduceEqDiff, Nat.reduceLeDiff, Nat.zero_le, isIns, fFld, beq_self_eq_true, fIn, inB, letters_mem]
        exact hR
      · rw [List.map_map]
        have e2 : (List.map ((fun d => match d with | .str [c] => D.bl (isLw c) | _ => .non) ∘ fun c => D.str [c]) l) = l.map fun c => D.bl (isLw c) := List.map_congr_left fun c _ => rfl
        rw [List.nil_append, e2]
        simp only [fAll, bools_map, ok_some, Option.map_some]
        have e3 : (List.map isLw l).all id = l.all isLw := by simp [List.all_map]
        rw [e3]
        unfold isNm at h
        rwa [decide_eq_true (show 1 ≤ l.length ∧ l.length ≤ 6 by omega), Bool.true_and] at h
    · rw [decide_eq_false h2, if_pos (by decide)]
      unfold isNm at h
      rwa [decide_eq_false (by omega), Bool.false_and] at h
  · rw [if_neg (by simpa using h1)]
    unfold isNm at h
    rwa [decide_eq_false (by omega), Bool.false_and] at h
theorem T_is_leaf_good {t : Tm} {R : D → Prop} {X : Xc → Prop} (hg : t.good = true) (hd : t.deep ≤ 1) (h : R (.bl true)) : T_is_leaf [.dat (encD t), .dat (.str (cp ""))] R X := by
  cases t with
  | bin o a b => unfold Tm.deep at hd; have := a.deep_pos; omega
  | hole s => cases hg
  | part n => cases hg
  | fls =>
    unfold T_is_leaf encD
    simp only [wipeE, fIx_0, fIx_1, fIx_2, fEq_str, fNe_str, fEq_int, fNe_int, fEq_bl, fNe_bl, isNon, decide_true, decide_false, eq_self, dSeq, dNext, dRet, dRetN, dDrop, dIfS, dNever, dAsg, dPar, dPar3, dName, dgTup, dgCons, dgNil, dFor, dForL, dVar, dC, dOp, dUn, dNil, dCons, dBagA, dStar, dCB, dTup, dLst, dB, dAnd, dOr, dNot, dIf, dAndV, dOrV, dNotV, dChain, dIsN, dNotN, dIsi, dIsi2, dSl, dPart, dNoPart, dLc, dYes, dCall, dCallN, dDef, dMeth, dMethK, dMethR, dMake, dMakeK, dOwn, dInit, dSetF, dFldO, itemsL, itemsT, itemsS, itemsR1, itemsR2, itemsZ, itemsE, dJoin, dJoined, dJs, dAug, dOwnL, dAppend, dExtend, dPop, starT, datL, ok_some, ok_none, List.length_cons, List.length_nil, List.replicate_succ, List.replicate_zero, List.cons_append, List.nil_append, List.append_nil, List.getElem?_cons_zero, List.getElem?_cons_succ, List.getElem?_nil, List.set_cons_zero, List.set_cons_succ, List.set_nil, List.map_cons, List.map_nil, Option.map_some, Option.map_none, Option.bind_some, Option.bind_none, if_true, if_false, true_and, and_true, Bool.not_true, Bool.not_false, reduceIte, Bool.false_eq_true, Bool.true_or, Bool.or_true, Bool.true_and, Bool.and_true, Bool.false_and, Bool.and_false, Bool.false_or, Bool.or_false, String.reduceBEq, Int.cast_ofNat_Int, Int.reduceEq, Int.reduceLE, Int.reduceLT, Int.reduceNeg, Int.reduceAdd, Int.reduceSub, Bool.not_eq_true, inB_S, fIn_S, fNotIn_S,  Nat.reduceAdd, List.take_succ_cons, List.take_zero, List.drop_succ_cons, List.drop_zero, Nat.reduceEqDiff, Nat.reduceLeDiff, Nat.zero_le, isIns, fFld, beq_self_eq_true, fLen, wne_atom_false, wne_atom_hole, wne_atom_, wne_false_atom, wne_false_hole, wne_false_, wne_hole_atom, wne_hole_false, wne_hole_, wne__atom, wne__false, wne__hole]
    exact h
  | atom s =>
    unfold T_is_leaf encD
    simp only [wipeE, fIx_0, fIx_1, fIx_2, fEq_str, fNe_str, fEq_int, fNe_int, fEq_bl, fNe_bl, isNon, decide_true, decide_false, eq_self, dSeq, dNext, dRet, dRetN, dDrop, dIfS, dNever, dAsg, dPar, dPar3, dName, dgTup, dgCons, dgNil, dFor, dForL, dVar, dC, dOp, dUn, dNil, dCons, dBagA, dStar, dCB, dTup, dLst, dB, dAnd, dOr, dNot, dIf, dAndV, dOrV, dNotV, dChain, dIsN, dNotN, dIsi, dIsi2, dSl, dPart, dNoPart, dLc, dYes, dCall, dCallN, dDef, dMeth, dMethK, dMethR, dMake, dMakeK, dOwn, dInit, dSetF, dFldO, itemsL, itemsT, itemsS, itemsR1, itemsR2, itemsZ, itemsE, dJoin, dJoined, dJs, dAug, dOwnL, dAppend, dExtend, dPop, starT, datL, ok_some, ok_none, List.length_cons, List.length_nil, List.replicate_succ, List.replicate_zero, List.cons_append, List.nil_append, List.append_nil, List.getElem?_cons_zero, List.getElem?_cons_succ, List.getElem?_nil, List.set_cons_zero, List.set_cons_succ, List.set_nil, List.map_cons, List.map_nil, Option.map_some, Option.map_none, Option.bind_some, Option.bind_none, if_true, if_false, true_and, and_true, Bool.not_true, Bool.not_false, reduceIte, Bool.false_eq_true, Bool.true_or, Bool.or_true, Bool.true_and, Bool.and_true, Bool.false_and, Bool.and_false, Bool.false_or, Bool.or_false, String.reduceBEq, Int.cast_ofNat_Int, Int.reduceEq, Int.reduceLE, Int.reduceLT, Int.reduceNeg, Int.reduceAdd, Int.reduceSub, Bool.not_eq_true, inB_S, fIn_S, fNotIn_S,  Nat.reduceAdd, List.take_succ_cons, List.take_zero, List.drop_succ_cons, List.drop_zero, Nat.reduceEqDiff, Nat.reduceLeDiff, Nat.zero_le, isIns, fFld, beq_self_eq_true, fLen, wne_atom_false, wne_atom_hole, wne_atom_, wne_false_atom, wne_false_hole, wne_false_, wne_hole_atom, wne_hole_false, wne_hole_, wne__atom, wne__false, wne__hole]
    refine T_is_name_str (by have := isNm_len hg; omega) ?_
    rw [show isNm s = true from hg]
    exact h
theorem T_is_form_good {R : D → Prop} {X : Xc → Prop} : ∀ {n : Nat} {t : Tm} {k : Int}, t.good = true → (t.deep : Int) ≤ k → t.deep < n → R (.bl true) → T_is_form n [.dat (encD t), .dat (.int k), .dat (.str (cp ""))] R X
  | 0, t, k, _, _, hn, _ => by omega
  | n + 1, t, k, hg, hk, hn, h => by
    have hp := t.deep_pos
    have k0 : ¬ k = 0 := by omega
    unfold T_is_form
    cases t with
    | bin o a b =>
      unfold Tm.good at hg
      rw [Bool.and_eq_true_iff] at hg
      have hdp : (Tm.bin o a b).deep = max a.deep b.deep + 1 := rfl
      rw [hdp] at hk hn
      unfold encD
      have hs : fSl (.tup [.str (opC o), encD a, encD b]) (some 1) none = some (.tup [encD a, encD b]) := rfl
      simp only [wipeE, fIx_0, fIx_1, fIx_2, fEq_str, fNe_str, fEq_int, fNe_int, fEq_bl, fNe_bl, isNon, decide_true, decide_false, eq_self, dSeq, dNext, dRet, dRetN, dDrop, dIfS, dNever, dAsg, dPar, dPar3, dName, dgTup, dgCons, dgNil, dFor, dForL, dVar, dC, dOp, dUn, dNil, dCons, dBagA, dStar, dCB, dTup, dLst, dB, dAnd, dOr, dNot, dIf, dAndV, dOrV, dNotV, dChain, dIsN, dNotN, dIsi, dIsi2, dSl, dPart, dNoPart, dLc, dYes, dCall, dCallN, dDef, dMeth, dMethK, dMethR, dMake, dMakeK, dOwn, dInit, dSetF, dFldO, itemsL, itemsT, itemsS, itemsR1, itemsR2, itemsZ, itemsE, dJoin, dJoined, dJs, dAug, dOwnL, dAppend, dExtend, dPop, starT, datL, ok_some, ok_none, List.length_cons, List.length_nil, List.replicate_succ, List.replicate_zero, List.cons_append, List.nil_append, List.append_nil, List.getElem?_cons_zero, List.getElem?_cons_succ, List.getElem?_nil, List.set_cons_zero, List.set_cons_succ, List.set_nil, List.map_cons, List.map_nil, Option.map_some, Option.map_none, Option.bind_some, Option.bind_none, if_true, if_false, true_and, and_true, Bool.not_true, Bool.not_false, reduceIte, Bool.false_eq_true, Bool.true_or, Bool.or_true, Bool.true_and, Bool.and_true, Bool.false_and, Bool.and_false, Bool.false_or, Bool.or_false, String.reduceBEq, Int.cast_ofNat_Int, Int.reduceEq, Int.reduceLE, Int.reduceLT, Int.reduceNeg, Int.reduceAdd, Int.reduceSub, Bool.not_eq_true, inB_S, fIn_S, fNotIn_S,  Nat.reduceAdd, List.take_succ_cons, List.take_zero, List.drop_succ_cons, List.drop_zero, Nat.reduceEqDiff, Nat.reduceLeDiff, Nat.zero_le, isIns, fFld, beq_self_eq_true, k0, tyD, subT, fLen, pairs_op, hs]
      refine lcL_map (f := fun _ => .bl true) _ _ (fun d hd R' hR => ?_) (fun d => rfl) (by simp) ?_
      · have hd' : d = encD a ∨ d = encD b := by simpa using hd
        rcases hd' with rfl | rfl
        · simp only [wipeE, fIx_0, fIx_1, fIx_2, fEq_str, fNe_str, fEq_int, fNe_int, fEq_bl, fNe_bl, isNon, decide_true, decide_false, eq_self, dSeq, dNext, dRet, dRetN, dDrop, dIfS, dNever, dAsg, dPar, dPar3, dName, dgTup, dgCons, dgNil, dFor, dForL, dVar, dC, dOp, dUn, dNil, dCons, dBagA, dStar, dCB, dTup, dLst, dB, dAnd, dOr, dNot, dIf, dAndV, dOrV, dNotV, dChain, dIsN, dNotN, dIsi, dIsi2, dSl, dPart, dNoPart, dLc, dYes, dCall, dCallN, dDef, dMeth, dMethK, dMethR, dMake, dMakeK, dOwn, dInit, dSetF, dFldO, itemsL, itemsT, itemsS, itemsR1, itemsR2, itemsZ, itemsE, dJoin, dJoined, dJs, dAug, dOwnL, dAppend, dExtend, dPop, starT, datL, ok_some, ok_none, List.length_cons, List.length_nil, List.replicate_succ, List.replicate_zero, List.cons_append, List.nil_append, List.append_nil, List.getElem?_cons_zero, List.getElem?_cons_succ, List.getElem?_nil, List.set_cons_zero, List.set_cons_succ, List.set_nil, List.map_cons, List.map_nil, Option.map_some, Option.map_none, Option.bind_some, Option.bind_none, if_true, if_false, true_and, and_true, Bool.not_true, Bool.not_false, reduceIte, Bool.false_eq_true, Bool.true_or, Bool.or_true, Bool.true_and, Bool.and_true, Bool.false_and, Bool.and_false, Bool.false_or, Bool.or_false, String.reduceBEq, Int.cast_ofNat_Int, Int.reduceEq, Int.reduceLE, Int.reduceLT, Int.reduceNeg, Int.reduceAdd, Int.reduceSub, Bool.not_eq_true, inB_S, fIn_S, fNotIn_S,  Nat.reduceAdd, List.take_succ_cons, List.take_zero, List.drop_succ_cons, List.drop_zero, Nat.reduceEqDiff, Nat.reduceLeDiff, Nat.zero_le, isIns, fFld, beq_self_eq_true, fInt]
          exact T_is_form_good hg.1 (by omega) (by omega) hR
        · simp only [wipeE, fIx_0, fIx_1, fIx_2, fEq_str, fNe_str, fEq_int, fNe_int, fEq_bl, fNe_bl, isNon, decide_true, decide_false, eq_self, dSeq, dNext, dRet, dRetN, dDrop, dIfS, dNever, dAsg, dPar, dPar3, dName, dgTup, dgCons, dgNil, dFor, dForL, dVar, dC, dOp, dUn, dNil, dCons, dBagA, dStar, dCB, dTup, dLst, dB, dAnd, dOr, dNot, dIf, dAndV, dOrV, dNotV, dChain, dIsN, dNotN, dIsi, dIsi2, dSl, dPart, dNoPart, dLc, dYes, dCall, dCallN, dDef, dMeth, dMethK, dMethR, dMake, dMakeK, dOwn, dInit, dSetF, dFldO, itemsL, itemsT, itemsS, itemsR1, itemsR2, itemsZ, itemsE, dJoin, dJoined, dJs, dAug, dOwnL, dAppend, dExtend, dPop, starT, datL, ok_some, ok_none, List.length_cons, List.length_nil, List.replicate_succ, List.replicate_zero, List.cons_append, List.nil_append, List.append_nil, List.getElem?_cons_zero, List.getElem?_cons_succ, List.getElem?_nil, List.set_cons_zero, List.set_cons_succ, List.set_nil, List.map_cons, List.map_nil, Option.map_some, Option.map_none, Option.bind_some, Option.bind_none, if_true, if_false, true_and, and_true, Bool.not_true, Bool.not_false, reduceIte, Bool.false_eq_true, Bool.true_or, Bool.or_true, Bool.true_and, Bool.and_true, Bool.false_and, Bool.and_false, Bool.false_or, Bool.or_false, String.reduceBEq, Int.cast_ofNat_Int, Int.reduceEq, Int.reduceLE, Int.reduceLT, Int.reduceNeg, Int.reduceAdd, Int.reduceSub, Bool.not_eq_true, inB_S, fIn_S, fNotIn_S,  Nat.reduceAdd, List.take_succ_cons, List.take_zero, List.drop_succ_cons, List.drop_zero, Nat.reduceEqDiff, Nat.reduceLeDiff, Nat.zero_le, isIns, fFld, beq_self_eq_true, fInt]
          exact T_is_form_good hg.2 (by omega) (by omega) hR
      · show ok (some (D.bl true)) fun d => R d
        rw [ok_some]
        exact h
    | atom s =>
      unfold encD
      simp only [wipeE, fIx_0, fIx_1, fIx_2, fEq_str, fNe_str, fEq_int, fNe_int, fEq_bl, fNe_bl, isNon, decide_true, decide_false, eq_self, dSeq, dNext, dRet, dRetN, dDrop, dIfS, dNever, dAsg, dPar, dPar3, dName, dgTup, dgCons, dgNil, dFor, dForL, dVar, dC, dOp, dUn, dNil, dCons, dBagA, dStar, dCB, dTup, dLst, dB, dAnd, dOr, dNot, dIf, dAndV, dOrV, dNotV, dChain, dIsN, dNotN, dIsi, dIsi2, dSl, dPart, dNoPart, dLc, dYes, dCall, dCallN, dDef, dMeth, dMethK, dMethR, dMake, dMakeK, dOwn, dInit, dSetF, dFldO, itemsL, itemsT, itemsS, itemsR1, itemsR2, itemsZ, itemsE, dJoin, dJoined, dJs, dAug, dOwnL, dAppend, dExtend, dPop, starT, datL, ok_some, ok_none, List.length_cons, List.length_nil, List.replicate_succ, List.replicate_zero, List.cons_append, List.nil_append, List.append_nil, List.getElem?_cons_zero, List.getElem?_cons_succ, List.getElem?_nil, List.set_cons_zero, List.set_cons_succ, List.set_nil, List.map_cons, List.map_nil, Option.map_some, Option.map_none, Option.bind_some, Option.bind_none, if_true, if_false, true_and, and_true, Bool.not_true, Bool.not_false, reduceIte, Bool.false_eq_true, Bool.true_or, Bool.or_true, Bool.true_and, Bool.and_true, Bool.false_and, Bool.and_false, Bool.false_or, Bool.or_false, String.reduceBEq, Int.cast_ofNat_Int, Int.reduceEq, Int.reduceLE, Int.reduceLT, Int.reduceNeg, Int.reduceAdd, Int.reduceSub, Bool.not_eq_true, inB_S, fIn_S, fNotIn_S,  Nat.reduceAdd, List.take_succ_cons, List.take_zero, List.drop_succ_cons, List.drop_zero, Nat.reduceEqDiff, Nat.reduceLeDiff, Nat.zero_le, isIns, fFld, beq_self_eq_true, k0, tyD, subT, fLen, List.any_cons, List.any_nil, wne_then_and, wne_then_or, wne_then_atom, wne_and_then, wne_and_or, wne_and_atom, wne_or_then, wne_or_and, wne_or_atom, wne_atom_then, wne_atom_and, wne_atom_or]
      exact T_is_leaf_good (t := .atom s) hg (Nat.le_refl _) h
    | fls =>
      unfold encD
      simp only [wipeE, fIx_0, fIx_1, fIx_2, fEq_str, fNe_str, fEq_int, fNe_int, fEq_bl, fNe_bl, isNon, decide_true, decide_false, eq_self, dSeq, dNext, dRet, dRetN, dDrop, dIfS, dNever, dAsg, dPar, dPar3, dName, dgTup, dgCons, dgNil, dFor, dForL, dVar, dC, dOp, dUn, dNil, dCons, dBagA, dStar, dCB, dTup, dLst, dB, dAnd, dOr, dNot, dIf, dAndV, dOrV, dNotV, dChain, dIsN, dNotN, dIsi, dIsi2, dSl, dPart, dNoPart, dLc, dYes, dCall, dCallN, dDef, dMeth, dMethK, dMethR, dMake, dMakeK, dOwn, dInit, dSetF, dFldO, itemsL, itemsT, itemsS, itemsR1, itemsR2, itemsZ, itemsE, dJoin, dJoined, dJs, dAug, dOwnL, dAppend, dExtend, dPop, starT, datL, ok_some, ok_none, List.length_cons, List.length_nil, List.replicate_succ, List.replicate_zero, List.cons_append, List.nil_append, List.append_nil, List.getElem?_cons_zero, List.getElem?_cons_succ, List.getElem?_nil, List.set_cons_zero, List.set_cons_succ, List.set_nil, List.map_cons, List.map_nil, Option.map_some, Option.map_none, Option.bind_some, Option.bind_none, if_true, if_false, true_and, and_true, Bool.not_true, Bool.not_false, reduceIte, Bool.false_eq_true, Bool.true_or, Bool.or_true, Bool.true_and, Bool.and_true, Bool.false_and, Bool.and_false, Bool.false_or, Bool.or_false, String.reduceBEq, Int.cast_ofNat_Int, Int.reduceEq, Int.reduceLE, Int.reduceLT, Int.reduceNeg, Int.reduceAdd, Int.reduceSub, Bool.not_eq_true, inB_S, fIn_S, fNotIn_S,  Nat.reduceAdd, List.take_succ_cons, List.take_zero, List.drop_succ_cons, List.drop_zero, Nat.reduceEqDiff, Nat.reduceLeDiff, Nat.zero_le, isIns, fFld, beq_self_eq_true, k0, tyD, subT, fLen, List.any_cons, List.any_nil, wne_then_and, wne_then_or, wne_then_false, wne_and_then, wne_and_or, wne_and_false, wne_or_then, wne_or_and, wne_or_false, wne_false_then, wne_false_and, wne_false_or]
      exact T_is_leaf_good (t := .fls) hg (Nat.le_refl _) h
    | hole s => cases hg
    | part n => cases hg
theorem T_is_number_int {i : Int} {R : D → Prop} {X : Xc → Prop} : T_is_number [.dat (.int i)] R X = R (.bl true) := by
  unfold T_is_number
  simp only [wipeE, fIx_0, fIx_1, fIx_2, fEq_str, fNe_str, fEq_int, fNe_int, fEq_bl, fNe_bl, isNon, decide_true, decide_false, eq_self, dSeq, dNext, dRet, dRetN, dDrop, dIfS, dNever, dAsg, dPar, dPar3, dName, dgTup, dgCons, dgNil, dFor, dForL, dVar, dC, dOp, dUn, dNil, dCons, dBagA, dStar, dCB, dTup, dLst, dB, dAnd, dOr, dNot, dIf, dAndV, dOrV, dNotV, dChain, dIsN, dNotN, dIsi, dIsi2, dSl, dPart, dNoPart, dLc, dYes, dCall, dCallN, dDef, dMeth, dMethK, dMethR, dMake, dMakeK, dOwn, dInit, dSetF, dFldO, itemsL, itemsT, itemsS, itemsR1, itemsR2, itemsZ, itemsE, dJoin, dJoined, dJs, dAug, dOwnL, dAppend, dExtend, dPop, starT, datL, ok_some, ok_none, List.length_cons, List.length_nil, List.replicate_succ, List.replicate_zero, List.cons_append, List.nil_append, List.append_nil, List.getElem?_cons_zero, List.getElem?_cons_succ, List.getElem?_nil, List.set_cons_zero, List.set_cons_succ, List.set_nil, List.map_cons, List.map_nil, Option.map_some, Option.map_none, Option.bind_some, Option.bind_none, if_true, if_false, true_and, and_true, Bool.not_true, Bool.not_false, reduceIte, Bool.false_eq_true, Bool.true_or, Bool.or_true, Bool.true_and, Bool.and_true, Bool.false_and, Bool.and_false, Bool.false_or, Bool.or_false, String.reduceBEq, Int.cast_ofNat_Int, Int.reduceEq, Int.reduceLE, Int.reduceLT, Int.reduceNeg, Int.reduceAdd, Int.reduceSub, Bool.not_eq_true, inB_S, fIn_S, fNotIn_S,  Nat.reduceAdd, List.take_succ_cons, List.take_zero, List.drop_succ_cons, List.drop_zero, Nat.reduceEqDiff, Nat.reduceLeDiff, Nat.zero_le, isIns, fFld, beq_self_eq_true, tyD, subT]
theorem datL_dats : ∀ ds : List D, datL (ds.map .dat) = some ds
  | [] => rfl
  | d :: ds => by rw [List.map_cons, datL, datL_dats ds]; rfl
theorem datL_app : ∀ (ds : List D) (r : En), datL (ds.map .dat ++ r) = (datL r).map (ds ++ ·)
  | [], r => by cases q : datL r <;> simp [q]
  | d :: ds, r => by
    rw [List.map_cons, List.cons_append, datL, datL_app ds r]
    cases datL r <;> rfl
theorem cutL_to {α : Type} {xs : List α} {i : Nat} (h : i ≤ xs.length) : cutL xs none (some (i : Int)) = xs.take i := by
  unfold cutL
  rw [HT.sIx_nat, HT.sIx_none, Nat.min_eq_left h]
  simp
theorem cutL_from {α : Type} {xs : List α} {i : Nat} (h : i ≤ xs.length) : cutL xs (some (i : Int)) none = xs.drop i := by
  unfold cutL
  rw [HT.sIx_nat, HT.sIx_none, Nat.min_eq_left h]
  rw [List.take_of_length_le (by simp)]
/-! like -/
theorem T_like_same {R : D → Prop} {X : Xc → Prop} : ∀ {n : Nat} {d : D}, fitD n d = true → R (.bl true) → T__law_like n [.dat d, .dat d] R X
  | 0, d, h, _ => by unfold fitD at h; cases h
  | n + 1, d, h, hR => by
    unfold T__law_like
    cases d with
    | dct _ _ => unfold fitD at h; cases h
    | ins _ _ => unfold fitD at h; cases h
    | lam _ => unfold fitD at h; cases h
    | fn _ _ => unfold fitD at h; cases h
    | exc _ _ => unfold fitD at h; cases h
    | non =>
      simp only [wipeE, fIx_0, fIx_1, fIx_2, fEq_str, fNe_str, fEq_int, fNe_int, fEq_bl, fNe_bl, isNon, decide_true, decide_false, eq_self, dSeq, dNext, dRet, dRetN, dDrop, dIfS, dNever, dAsg, dPar, dPar3, dName, dgTup, dgCons, dgNil, dFor, dForL, dVar, dC, dOp, dUn, dNil, dCons, dBagA, dStar, dCB, dTup, dLst, dB, dAnd, dOr, dNot, dIf, dAndV, dOrV, dNotV, dChain, dIsN, dNotN, dIsi, dIsi2, dSl, dPart, dNoPart, dLc, dYes, dCall, dCallN, dDef, dMeth, dMethK, dMethR, dMake, dMakeK, dOwn, dInit, dSetF, dFldO, itemsL, itemsT, itemsS, itemsR1, itemsR2, itemsZ, itemsE, dJoin, dJoined, dJs, dAug, dOwnL, dAppend, dExtend, dPop, starT, datL, ok_some, ok_none, List.length_cons, List.length_nil, List.replicate_succ, List.replicate_zero, List.cons_append, List.nil_append, List.append_nil, List.getElem?_cons_zero, List.getElem?_cons_succ, List.getElem?_nil, List.set_cons_zero, List.set_cons_succ, List.set_nil, List.map_cons, List.map_nil, Option.map_some, Option.map_none, Option.bind_some, Option.bind_none, if_true, if_false, true_and, and_true, Bool.not_true, Bool.not_false, reduceIte, Bool.false_eq_true, Bool.true_or, Bool.or_true, Bool.true_and, Bool.and_true, Bool.false_and, Bool.and_false, Bool.false_or, Bool.or_false, String.reduceBEq, Int.cast_ofNat_Int, Int.reduceEq, Int.reduceLE, Int.reduceLT, Int.reduceNeg, Int.reduceAdd, Int.reduceSub, Bool.not_eq_true, inB_S, fIn_S, fNotIn_S,  Nat.reduceAdd, List.take_succ_cons, List.take_zero, List.drop_succ_cons, List.drop_zero, Nat.reduceEqDiff, Nat.reduceLeDiff, Nat.zero_le, isIns, fFld, beq_self_eq_true, tyD, subT]
      exact hR
    | bl b =>
      simp only [wipeE, fIx_0, fIx_1, fIx_2, fEq_str, fNe_str, fEq_int, fNe_int, fEq_bl, fNe_bl, isNon, decide_true, decide_false, eq_self, dSeq, dNext, dRet, dRetN, dDrop, dIfS, dNever, dAsg, dPar, dPar3, dName, dgTup, dgCons, dgNil, dFor, dForL, dVar, dC, dOp, dUn, dNil, dCons, dBagA, dStar, dCB, dTup, dLst, dB, dAnd, dOr, dNot, dIf, dAndV, dOrV, dNotV, dChain, dIsN, dNotN, dIsi, dIsi2, dSl, dPart, dNoPart, dLc, dYes, dCall, dCallN, dDef, dMeth, dMethK, dMethR, dMake, dMakeK, dOwn, dInit, dSetF, dFldO, itemsL, itemsT, itemsS, itemsR1, itemsR2, itemsZ, itemsE, dJoin, dJoined, dJs, dAug, dOwnL, dAppend, dExtend, dPop, starT, datL, ok_some, ok_none, List.length_cons, List.length_nil, List.replicate_succ, List.replicate_zero, List.cons_append, List.nil_append, List.append_nil, List.getElem?_cons_zero, List.getElem?_cons_succ, List.getElem?_nil, List.set_cons_zero, List.set_cons_succ, List.set_nil, List.map_cons, List.map_nil, Option.map_some, Option.map_none, Option.bind_some, Option.bind_none, if_true, if_false, true_and, and_true, Bool.not_true, Bool.not_false, reduceIte, Bool.false_eq_true, Bool.true_or, Bool.or_true, Bool.true_and, Bool.and_true, Bool.false_and, Bool.and_false, Bool.false_or, Bool.or_false, String.reduceBEq, Int.cast_ofNat_Int, Int.reduceEq, Int.reduceLE, Int.reduceLT, Int.reduceNeg, Int.reduceAdd, Int.reduceSub, Bool.not_eq_true, inB_S, fIn_S, fNotIn_S,  Nat.reduceAdd, List.take_succ_cons, List.take_zero, List.drop_succ_cons, List.drop_zero, Nat.reduceEqDiff, Nat.reduceLeDiff, Nat.zero_le, isIns, fFld, beq_self_eq_true, tyD, subT]
      exact hR
    | int b =>
      simp only [wipeE, fIx_0, fIx_1, fIx_2, fEq_str, fNe_str, fEq_int, fNe_int, fEq_bl, fNe_bl, isNon, decide_true, decide_false, eq_self, dSeq, dNext, dRet, dRetN, dDrop, dIfS, dNever, dAsg, dPar, dPar3, dName, dgTup, dgCons, dgNil, dFor, dForL, dVar, dC, dOp, dUn, dNil, dCons, dBagA, dStar, dCB, dTup, dLst, dB, dAnd, dOr, dNot, dIf, dAndV, dOrV, dNotV, dChain, dIsN, dNotN, dIsi, dIsi2, dSl, dPart, dNoPart, dLc, dYes, dCall, dCallN, dDef, dMeth, dMethK, dMethR, dMake, dMakeK, dOwn, dInit, dSetF, dFldO, itemsL, itemsT, itemsS, itemsR1, itemsR2, itemsZ, itemsE, dJoin, dJoined, dJs, dAug, dOwnL, dAppend, dExtend, dPop, starT, datL, ok_some, ok_none, List.length_cons, List.length_nil, List.replicate_succ, List.replicate_zero, List.cons_append, List.nil_append, List.append_nil, List.getElem?_cons_zero, List.getElem?_cons_succ, List.getElem?_nil, List.set_cons_zero, List.set_cons_succ, List.set_nil, List.map_cons, List.map_nil, Option.map_some, Option.map_none, Option.bind_some, Option.bind_none, if_true, if_false, true_and, and_true, Bool.not_true, Bool.not_false, reduceIte, Bool.false_eq_true, Bool.true_or, Bool.or_true, Bool.true_and, Bool.and_true, Bool.false_and, Bool.and_false, Bool.false_or, Bool.or_false, String.reduceBEq, Int.cast_ofNat_Int, Int.reduceEq, Int.reduceLE, Int.reduceLT, Int.reduceNeg, Int.reduceAdd, Int.reduceSub, Bool.not_eq_true, inB_S, fIn_S, fNotIn_S,  Nat.reduceAdd, List.take_succ_cons, List.take_zero, List.drop_succ_cons, List.drop_zero, Nat.reduceEqDiff, Nat.reduceLeDiff, Nat.zero_le, isIns, fFld, beq_self_eq_true, tyD, subT]
      exact hR
    | str b =>
      simp only [wipeE, fIx_0, fIx_1, fIx_2, fEq_str, fNe_str, fEq_int, fNe_int, fEq_bl, fNe_bl, isNon, decide_true, decide_false, eq_self, dSeq, dNext, dRet, dRetN, dDrop, dIfS, dNever, dAsg, dPar, dPar3, dName, dgTup, dgCons, dgNil, dFor, dForL, dVar, dC, dOp, dUn, dNil, dCons, dBagA, dStar, dCB, dTup, dLst, dB, dAnd, dOr, dNot, dIf, dAndV, dOrV, dNotV, dChain, dIsN, dNotN, dIsi, dIsi2, dSl, dPart, dNoPart, dLc, dYes, dCall, dCallN, dDef, dMeth, dMethK, dMethR, dMake, dMakeK, dOwn, dInit, dSetF, dFldO, itemsL, itemsT, itemsS, itemsR1, itemsR2, itemsZ, itemsE, dJoin, dJoined, dJs, dAug, dOwnL, dAppend, dExtend, dPop, starT, datL, ok_some, ok_none, List.length_cons, List.length_nil, List.replicate_succ, List.replicate_zero, List.cons_append, List.nil_append, List.append_nil, List.getElem?_cons_zero, List.getElem?_cons_succ, List.getElem?_nil, List.set_cons_zero, List.set_cons_succ, List.set_nil, List.map_cons, List.map_nil, Option.map_some, Option.map_none, Option.bind_some, Option.bind_none, if_true, if_false, true_and, and_true, Bool.not_true, Bool.not_false, reduceIte, Bool.false_eq_true, Bool.true_or, Bool.or_true, Bool.true_and, Bool.and_true, Bool.false_and, Bool.and_false, Bool.false_or, Bool.or_false, String.reduceBEq, Int.cast_ofNat_Int, Int.reduceEq, Int.reduceLE, Int.reduceLT, Int.reduceNeg, Int.reduceAdd, Int.reduceSub, Bool.not_eq_true, inB_S, fIn_S, fNotIn_S,  Nat.reduceAdd, List.take_succ_cons, List.take_zero, List.drop_succ_cons, List.drop_zero, Nat.reduceEqDiff, Nat.reduceLeDiff, Nat.zero_le, isIns, fFld, beq_self_eq_true, tyD, subT]
      exact hR
    | lst ds =>
      unfold fitD at h
      rw [Bool.and_eq_true_iff] at h
      have hlen := of_decide_eq_true h.1
      simp only [wipeE, fIx_0, fIx_1, fIx_2, fEq_str, fNe_str, fEq_int, fNe_int, fEq_bl, fNe_bl, isNon, decide_true, decide_false, eq_self, dSeq, dNext, dRet, dRetN, dDrop, dIfS, dNever, dAsg, dPar, dPar3, dName, dgTup, dgCons, dgNil, dFor, dForL, dVar, dC, dOp, dUn, dNil, dCons, dBagA, dStar, dCB, dTup, dLst, dB, dAnd, dOr, dNot, dIf, dAndV, dOrV, dNotV, dChain, dIsN, dNotN, dIsi, dIsi2, dSl, dPart, dNoPart, dLc, dYes, dCall, dCallN, dDef, dMeth, dMethK, dMethR, dMake, dMakeK, dOwn, dInit, dSetF, dFldO, itemsL, itemsT, itemsS, itemsR1, itemsR2, itemsZ, itemsE, dJoin, dJoined, dJs, dAug, dOwnL, dAppend, dExtend, dPop, starT, datL, ok_some, ok_none, List.length_cons, List.length_nil, List.replicate_succ, List.replicate_zero, List.cons_append, List.nil_append, List.append_nil, List.getElem?_cons_zero, List.getElem?_cons_succ, List.getElem?_nil, List.set_cons_zero, List.set_cons_succ, List.set_nil, List.map_cons, List.map_nil, Option.map_some, Option.map_none, Option.bind_some, Option.bind_none, if_true, if_false, true_and, and_true, Bool.not_true, Bool.not_false, reduceIte, Bool.false_eq_true, Bool.true_or, Bool.or_true, Bool.true_and, Bool.and_true, Bool.false_and, Bool.and_false, Bool.false_or, Bool.or_false, String.reduceBEq, Int.cast_ofNat_Int, Int.reduceEq, Int.reduceLE, Int.reduceLT, Int.reduceNeg, Int.reduceAdd, Int.reduceSub, Bool.not_eq_true, inB_S, fIn_S, fNotIn_S,  Nat.reduceAdd, List.take_succ_cons, List.take_zero, List.drop_succ_cons, List.drop_zero, Nat.reduceEqDiff, Nat.reduceLeDiff, Nat.zero_le, isIns, fFld, beq_self_eq_true, tyD, subT, fLen, zipD, zip_self, List.map_map]
      refine lcL_any (p := fun _ => true) (f := fun _ => .bl true) (fun d => match d with | .tup [x, y] => [.dat (.lst ds), .dat (.lst ds), .no, .dat x, .dat y] | _ => []) _ _ (fun d hd k hk => ?_) (fun d hd R' hR' => ?_) (fun d hd _ R' hR' => ?_) (fun d hd => ?_) (by simp; omega) ?_
      · obtain ⟨x, hx, rfl⟩ := List.mem_map.mp hd
        exact ⟨rfl, rfl, hk⟩
      · exact hR'
      · obtain ⟨x, hx, rfl⟩ := List.mem_map.mp hd
        simp only [wipeE, fIx_0, fIx_1, fIx_2, fEq_str, fNe_str, fEq_int, fNe_int, fEq_bl, fNe_bl, isNon, decide_true, decide_false, eq_self, dSeq, dNext, dRet, dRetN, dDrop, dIfS, dNever, dAsg, dPar, dPar3, dName, dgTup, dgCons, dgNil, dFor, dForL, dVar, dC, dOp, dUn, dNil, dCons, dBagA, dStar, dCB, dTup, dLst, dB, dAnd, dOr, dNot, dIf, dAndV, dOrV, dNotV, dChain, dIsN, dNotN, dIsi, dIsi2, dSl, dPart, dNoPart, dLc, dYes, dCall, dCallN, dDef, dMeth, dMethK, dMethR, dMake, dMakeK, dOwn, dInit, dSetF, dFldO, itemsL, itemsT, itemsS, itemsR1, itemsR2, itemsZ, itemsE, dJoin, dJoined, dJs, dAug, dOwnL, dAppend, dExtend, dPop, starT, datL, ok_some, ok_none, List.length_cons, List.length_nil, List.replicate_succ, List.replicate_zero, List.cons_append, List.nil_append, List.append_nil, List.getElem?_cons_zero, List.getElem?_cons_succ, List.getElem?_nil, List.set_cons_zero, List.set_cons_succ, List.set_nil, List.map_cons, List.map_nil, Option.map_some, Option.map_none, Option.bind_some, Option.bind_none, if_true, if_false, true_and, and_true, Bool.not_true, Bool.not_false, reduceIte, Bool.false_eq_true, Bool.true_or, Bool.or_true, Bool.true_and, Bool.and_true, Bool.false_and, Bool.and_false, Bool.false_or, Bool.or_false, String.reduceBEq, Int.cast_ofNat_Int, Int.reduceEq, Int.reduceLE, Int.reduceLT, Int.reduceNeg, Int.reduceAdd, Int.reduceSub, Bool.not_eq_true, inB_S, fIn_S, fNotIn_S,  Nat.reduceAdd, List.take_succ_cons, List.take_zero, List.drop_succ_cons, List.drop_zero, Nat.reduceEqDiff, Nat.reduceLeDiff, Nat.zero_le, isIns, fFld, beq_self_eq_true]
        exact T_like_same (fitL_mem h.2 x hx) hR'
      · obtain ⟨x, hx, rfl⟩ := List.mem_map.mp hd
        rfl
      · have e : List.map (fun _ => D.bl true) (List.filter (fun _ => true) (List.map ((fun p : D × D => D.tup [p.fst, p.snd]) ∘ fun x => (x, x)) ds)) = ds.map (fun _ => D.bl true) := by
          rw [List.filter_eq_self.mpr (fun _ _ => rfl), List.map_map]; rfl
        rw [List.nil_append, e]
        simp only [fAll, bools_true, all_true, Option.map_some, ok_some]
        exact hR
    | tup ds =>
      unfold fitD at h
      rw [Bool.and_eq_true_iff] at h
      have hlen := of_decide_eq_true h.1
      simp only [wipeE, fIx_0, fIx_1, fIx_2, fEq_str, fNe_str, fEq_int, fNe_int, fEq_bl, fNe_bl, isNon, decide_true, decide_false, eq_self, dSeq, dNext, dRet, dRetN, dDrop, dIfS, dNever, dAsg, dPar, dPar3, dName, dgTup, dgCons, dgNil, dFor, dForL, dVar, dC, dOp, dUn, dNil, dCons, dBagA, dStar, dCB, dTup, dLst, dB, dAnd, dOr, dNot, dIf, dAndV, dOrV, dNotV, dChain, dIsN, dNotN, dIsi, dIsi2, dSl, dPart, dNoPart, dLc, dYes, dCall, dCallN, dDef, dMeth, dMethK, dMethR, dMake, dMakeK, dOwn, dInit, dSetF, dFldO, itemsL, itemsT, itemsS, itemsR1, itemsR2, itemsZ, itemsE, dJoin, dJoined, dJs, dAug, dOwnL, dAppend, dExtend, dPop, starT, datL, ok_some, ok_none, List.length_cons, List.length_nil, List.replicate_succ, List.replicate_zero, List.cons_append, List.nil_append, List.append_nil, List.getElem?_cons_zero, List.getElem?_cons_succ, List.getElem?_nil, List.set_cons_zero, List.set_cons_succ, List.set_nil, List.map_cons, List.map_nil, Option.map_some, Option.map_none, Option.bind_some, Option.bind_none, if_true, if_false, true_and, and_true, Bool.not_true, Bool.not_false, reduceIte, Bool.false_eq_true, Bool.true_or, Bool.or_true, Bool.true_and, Bool.and_true, Bool.false_and, Bool.and_false, Bool.false_or, Bool.or_false, String.reduceBEq, Int.cast_ofNat_Int, Int.reduceEq, Int.reduceLE, Int.reduceLT, Int.reduceNeg, Int.reduceAdd, Int.reduceSub, Bool.not_eq_true, inB_S, fIn_S, fNotIn_S,  Nat.reduceAdd, List.take_succ_cons, List.take_zero, List.drop_succ_cons, List.drop_zero, Nat.reduceEqDiff, Nat.reduceLeDiff, Nat.zero_le, isIns, fFld, beq_self_eq_true, tyD, subT, fLen, zipD, zip_self, List.map_map]
      refine lcL_any (p := fun _ => true) (f := fun _ => .bl true) (fun d => match d with | .tup [x, y] => [.dat (.tup ds), .dat (.tup ds), .no, .dat x, .dat y] | _ => []) _ _ (fun d hd k hk => ?_) (fun d hd R' hR' => ?_) (fun d hd _ R' hR' => ?_) (fun d hd => ?_) (by simp; omega) ?_
      · obtain ⟨x, hx, rfl⟩ := List.mem_map.mp hd
        exact ⟨rfl, rfl, hk⟩
      · exact hR'
      · obtain ⟨x, hx, rfl⟩ := List.mem_map.mp hd
        simp only [wipeE, fIx_0, fIx_1, fIx_2, fEq_str, fNe_str, fEq_int, fNe_int, fEq_bl, fNe_bl, isNon, decide_true, decide_false, eq_self, dSeq, dNext, dRet, dRetN, dDrop, dIfS, dNever, dAsg, dPar, dPar3, dName, dgTup, dgCons, dgNil, dFor, dForL, dVar, dC, dOp, dUn, dNil, dCons, dBagA, dStar, dCB, dTup, dLst, dB, dAnd, dOr, dNot, dIf, dAndV, dOrV, dNotV, dChain, dIsN, dNotN, dIsi, dIsi2, dSl, dPart, dNoPart, dLc, dYes, dCall, dCallN, dDef, dMeth, dMethK, dMethR, dMake, dMakeK, dOwn, dInit, dSetF, dFldO, itemsL, itemsT, itemsS, itemsR1, itemsR2, itemsZ, itemsE, dJoin, dJoined, dJs, dAug, dOwnL, dAppend, dExtend, dPop, starT, datL, ok_some, ok_none, List.length_cons, List.length_nil, List.replicate_succ, List.replicate_zero, List.cons_append, List.nil_append, List.append_nil, List.getElem?_cons_zero, List.getElem?_cons_succ, List.getElem?_nil, List.set_cons_zero, List.set_cons_succ, List.set_nil, List.map_cons, List.map_nil, Option.map_some, Option.map_none, Option.bind_some, Option.bind_none, if_true, if_false, true_and, and_true, Bool.not_true, Bool.not_false, reduceIte, Bool.false_eq_true, Bool.true_or, Bool.or_true, Bool.true_and, Bool.and_true, Bool.false_and, Bool.and_false, Bool.false_or, Bool.or_false, String.reduceBEq, Int.cast_ofNat_Int, Int.reduceEq, Int.reduceLE, Int.reduceLT, Int.reduceNeg, Int.reduceAdd, Int.reduceSub, Bool.not_eq_true, inB_S, fIn_S, fNotIn_S,  Nat.reduceAdd, List.take_succ_cons, List.take_zero, List.drop_succ_cons, List.drop_zero, Nat.reduceEqDiff, Nat.reduceLeDiff, Nat.zero_le, isIns, fFld, beq_self_eq_true]
        exact T_like_same (fitL_mem h.2 x hx) hR'
      · obtain ⟨x, hx, rfl⟩ := List.mem_map.mp hd
        rfl
      · have e : List.map (fun _ => D.bl true) (List.filter (fun _ => true) (List.map ((fun p : D × D => D.tup [p.fst, p.snd]) ∘ fun x => (x, x)) ds)) = ds.map (fun _ => D.bl true) := by
          rw [List.filter_eq_self.mpr (fun _ _ => rfl), List.map_map]; rfl
        rw [List.nil_append, e]
        simp only [fAll, bools_true, all_true, Option.map_some, ok_some]
        exact hR

end
end Ag
namespace Ag
open PySem L2
open C8 (pss_cut tCut)
section
variable {P : Program} {w : World} {K : PySem.W.Frag} {mg : Str → Option Value} {base : Heap} {cs : List (Str × Addr)}
/-! the law's own draws of names, formulas, rows -/
theorem T_pull {m : Int} {R : D → Prop} {X : Xc → Prop} (h0 : 0 < m) (h1 : m < 1099511627776) (h : ∀ d : Nat, (d : Int) < m → R (.int (d : Nat))) : T__law_pull [.bag, .dat (.int m)] R X :=
  ⟨m, rfl, h0, h1, fun d d0 d1 => by
    obtain ⟨n, rfl⟩ := Int.eq_ofNat_of_zero_le d0
    exact h n d1⟩
theorem T_any {a : D} {ds : List D} {R : D → Prop} {X : Xc → Prop} (e : anyOf a = some ds) (h0 : 0 < ds.length) (h1 : ds.length < 1000000) (h : ∀ x ∈ ds, R x) : T__law_any [.bag, .dat a] R X := ⟨a, ds, rfl, e, h0, h1, h⟩
/-- items that are drawn -/
theorem lcL_draw {i : Nat} {te : DT} {vs : List Nat} {Pr : D → Prop} {ρ : En} {k : List D → En → Prop} : ∀ (ds acc : List D), (∀ d ∈ ds, ∀ R : D → En → Prop, (∀ y, Pr y → R y (ρ.set i (.dat d))) → te (ρ.set i (.dat d)) R noX) → (∀ d, wipeE (ρ.set i (.dat d)) vs = ρ) → acc.length + ds.length ≤ 1000000 →
    (∀ ys : List D, ys.length = ds.length → (∀ y ∈ ys, Pr y) → k (acc ++ ys) ρ) → lcL (dName i) dYes te vs ds ρ acc k
  | [], acc, _, _, _, h => by simpa [lcL] using h [] rfl (fun y hy => by cases hy)
  | d :: ds, acc, ht, hw, hl, h => by
    have e : lcL (dName i) dYes te vs (d :: ds) ρ acc k = te (ρ.set i (.dat d)) (fun y ρ4 => acc.length < 1000000 ∧ lcL (dName i) dYes te vs ds (wipeE ρ4 vs) (acc ++ [y]) k) noX := by
      simp only [lcL, dName, dYes, if_true]
    rw [e]
    refine ht d List.mem_cons_self _ fun y hy => ⟨by rw [List.length_cons] at hl; omega, ?_⟩
    rw [hw d]
    refine lcL_draw ds _ (fun e he => ht e (List.mem_cons_of_mem _ he)) hw (by simp at hl ⊢; omega) fun ys hys hp => ?_
    rw [List.append_assoc]
    exact h (y :: ys) (by simp [hys]) fun z hz => by
      rcases List.mem_cons.mp hz with rfl | hz
      · exact hy
      · exact hp z hz
/-- a drawn name: one to five letters -/
def nm5 (l : List Nat) : Bool := decide (1 ≤ l.length ∧ l.length ≤ 5) && l.all isLw
theorem nm5_isNm {l : List Nat} (h : nm5 l = true) : isNm l = true := by
  unfold nm5 isNm at *
  rw [Bool.and_eq_true_iff] at h ⊢
  exact ⟨decide_eq_true (by have := of_decide_eq_true h.1; omega), h.2⟩
theorem join_one : ∀ cs : List Nat, TL.joinL [] (cs.map fun c => [c]) = cs
  | [] => rfl
  | [c] => rfl
  | c :: d :: cs => by
    have ih := join_one (d :: cs)
    show [c] ++ [] ++ TL.joinL [] (([d] : List Nat) :: cs.map fun c => [c]) = _
    rw [show ([d] : List Nat) :: cs.map (fun c => [c]) = (d :: cs).map fun c => [c] from rfl, ih]
    rfl
theorem txtsD_one : ∀ cs : List Nat, txtsD (cs.map fun c => D.str [c]) = some (cs.map fun c => [c])
  | [] => rfl
  | c :: cs => by rw [List.map_cons, txtsD, txtsD_one cs]; rfl
theorem sum_one : ∀ cs : List Nat, ((cs.map fun c => [c]).map (·.length)).sum = cs.length
  | [] => rfl
  | c :: cs => by rw [List.map_cons, List.map_cons, List.sum_cons, sum_one cs]; simp; omega
theorem fJoin_one {cs : List Nat} (h : cs.length ≤ 1000) : fJoin (.str (cp "")) (.lst (cs.map fun c => D.str [c])) = some (.str cs) := by
  have e : cp "" = [] := by decide +kernel
  rw [e]
  unfold fJoin
  dsimp only
  rw [txtsD_one, Option.bind_some, sum_one, if_pos (by simp; omega), join_one]
/-- the j-th of the names that are drawn at once -/
def nameAt (cs : List Nat) (at_ fi j : Nat) : List Nat := cs.take at_ ++ (97 + (fi + 5 * j) % 26) :: cs.drop at_
theorem isLw_mem {l : List Nat} (h : l.all isLw = true) {c : Nat} (hc : c ∈ l) : 97 ≤ c ∧ c ≤ 122 := of_decide_eq_true (List.all_eq_true.mp h c hc)
theorem nameAt_nm5 {cs : List Nat} {at_ fi : Nat} (h : cs.all isLw = true) (hl : cs.length ≤ 4) (j : Nat) : nm5 (nameAt cs at_ fi j) = true := by
  unfold nameAt nm5
  rw [Bool.and_eq_true_iff]
  refine ⟨decide_eq_true ⟨by simp; omega, by simp; omega⟩, List.all_eq_true.mpr fun c hc => decide_eq_true ?_⟩
  rcases List.mem_append.mp hc with hc | hc
  · exact isLw_mem h (List.mem_of_mem_take hc)
  · rcases List.mem_cons.mp hc with rfl | hc
    · omega
    · exact isLw_mem h (List.mem_of_mem_drop hc)
theorem nameAt_inj {cs : List Nat} {at_ fi i j : Nat} (hi : i < 26) (hj : j < 26) (h : nameAt cs at_ fi i = nameAt cs at_ fi j) : i = j := by
  unfold nameAt at h
  have q := List.append_cancel_left h
  injection q with q _
  omega
theorem nameAt_nodup {cs : List Nat} {at_ fi m : Nat} (h : m ≤ 26) : ((List.range m).map fun j => nameAt cs at_ fi j).Nodup := by
  rw [List.nodup_iff_pairwise_ne, List.pairwise_map]
  refine List.Pairwise.imp_of_mem ?_ (List.nodup_iff_pairwise_ne.mp List.nodup_range)
  intro a b ha hb hne e
  exact hne (nameAt_inj (Nat.lt_of_lt_of_le (List.mem_range.mp ha) h) (Nat.lt_of_lt_of_le (List.mem_range.mp hb) h) e)
theorem letter_at {k : Nat} (h : k < 26) : fIx (.str (cp "abcdefghijklmnopqrstuvwxyz")) (.int (k : Nat)) = some (.str [97 + k]) := by
  rw [letters_eq]
  unfold fIx
  dsimp only
  rw [if_pos (by decide), atI_nat (v := 97 + k) (by rw [List.getElem?_range' h]; congr 1; omega)]
  rfl
theorem T_names {n : Nat} {R : D → Prop} {X : Xc → Prop} (hn : n ≤ 26) (h : ∀ ws : List (List Nat), ws.length = n → (∀ w ∈ ws, nm5 w = true) → ws.Nodup → R (.lst (ws.map .str))) : T__law_names [.bag, .dat (.int (n : Nat))] R X := by
  unfold T__law_names
  simp only [wipeE, fIx_0, fIx_1, fIx_2, fEq_str, fNe_str, fEq_int, fNe_int, fEq_bl, fNe_bl, isNon, decide_true, decide_false, eq_self, dSeq, dNext, dRet, dRetN, dDrop, dIfS, dNever, dAsg, dPar, dPar3, dName, dgTup, dgCons, dgNil, dFor, dForL, dVar, dC, dOp, dUn, dNil, dCons, dBagA, dStar, dCB, dTup, dLst, dB, dAnd, dOr, dNot, dIf, dAndV, dOrV, dNotV, dChain, dIsN, dNotN, dIsi, dIsi2, dSl, dPart, dNoPart, dLc, dYes, dCall, dCallN, dDef, dMeth, dMethK, dMethR, dMake, dMakeK, dOwn, dInit, dSetF, dFldO, itemsL, itemsT, itemsS, itemsR1, itemsR2, itemsZ, itemsE, dJoin, dJoined, dJs, dAug, dOwnL, dAppend, dExtend, dPop, starT, datL, ok_some, ok_none, List.length_cons, List.length_nil, List.replicate_succ, List.replicate_zero, List.cons_append, List.nil_append, List.append_nil, List.getElem?_cons_zero, List.getElem?_cons_succ, List.getElem?_nil, List.set_cons_zero, List.set_cons_succ, List.set_nil, List.map_cons, List.map_nil, Option.map_some, Option.map_none, Option.bind_some, Option.bind_none, if_true, if_false, true_and, and_true, Bool.not_true, Bool.not_false, reduceIte, Bool.false_eq_true, Bool.true_or, Bool.or_true, Bool.true_and, Bool.and_true, Bool.false_and, Bool.and_false, Bool.false_or, Bool.or_false, String.reduceBEq, Int.cast_ofNat_Int, Int.reduceEq, Int.reduceLE, Int.reduceLT, Int.reduceNeg, Int.reduceAdd, Int.reduceSub, Bool.not_eq_true, inB_S, fIn_S, fNotIn_S,  Nat.reduceAdd, List.take_succ_cons, List.take_zero, List.drop_succ_cons, List.drop_zero, Nat.reduceEqDiff, Nat.reduceLeDiff, Nat.zero_le, isIns, fFld, beq_self_eq_true]
  refine ⟨rfl, T_pull (by decide) (by decide) fun d hd => ?_⟩
  refine ⟨by omega, ?_⟩
  refine lcL_draw (Pr := fun y => ∃ c, y = .str [c] ∧ isLw c = true) _ _ (fun y hy R' hR' => ?_) (fun y => rfl) (by simp; omega) fun ys hys hp => ?_
  · simp only [wipeE, fIx_0, fIx_1, fIx_2, fEq_str, fNe_str, fEq_int, fNe_int, fEq_bl, fNe_bl, isNon, decide_true, decide_false, eq_self, dSeq, dNext, dRet, dRetN, dDrop, dIfS, dNever, dAsg, dPar, dPar3, dName, dgTup, dgCons, dgNil, dFor, dForL, dVar, dC, dOp, dUn, dNil, dCons, dBagA, dStar, dCB, dTup, dLst, dB, dAnd, dOr, dNot, dIf, dAndV, dOrV, dNotV, dChain, dIsN, dNotN, dIsi, dIsi2, dSl, dPart, dNoPart, dLc, dYes, dCall, dCallN, dDef, dMeth, dMethK, dMethR, dMake, dMakeK, dOwn, dInit, dSetF, dFldO, itemsL, itemsT, itemsS, itemsR1, itemsR2, itemsZ, itemsE, dJoin, dJoined, dJs, dAug, dOwnL, dAppend, dExtend, dPop, starT, datL, ok_some, ok_none, List.length_cons, List.length_nil, List.replicate_succ, List.replicate_zero, List.cons_append, List.nil_append, List.append_nil, List.getElem?_cons_zero, List.getElem?_cons_succ, List.getElem?_nil, List.set_cons_zero, List.set_cons_succ, List.set_nil, List.map_cons, List.map_nil, Option.map_some, Option.map_none, Option.bind_some, Option.bind_none, if_true, if_false, true_and, and_true, Bool.not_true, Bool.not_false, reduceIte, Bool.false_eq_true, Bool.true_or, Bool.or_true, Bool.true_and, Bool.and_true, Bool.false_and, Bool.and_false, Bool.false_or, Bool.or_false, String.reduceBEq, Int.cast_ofNat_Int, Int.reduceEq, Int.reduceLE, Int.reduceLT, Int.reduceNeg, Int.reduceAdd, Int.reduceSub, Bool.not_eq_true, inB_S, fIn_S, fNotIn_S,  Nat.reduceAdd, List.take_succ_cons, List.take_zero, List.drop_succ_cons, List.drop_zero, Nat.reduceEqDiff, Nat.reduceLeDiff, Nat.zero_le, isIns, fFld, beq_self_eq_true]
    refine T_any rfl (by rw [letters_eq]; decide) (by rw [letters_eq]; decide) fun x hx => ?_
    obtain ⟨c, hc, rfl⟩ := List.mem_map.mp hx
    refine hR' _ ⟨c, rfl, ?_⟩
    rw [← letters_mem]
    exact decide_eq_true hc
  · obtain ⟨cs, rfl, hcs⟩ : ∃ cs : List Nat, ys = cs.map (fun c => D.str [c]) ∧ cs.all isLw = true := by
      clear hys
      induction ys with
      | nil => exact ⟨[], rfl, rfl⟩
      | cons y ys ih =>
        obtain ⟨c, rfl, hc⟩ := hp y List.mem_cons_self
        obtain ⟨cs, rfl, hcs⟩ := ih fun z hz => hp z (List.mem_cons_of_mem _ hz)
        exact ⟨c :: cs, rfl, by rw [List.all_cons, hc, hcs]; rfl⟩
    have hlen : cs.length ≤ 4 := by
      simp at hys
      omega
    rw [List.nil_append, fJoin_one (by omega)]
    simp only [wipeE, fIx_0, fIx_1, fIx_2, fEq_str, fNe_str, fEq_int, fNe_int, fEq_bl, fNe_bl, isNon, decide_true, decide_false, eq_self, dSeq, dNext, dRet, dRetN, dDrop, dIfS, dNever, dAsg, dPar, dPar3, dName, dgTup, dgCons, dgNil, dFor, dForL, dVar, dC, dOp, dUn, dNil, dCons, dBagA, dStar, dCB, dTup, dLst, dB, dAnd, dOr, dNot, dIf, dAndV, dOrV, dNotV, dChain, dIsN, dNotN, dIsi, dIsi2, dSl, dPart, dNoPart, dLc, dYes, dCall, dCallN, dDef, dMeth, dMethK, dMethR, dMake, dMakeK, dOwn, dInit, dSetF, dFldO, itemsL, itemsT, itemsS, itemsR1, itemsR2, itemsZ, itemsE, dJoin, dJoined, dJs, dAug, dOwnL, dAppend, dExtend, dPop, starT, datL, ok_some, ok_none, List.length_cons, List.length_nil, List.replicate_succ, List.replicate_zero, List.cons_append, List.nil_append, List.append_nil, List.getElem?_cons_zero, List.getElem?_cons_succ, List.getElem?_nil, List.set_cons_zero, List.set_cons_succ, List.set_nil, List.map_cons, List.map_nil, Option.map_some, Option.map_none, Option.bind_some, Option.bind_none, if_true, if_false, true_and, and_true, Bool.not_true, Bool.not_false, reduceIte, Bool.false_eq_true, Bool.true_or, Bool.or_true, Bool.true_and, Bool.and_true, Bool.false_and, Bool.and_false, Bool.false_or, Bool.or_false, String.reduceBEq, Int.cast_ofNat_Int, Int.reduceEq, Int.reduceLE, Int.reduceLT, Int.reduceNeg, Int.reduceAdd, Int.reduceSub, Bool.not_eq_true, inB_S, fIn_S, fNotIn_S,  Nat.reduceAdd, List.take_succ_cons, List.take_zero, List.drop_succ_cons, List.drop_zero, Nat.reduceEqDiff, Nat.reduceLeDiff, Nat.zero_le, isIns, fFld, beq_self_eq_true, fLen, fAdd]
    rw [if_pos (by omega)]
    simp only [wipeE, fIx_0, fIx_1, fIx_2, fEq_str, fNe_str, fEq_int, fNe_int, fEq_bl, fNe_bl, isNon, decide_true, decide_false, eq_self, dSeq, dNext, dRet, dRetN, dDrop, dIfS, dNever, dAsg, dPar, dPar3, dName, dgTup, dgCons, dgNil, dFor, dForL, dVar, dC, dOp, dUn, dNil, dCons, dBagA, dStar, dCB, dTup, dLst, dB, dAnd, dOr, dNot, dIf, dAndV, dOrV, dNotV, dChain, dIsN, dNotN, dIsi, dIsi2, dSl, dPart, dNoPart, dLc, dYes, dCall, dCallN, dDef, dMeth, dMethK, dMethR, dMake, dMakeK, dOwn, dInit, dSetF, dFldO, itemsL, itemsT, itemsS, itemsR1, itemsR2, itemsZ, itemsE, dJoin, dJoined, dJs, dAug, dOwnL, dAppend, dExtend, dPop, starT, datL, ok_some, ok_none, List.length_cons, List.length_nil, List.replicate_succ, List.replicate_zero, List.cons_append, List.nil_append, List.append_nil, List.getElem?_cons_zero, List.getElem?_cons_succ, List.getElem?_nil, List.set_cons_zero, List.set_cons_succ, List.set_nil, List.map_cons, List.map_nil, Option.map_some, Option.map_none, Option.bind_some, Option.bind_none, if_true, if_false, true_and, and_true, Bool.not_true, Bool.not_false, reduceIte, Bool.false_eq_true, Bool.true_or, Bool.or_true, Bool.true_and, Bool.and_true, Bool.false_and, Bool.and_false, Bool.false_or, Bool.or_false, String.reduceBEq, Int.cast_ofNat_Int, Int.reduceEq, Int.reduceLE, Int.reduceLT, Int.reduceNeg, Int.reduceAdd, Int.reduceSub, Bool.not_eq_true, inB_S, fIn_S, fNotIn_S,  Nat.reduceAdd, List.take_succ_cons, List.take_zero, List.drop_succ_cons, List.drop_zero, Nat.reduceEqDiff, Nat.reduceLeDiff, Nat.zero_le, isIns, fFld, beq_self_eq_true]
    refine T_pull (by omega) (by omega) fun at_ hat => T_pull (by decide) (by decide) fun fi hfi => ?_
    refine ⟨⟨by omega, by omega⟩, ?_⟩
    have hat' : at_ ≤ cs.length := by omega
    refine lcL_map (f := fun d => match d with | .int j => .str (nameAt cs at_ fi j.toNat) | _ => .non) _ _ (fun d hd' R' hR' => ?_) (fun d => rfl) (by simp; omega) ?_
    · obtain ⟨j, hj, rfl⟩ := List.mem_map.mp hd'
      have hj' : j < 26 := by have := List.mem_range.mp hj; simp at this; omega
      have e1 : fSl (.str cs) none (some (at_ : Int)) = some (.str (cs.take at_)) := by
        show (if cs.length ≤ 1000000 then some (D.str (cutL cs none (some (at_ : Int)))) else none) = _
        rw [if_pos (by omega), cutL_to hat']
      have e2 : fSl (.str cs) (some (at_ : Int)) none = some (.str (cs.drop at_)) := by
        show (if cs.length ≤ 1000000 then some (D.str (cutL cs (some (at_ : Int)) none)) else none) = _
        rw [if_pos (by omega), cutL_from hat']
      have e3 : fMul (.int 5) (.int (j : Nat)) = some (.int (5 * (j : Nat))) := rfl
      have e4 : fMod (.int (((fi : Nat) : Int) + 5 * ((j : Nat) : Int))) (.int 26) = some (.int (((fi + 5 * j) % 26 : Nat))) := by
        show some (D.int _) = _
        congr 2
      have l1 : (cs.take at_).length + [97 + (fi + 5 * j) % 26].length ≤ 1000000 := by simp; omega
      have l2 : (cs.take at_ ++ [97 + (fi + 5 * j) % 26]).length + (cs.drop at_).length ≤ 1000000 := by simp; omega
      have a0 : fAdd (.int (fi : Nat)) (.int (5 * (j : Nat))) = some (.int (((fi : Nat) : Int) + 5 * ((j : Nat) : Int))) := rfl
      simp only [wipeE, fIx_0, fIx_1, fIx_2, fEq_str, fNe_str, fEq_int, fNe_int, fEq_bl, fNe_bl, isNon, decide_true, decide_false, eq_self, dSeq, dNext, dRet, dRetN, dDrop, dIfS, dNever, dAsg, dPar, dPar3, dName, dgTup, dgCons, dgNil, dFor, dForL, dVar, dC, dOp, dUn, dNil, dCons, dBagA, dStar, dCB, dTup, dLst, dB, dAnd, dOr, dNot, dIf, dAndV, dOrV, dNotV, dChain, dIsN, dNotN, dIsi, dIsi2, dSl, dPart, dNoPart, dLc, dYes, dCall, dCallN, dDef, dMeth, dMethK, dMethR, dMake, dMakeK, dOwn, dInit, dSetF, dFldO, itemsL, itemsT, itemsS, itemsR1, itemsR2, itemsZ, itemsE, dJoin, dJoined, dJs, dAug, dOwnL, dAppend, dExtend, dPop, starT, datL, ok_some, ok_none, List.length_cons, List.length_nil, List.replicate_succ, List.replicate_zero, List.cons_append, List.nil_append, List.append_nil, List.getElem?_cons_zero, List.getElem?_cons_succ, List.getElem?_nil, List.set_cons_zero, List.set_cons_succ, List.set_nil, List.map_cons, List.map_nil, Option.map_some, Option.map_none, Option.bind_some, Option.bind_none, if_true, if_false, true_and, and_true, Bool.not_true, Bool.not_false, reduceIte, Bool.false_eq_true, Bool.true_or, Bool.or_true, Bool.true_and, Bool.and_true, Bool.false_and, Bool.and_false, Bool.false_or, Bool.or_false, String.reduceBEq, Int.cast_ofNat_Int, Int.reduceEq, Int.reduceLE, Int.reduceLT, Int.reduceNeg, Int.reduceAdd, Int.reduceSub, Bool.not_eq_true, inB_S, fIn_S, fNotIn_S,  Nat.reduceAdd, List.take_succ_cons, List.take_zero, List.drop_succ_cons, List.drop_zero, Nat.reduceEqDiff, Nat.reduceLeDiff, Nat.zero_le, isIns, fFld, beq_self_eq_true, e1, e2, e3, a0, fToInt, e4, letter_at (show (fi + 5 * j) % 26 < 26 by omega), fAdd_str l1, fAdd_str l2]
      have e5 : cs.take at_ ++ [97 + (fi + 5 * j) % 26] ++ cs.drop at_ = nameAt cs at_ fi j := by unfold nameAt; simp
      rw [e5]
      exact hR'
    · have e6 : ([] : List D) ++ List.map (fun d => match d with | .int j => .str (nameAt cs at_ fi j.toNat) | _ => .non) (List.map (fun k : Nat => D.int (k : Nat)) (List.range ((n : Nat) : Int).toNat)) = ((List.range n).map fun j => nameAt cs at_ fi j).map .str := by
        rw [List.nil_append, List.map_map, List.map_map, Int.toNat_natCast]
        rfl
      rw [e6]
      refine h _ (by simp) (fun w hw => ?_) (nameAt_nodup hn)
      obtain ⟨j, _, rfl⟩ := List.mem_map.mp hw
      exact nameAt_nm5 hcs hlen j
/-- all its atoms are among these -/
def Tm.over (A : List Nat → Prop) : Tm → Prop
  | .atom s => A s
  | .fls => True
  | .hole _ => False
  | .part _ => False
  | .bin _ a b => a.over A ∧ b.over A
theorem Tm.over_good {A : List Nat → Prop} (hA : ∀ s, A s → isNm s = true) : ∀ {t : Tm}, t.over A → t.good = true
  | .atom s, h => hA s h
  | .fls, _ => rfl
  | .bin _ a b, h => by unfold Tm.good; rw [Tm.over_good hA h.1, Tm.over_good hA h.2]; rfl
def opAt : Nat → Op
  | 0 => .th
  | 1 => .an
  | _ => .or
theorem opAt_ix {way : Nat} (h : way < 3) : fIx (.tup [.str (cp "then"), .str (cp "and"), .str (cp "or")]) (.int (way : Nat)) = some (.str (opC (opAt way))) := by
  match way, h with
  | 0, _ => rfl
  | 1, _ => rfl
  | 2, _ => rfl
theorem T_form {ws : List (List Nat)} (hw : 0 < ws.length) (hw' : ws.length < 1000) {X : Xc → Prop} : ∀ {n k : Nat} {R : D → Prop}, k < n → 0 < k → (∀ t : Tm, t.over (· ∈ ws) → t.deep ≤ k → R (encD t)) → T__law_form n [.bag, .dat (.lst (ws.map .str)), .dat (.int (k : Nat))] R X
  | 0, k, R, hk, _, _ => by omega
  | n + 1, k, R, hk, hk0, h => by
    unfold T__law_form
    simp only [wipeE, fIx_0, fIx_1, fIx_2, fEq_str, fNe_str, fEq_int, fNe_int, fEq_bl, fNe_bl, isNon, decide_true, decide_false, eq_self, dSeq, dNext, dRet, dRetN, dDrop, dIfS, dNever, dAsg, dPar, dPar3, dName, dgTup, dgCons, dgNil, dFor, dForL, dVar, dC, dOp, dUn, dNil, dCons, dBagA, dStar, dCB, dTup, dLst, dB, dAnd, dOr, dNot, dIf, dAndV, dOrV, dNotV, dChain, dIsN, dNotN, dIsi, dIsi2, dSl, dPart, dNoPart, dLc, dYes, dCall, dCallN, dDef, dMeth, dMethK, dMethR, dMake, dMakeK, dOwn, dInit, dSetF, dFldO, itemsL, itemsT, itemsS, itemsR1, itemsR2, itemsZ, itemsE, dJoin, dJoined, dJs, dAug, dOwnL, dAppend, dExtend, dPop, starT, datL, ok_some, ok_none, List.length_cons, List.length_nil, List.replicate_succ, List.replicate_zero, List.cons_append, List.nil_append, List.append_nil, List.getElem?_cons_zero, List.getElem?_cons_succ, List.getElem?_nil, List.set_cons_zero, List.set_cons_succ, List.set_nil, List.map_cons, List.map_nil, Option.map_some, Option.map_none, Option.bind_some, Option.bind_none, if_true, if_false, true_and, and_true, Bool.not_true, Bool.not_false, reduceIte, Bool.false_eq_true, Bool.true_or, Bool.or_true, Bool.true_and, Bool.and_true, Bool.false_and, Bool.and_false, Bool.false_or, Bool.or_false, String.reduceBEq, Int.cast_ofNat_Int, Int.reduceEq, Int.reduceLE, Int.reduceLT, Int.reduceNeg, Int.reduceAdd, Int.reduceSub, Bool.not_eq_true, inB_S, fIn_S, fNotIn_S,  Nat.reduceAdd, List.take_succ_cons, List.take_zero, List.drop_succ_cons, List.drop_zero, Nat.reduceEqDiff, Nat.reduceLeDiff, Nat.zero_le, isIns, fFld, beq_self_eq_true]
    refine T_pull (by decide) (by decide) fun way hway => ?_
    have leaf : T__law_pull [.bag, .dat (.int 7)] (fun d => ok (fEq d (.int 0)) fun d => match d with | .bl b => if b = true then R (.tup [.str (cp "false")]) else T__law_any [.bag, .dat (.lst (ws.map .str))] (fun d => R (.tup [.str (cp "atom"), d])) fun x => X x | _ => False) fun x => X x := by
      refine T_pull (by decide) (by decide) fun q hq => ?_
      simp only [wipeE, fIx_0, fIx_1, fIx_2, fEq_str, fNe_str, fEq_int, fNe_int, fEq_bl, fNe_bl, isNon, decide_true, decide_false, eq_self, dSeq, dNext, dRet, dRetN, dDrop, dIfS, dNever, dAsg, dPar, dPar3, dName, dgTup, dgCons, dgNil, dFor, dForL, dVar, dC, dOp, dUn, dNil, dCons, dBagA, dStar, dCB, dTup, dLst, dB, dAnd, dOr, dNot, dIf, dAndV, dOrV, dNotV, dChain, dIsN, dNotN, dIsi, dIsi2, dSl, dPart, dNoPart, dLc, dYes, dCall, dCallN, dDef, dMeth, dMethK, dMethR, dMake, dMakeK, dOwn, dInit, dSetF, dFldO, itemsL, itemsT, itemsS, itemsR1, itemsR2, itemsZ, itemsE, dJoin, dJoined, dJs, dAug, dOwnL, dAppend, dExtend, dPop, starT, datL, ok_some, ok_none, List.length_cons, List.length_nil, List.replicate_succ, List.replicate_zero, List.cons_append, List.nil_append, List.append_nil, List.getElem?_cons_zero, List.getElem?_cons_succ, List.getElem?_nil, List.set_cons_zero, List.set_cons_succ, List.set_nil, List.map_cons, List.map_nil, Option.map_some, Option.map_none, Option.bind_some, Option.bind_none, if_true, if_false, true_and, and_true, Bool.not_true, Bool.not_false, reduceIte, Bool.false_eq_true, Bool.true_or, Bool.or_true, Bool.true_and, Bool.and_true, Bool.false_and, Bool.and_false, Bool.false_or, Bool.or_false, String.reduceBEq, Int.cast_ofNat_Int, Int.reduceEq, Int.reduceLE, Int.reduceLT, Int.reduceNeg, Int.reduceAdd, Int.reduceSub, Bool.not_eq_true, inB_S, fIn_S, fNotIn_S,  Nat.reduceAdd, List.take_succ_cons, List.take_zero, List.drop_succ_cons, List.drop_zero, Nat.reduceEqDiff, Nat.reduceLeDiff, Nat.zero_le, isIns, fFld, beq_self_eq_true]
      by_cases e : (q : Int) = 0
      · simp only [e, wipeE, fIx_0, fIx_1, fIx_2, fEq_str, fNe_str, fEq_int, fNe_int, fEq_bl, fNe_bl, isNon, decide_true, decide_false, eq_self, dSeq, dNext, dRet, dRetN, dDrop, dIfS, dNever, dAsg, dPar, dPar3, dName, dgTup, dgCons, dgNil, dFor, dForL, dVar, dC, dOp, dUn, dNil, dCons, dBagA, dStar, dCB, dTup, dLst, dB, dAnd, dOr, dNot, dIf, dAndV, dOrV, dNotV, dChain, dIsN, dNotN, dIsi, dIsi2, dSl, dPart, dNoPart, dLc, dYes, dCall, dCallN, dDef, dMeth, dMethK, dMethR, dMake, dMakeK, dOwn, dInit, dSetF, dFldO, itemsL, itemsT, itemsS, itemsR1, itemsR2, itemsZ, itemsE, dJoin, dJoined, dJs, dAug, dOwnL, dAppend, dExtend, dPop, starT, datL, ok_some, ok_none, List.length_cons, List.length_nil, List.replicate_succ, List.replicate_zero, List.cons_append, List.nil_append, List.append_nil, List.getElem?_cons_zero, List.getElem?_cons_succ, List.getElem?_nil, List.set_cons_zero, List.set_cons_succ, List.set_nil, List.map_cons, List.map_nil, Option.map_some, Option.map_none, Option.bind_some, Option.bind_none, if_true, if_false, true_and, and_true, Bool.not_true, Bool.not_false, reduceIte, Bool.false_eq_true, Bool.true_or, Bool.or_true, Bool.true_and, Bool.and_true, Bool.false_and, Bool.and_false, Bool.false_or, Bool.or_false, String.reduceBEq, Int.cast_ofNat_Int, Int.reduceEq, Int.reduceLE, Int.reduceLT, Int.reduceNeg, Int.reduceAdd, Int.reduceSub, Bool.not_eq_true, inB_S, fIn_S, fNotIn_S,  Nat.reduceAdd, List.take_succ_cons, List.take_zero, List.drop_succ_cons, List.drop_zero, Nat.reduceEqDiff, Nat.reduceLeDiff, Nat.zero_le, isIns, fFld, beq_self_eq_true]
        exact h .fls trivial hk0
      · simp only [e, wipeE, fIx_0, fIx_1, fIx_2, fEq_str, fNe_str, fEq_int, fNe_int, fEq_bl, fNe_bl, isNon, decide_true, decide_false, eq_self, dSeq, dNext, dRet, dRetN, dDrop, dIfS, dNever, dAsg, dPar, dPar3, dName, dgTup, dgCons, dgNil, dFor, dForL, dVar, dC, dOp, dUn, dNil, dCons, dBagA, dStar, dCB, dTup, dLst, dB, dAnd, dOr, dNot, dIf, dAndV, dOrV, dNotV, dChain, dIsN, dNotN, dIsi, dIsi2, dSl, dPart, dNoPart, dLc, dYes, dCall, dCallN, dDef, dMeth, dMethK, dMethR, dMake, dMakeK, dOwn, dInit, dSetF, dFldO, itemsL, itemsT, itemsS, itemsR1, itemsR2, itemsZ, itemsE, dJoin, dJoined, dJs, dAug, dOwnL, dAppend, dExtend, dPop, starT, datL, ok_some, ok_none, List.length_cons, List.length_nil, List.replicate_succ, List.replicate_zero, List.cons_append, List.nil_append, List.append_nil, List.getElem?_cons_zero, List.getElem?_cons_succ, List.getElem?_nil, List.set_cons_zero, List.set_cons_succ, List.set_nil, List.map_cons, List.map_nil, Option.map_some, Option.map_none, Option.bind_some, Option.bind_none, if_true, if_false, true_and, and_true, Bool.not_true, Bool.not_false, reduceIte, Bool.false_eq_true, Bool.true_or, Bool.or_true, Bool.true_and, Bool.and_true, Bool.false_and, Bool.and_false, Bool.false_or, Bool.or_false, String.reduceBEq, Int.cast_ofNat_Int, Int.reduceEq, Int.reduceLE, Int.reduceLT, Int.reduceNeg, Int.reduceAdd, Int.reduceSub, Bool.not_eq_true, inB_S, fIn_S, fNotIn_S,  Nat.reduceAdd, List.take_succ_cons, List.take_zero, List.drop_succ_cons, List.drop_zero, Nat.reduceEqDiff, Nat.reduceLeDiff, Nat.zero_le, isIns, fFld, beq_self_eq_true]
        refine T_any rfl (by simpa using hw) (by simp; omega) fun x hx => ?_
        obtain ⟨z, hz, rfl⟩ := List.mem_map.mp hx
        exact h (.atom z) hz hk0
    simp only [wipeE, fIx_0, fIx_1, fIx_2, fEq_str, fNe_str, fEq_int, fNe_int, fEq_bl, fNe_bl, isNon, decide_true, decide_false, eq_self, dSeq, dNext, dRet, dRetN, dDrop, dIfS, dNever, dAsg, dPar, dPar3, dName, dgTup, dgCons, dgNil, dFor, dForL, dVar, dC, dOp, dUn, dNil, dCons, dBagA, dStar, dCB, dTup, dLst, dB, dAnd, dOr, dNot, dIf, dAndV, dOrV, dNotV, dChain, dIsN, dNotN, dIsi, dIsi2, dSl, dPart, dNoPart, dLc, dYes, dCall, dCallN, dDef, dMeth, dMethK, dMethR, dMake, dMakeK, dOwn, dInit, dSetF, dFldO, itemsL, itemsT, itemsS, itemsR1, itemsR2, itemsZ, itemsE, dJoin, dJoined, dJs, dAug, dOwnL, dAppend, dExtend, dPop, starT, datL, ok_some, ok_none, List.length_cons, List.length_nil, List.replicate_succ, List.replicate_zero, List.cons_append, List.nil_append, List.append_nil, List.getElem?_cons_zero, List.getElem?_cons_succ, List.getElem?_nil, List.set_cons_zero, List.set_cons_succ, List.set_nil, List.map_cons, List.map_nil, Option.map_some, Option.map_none, Option.bind_some, Option.bind_none, if_true, if_false, true_and, and_true, Bool.not_true, Bool.not_false, reduceIte, Bool.false_eq_true, Bool.true_or, Bool.or_true, Bool.true_and, Bool.and_true, Bool.false_and, Bool.and_false, Bool.false_or, Bool.or_false, String.reduceBEq, Int.cast_ofNat_Int, Int.reduceEq, Int.reduceLE, Int.reduceLT, Int.reduceNeg, Int.reduceAdd, Int.reduceSub, Bool.not_eq_true, inB_S, fIn_S, fNotIn_S,  Nat.reduceAdd, List.take_succ_cons, List.take_zero, List.drop_succ_cons, List.drop_zero, Nat.reduceEqDiff, Nat.reduceLeDiff, Nat.zero_le, isIns, fFld, beq_self_eq_true, fLt, fInt]
    by_cases h1 : ((k : Nat) : Int) < 2
    · simp only [h1, wipeE, fIx_0, fIx_1, fIx_2, fEq_str, fNe_str, fEq_int, fNe_int, fEq_bl, fNe_bl, isNon, decide_true, decide_false, eq_self, dSeq, dNext, dRet, dRetN, dDrop, dIfS, dNever, dAsg, dPar, dPar3, dName, dgTup, dgCons, dgNil, dFor, dForL, dVar, dC, dOp, dUn, dNil, dCons, dBagA, dStar, dCB, dTup, dLst, dB, dAnd, dOr, dNot, dIf, dAndV, dOrV, dNotV, dChain, dIsN, dNotN, dIsi, dIsi2, dSl, dPart, dNoPart, dLc, dYes, dCall, dCallN, dDef, dMeth, dMethK, dMethR, dMake, dMakeK, dOwn, dInit, dSetF, dFldO, itemsL, itemsT, itemsS, itemsR1, itemsR2, itemsZ, itemsE, dJoin, dJoined, dJs, dAug, dOwnL, dAppend, dExtend, dPop, starT, datL, ok_some, ok_none, List.length_cons, List.length_nil, List.replicate_succ, List.replicate_zero, List.cons_append, List.nil_append, List.append_nil, List.getElem?_cons_zero, List.getElem?_cons_succ, List.getElem?_nil, List.set_cons_zero, List.set_cons_succ, List.set_nil, List.map_cons, List.map_nil, Option.map_some, Option.map_none, Option.bind_some, Option.bind_none, if_true, if_false, true_and, and_true, Bool.not_true, Bool.not_false, reduceIte, Bool.false_eq_true, Bool.true_or, Bool.or_true, Bool.true_and, Bool.and_true, Bool.false_and, Bool.and_false, Bool.false_or, Bool.or_false, String.reduceBEq, Int.cast_ofNat_Int, Int.reduceEq, Int.reduceLE, Int.reduceLT, Int.reduceNeg, Int.reduceAdd, Int.reduceSub, Bool.not_eq_true, inB_S, fIn_S, fNotIn_S,  Nat.reduceAdd, List.take_succ_cons, List.take_zero, List.drop_succ_cons, List.drop_zero, Nat.reduceEqDiff, Nat.reduceLeDiff, Nat.zero_le, isIns, fFld, beq_self_eq_true]
      exact leaf
    · simp only [h1, wipeE, fIx_0, fIx_1, fIx_2, fEq_str, fNe_str, fEq_int, fNe_int, fEq_bl, fNe_bl, isNon, decide_true, decide_false, eq_self, dSeq, dNext, dRet, dRetN, dDrop, dIfS, dNever, dAsg, dPar, dPar3, dName, dgTup, dgCons, dgNil, dFor, dForL, dVar, dC, dOp, dUn, dNil, dCons, dBagA, dStar, dCB, dTup, dLst, dB, dAnd, dOr, dNot, dIf, dAndV, dOrV, dNotV, dChain, dIsN, dNotN, dIsi, dIsi2, dSl, dPart, dNoPart, dLc, dYes, dCall, dCallN, dDef, dMeth, dMethK, dMethR, dMake, dMakeK, dOwn, dInit, dSetF, dFldO, itemsL, itemsT, itemsS, itemsR1, itemsR2, itemsZ, itemsE, dJoin, dJoined, dJs, dAug, dOwnL, dAppend, dExtend, dPop, starT, datL, ok_some, ok_none, List.length_cons, List.length_nil, List.replicate_succ, List.replicate_zero, List.cons_append, List.nil_append, List.append_nil, List.getElem?_cons_zero, List.getElem?_cons_succ, List.getElem?_nil, List.set_cons_zero, List.set_cons_succ, List.set_nil, List.map_cons, List.map_nil, Option.map_some, Option.map_none, Option.bind_some, Option.bind_none, if_true, if_false, true_and, and_true, Bool.not_true, Bool.not_false, reduceIte, Bool.false_eq_true, Bool.true_or, Bool.or_true, Bool.true_and, Bool.and_true, Bool.false_and, Bool.and_false, Bool.false_or, Bool.or_false, String.reduceBEq, Int.cast_ofNat_Int, Int.reduceEq, Int.reduceLE, Int.reduceLT, Int.reduceNeg, Int.reduceAdd, Int.reduceSub, Bool.not_eq_true, inB_S, fIn_S, fNotIn_S,  Nat.reduceAdd, List.take_succ_cons, List.take_zero, List.drop_succ_cons, List.drop_zero, Nat.reduceEqDiff, Nat.reduceLeDiff, Nat.zero_le, isIns, fFld, beq_self_eq_true]
      by_cases h2 : ((way : Nat) : Int) < 2
      · simp only [h2, wipeE, fIx_0, fIx_1, fIx_2, fEq_str, fNe_str, fEq_int, fNe_int, fEq_bl, fNe_bl, isNon, decide_true, decide_false, eq_self, dSeq, dNext, dRet, dRetN, dDrop, dIfS, dNever, dAsg, dPar, dPar3, dName, dgTup, dgCons, dgNil, dFor, dForL, dVar, dC, dOp, dUn, dNil, dCons, dBagA, dStar, dCB, dTup, dLst, dB, dAnd, dOr, dNot, dIf, dAndV, dOrV, dNotV, dChain, dIsN, dNotN, dIsi, dIsi2, dSl, dPart, dNoPart, dLc, dYes, dCall, dCallN, dDef, dMeth, dMethK, dMethR, dMake, dMakeK, dOwn, dInit, dSetF, dFldO, itemsL, itemsT, itemsS, itemsR1, itemsR2, itemsZ, itemsE, dJoin, dJoined, dJs, dAug, dOwnL, dAppend, dExtend, dPop, starT, datL, ok_some, ok_none, List.length_cons, List.length_nil, List.replicate_succ, List.replicate_zero, List.cons_append, List.nil_append, List.append_nil, List.getElem?_cons_zero, List.getElem?_cons_succ, List.getElem?_nil, List.set_cons_zero, List.set_cons_succ, List.set_nil, List.map_cons, List.map_nil, Option.map_some, Option.map_none, Option.bind_some, Option.bind_none, if_true, if_false, true_and, and_true, Bool.not_true, Bool.not_false, reduceIte, Bool.false_eq_true, Bool.true_or, Bool.or_true, Bool.true_and, Bool.and_true, Bool.false_and, Bool.and_false, Bool.false_or, Bool.or_false, String.reduceBEq, Int.cast_ofNat_Int, Int.reduceEq, Int.reduceLE, Int.reduceLT, Int.reduceNeg, Int.reduceAdd, Int.reduceSub, Bool.not_eq_true, inB_S, fIn_S, fNotIn_S,  Nat.reduceAdd, List.take_succ_cons, List.take_zero, List.drop_succ_cons, List.drop_zero, Nat.reduceEqDiff, Nat.reduceLeDiff, Nat.zero_le, isIns, fFld, beq_self_eq_true]
        exact leaf
      · simp only [h2, wipeE, fIx_0, fIx_1, fIx_2, fEq_str, fNe_str, fEq_int, fNe_int, fEq_bl, fNe_bl, isNon, decide_true, decide_false, eq_self, dSeq, dNext, dRet, dRetN, dDrop, dIfS, dNever, dAsg, dPar, dPar3, dName, dgTup, dgCons, dgNil, dFor, dForL, dVar, dC, dOp, dUn, dNil, dCons, dBagA, dStar, dCB, dTup, dLst, dB, dAnd, dOr, dNot, dIf, dAndV, dOrV, dNotV, dChain, dIsN, dNotN, dIsi, dIsi2, dSl, dPart, dNoPart, dLc, dYes, dCall, dCallN, dDef, dMeth, dMethK, dMethR, dMake, dMakeK, dOwn, dInit, dSetF, dFldO, itemsL, itemsT, itemsS, itemsR1, itemsR2, itemsZ, itemsE, dJoin, dJoined, dJs, dAug, dOwnL, dAppend, dExtend, dPop, starT, datL, ok_some, ok_none, List.length_cons, List.length_nil, List.replicate_succ, List.replicate_zero, List.cons_append, List.nil_append, List.append_nil, List.getElem?_cons_zero, List.getElem?_cons_succ, List.getElem?_nil, List.set_cons_zero, List.set_cons_succ, List.set_nil, List.map_cons, List.map_nil, Option.map_some, Option.map_none, Option.bind_some, Option.bind_none, if_true, if_false, true_and, and_true, Bool.not_true, Bool.not_false, reduceIte, Bool.false_eq_true, Bool.true_or, Bool.or_true, Bool.true_and, Bool.and_true, Bool.false_and, Bool.and_false, Bool.false_or, Bool.or_false, String.reduceBEq, Int.cast_ofNat_Int, Int.reduceEq, Int.reduceLE, Int.reduceLT, Int.reduceNeg, Int.reduceAdd, Int.reduceSub, Bool.not_eq_true, inB_S, fIn_S, fNotIn_S,  Nat.reduceAdd, List.take_succ_cons, List.take_zero, List.drop_succ_cons, List.drop_zero, Nat.reduceEqDiff, Nat.reduceLeDiff, Nat.zero_le, isIns, fFld, beq_self_eq_true, fSub, fInt]
        have ek : ((k : Nat) : Int) - 1 = ((k - 1 : Nat) : Int) := by omega
        have ew : ((way : Nat) : Int) - 2 = ((way - 2 : Nat) : Int) := by omega
        rw [ek, ew]
        refine T_form hw hw' (by omega) (by omega) fun a ha hda => ?_
        simp only [wipeE, fIx_0, fIx_1, fIx_2, fEq_str, fNe_str, fEq_int, fNe_int, fEq_bl, fNe_bl, isNon, decide_true, decide_false, eq_self, dSeq, dNext, dRet, dRetN, dDrop, dIfS, dNever, dAsg, dPar, dPar3, dName, dgTup, dgCons, dgNil, dFor, dForL, dVar, dC, dOp, dUn, dNil, dCons, dBagA, dStar, dCB, dTup, dLst, dB, dAnd, dOr, dNot, dIf, dAndV, dOrV, dNotV, dChain, dIsN, dNotN, dIsi, dIsi2, dSl, dPart, dNoPart, dLc, dYes, dCall, dCallN, dDef, dMeth, dMethK, dMethR, dMake, dMakeK, dOwn, dInit, dSetF, dFldO, itemsL, itemsT, itemsS, itemsR1, itemsR2, itemsZ, itemsE, dJoin, dJoined, dJs, dAug, dOwnL, dAppend, dExtend, dPop, starT, datL, ok_some, ok_none, List.length_cons, List.length_nil, List.replicate_succ, List.replicate_zero, List.cons_append, List.nil_append, List.append_nil, List.getElem?_cons_zero, List.getElem?_cons_succ, List.getElem?_nil, List.set_cons_zero, List.set_cons_succ, List.set_nil, List.map_cons, List.map_nil, Option.map_some, Option.map_none, Option.bind_some, Option.bind_none, if_true, if_false, true_and, and_true, Bool.not_true, Bool.not_false, reduceIte, Bool.false_eq_true, Bool.true_or, Bool.or_true, Bool.true_and, Bool.and_true, Bool.false_and, Bool.and_false, Bool.false_or, Bool.or_false, String.reduceBEq, Int.cast_ofNat_Int, Int.reduceEq, Int.reduceLE, Int.reduceLT, Int.reduceNeg, Int.reduceAdd, Int.reduceSub, Bool.not_eq_true, inB_S, fIn_S, fNotIn_S,  Nat.reduceAdd, List.take_succ_cons, List.take_zero, List.drop_succ_cons, List.drop_zero, Nat.reduceEqDiff, Nat.reduceLeDiff, Nat.zero_le, isIns, fFld, beq_self_eq_true, opAt_ix (show way - 2 < 3 by omega)]
        refine T_form hw hw' (by omega) (by omega) fun b hb hdb => ?_
        exact h (.bin (opAt (way - 2)) a b) ⟨ha, hb⟩ (by unfold Tm.deep; omega)
/-- some of the items, drawn -/
theorem lcL_some {i : Nat} {tt : DG Bool} {vs : List Nat} {ρ : En} {k : List D → En → Prop} (hi : i < ρ.length) : ∀ (ds acc : List D), (∀ d ∈ ds, ∀ R : Bool → En → Prop, (∀ b, R b (ρ.set i (.dat d))) → tt (ρ.set i (.dat d)) R noX) → (∀ d, wipeE (ρ.set i (.dat d)) vs = ρ) → acc.length + ds.length ≤ 1000000 →
    (∀ ys : List D, ys.Sublist ds → k (acc ++ ys) ρ) → lcL (dName i) tt (dVar i) vs ds ρ acc k
  | [], acc, _, _, _, h => by simpa [lcL] using h [] (List.Sublist.refl _)
  | d :: ds, acc, ht, hw, hl, h => by
    refine ht d List.mem_cons_self _ fun b => ?_
    have go := fun acc' => lcL_some (tt := tt) (vs := vs) (k := k) hi ds acc' (fun e he => ht e (List.mem_cons_of_mem _ he)) hw
    cases b with
    | false =>
      rw [if_neg (by decide), hw d]
      exact go _ (by simp at hl ⊢; omega) fun ys hys => h ys (hys.cons d)
    | true =>
      rw [if_pos rfl]
      unfold dVar
      rw [List.getElem?_set_self hi]
      refine ⟨by rw [List.length_cons] at hl; omega, ?_⟩
      rw [hw d]
      refine go _ (by simp at hl ⊢; omega) fun ys hys => ?_
      rw [List.append_assoc]
      exact h (d :: ys) (hys.cons_cons d)
theorem plainL_ints : ∀ gs : List Nat, plainL (gs.map fun n : Nat => D.int (n : Nat)) = true
  | [] => by unfold List.map plainL; rfl
  | n :: gs => by rw [List.map_cons, plainL, plainL_ints gs]; rfl
theorem lay_ints : ∀ gs : List Nat, PyData.canLayAll0 (pdL (gs.map fun n : Nat => D.int (n : Nat))) = true
  | [] => by rw [List.map_nil, pdL, PyData.canLayAll0]
  | n :: gs => by rw [List.map_cons, pdL, PyData.canLayAll0, lay_ints gs, pd, PyData.canLay0]; rfl
theorem depth_ints : ∀ gs : List Nat, PyData.depthAll (pdL (gs.map fun n : Nat => D.int (n : Nat))) = 0
  | [] => by rw [List.map_nil, pdL, PyData.depthAll]
  | n :: gs => by rw [List.map_cons, pdL, PyData.depthAll, depth_ints gs, pd, PyData.depth]; rfl
theorem shp_ints (gs : List Nat) : shp (.lst (gs.map fun n : Nat => D.int (n : Nat))) = true := by
  unfold shp SeqAt.shaped
  rw [plain, plainL_ints, pd, PyData.canLay0, lay_ints, PyData.depth, depth_ints]
  rfl
theorem eq_nil_ints (gs : List Nat) : eqB (.lst (gs.map fun n : Nat => D.int (n : Nat))) (.lst []) = some (decide (gs = [])) := by
  unfold eqB
  rw [if_neg (by simp [scalD]), if_pos ⟨shp_ints gs, shp_ints []⟩]
  cases gs with
  | nil => rw [List.map_nil, pd, pdL, PyData.eqv, PyData.eqvAll]; rfl
  | cons n gs => rw [List.map_cons, pd, pd, pdL, pdL, PyData.eqv, PyData.eqvAll]; simp
theorem sub_map {α β : Type} {f : α → β} : ∀ {l : List α} {ys : List β}, ys.Sublist (l.map f) → ∃ xs : List α, ys = xs.map f ∧ xs.Sublist l := fun {l ys} h => by
  obtain ⟨xs, h1, h2⟩ := List.sublist_map_iff.mp h
  exact ⟨xs, h2, h1⟩

end
end Ag
namespace Ag
open PySem L2
open C8 (pss_cut tCut)
section
variable {P : Program} {w : World} {K : PySem.W.Frag} {mg : Str → Option Value} {base : Heap} {cs : List (Str × Addr)}
/-! == of data without truth values: equality -/
def okC (s : List Nat) : Bool := s.all fun c => decide (c < 0x110000)
mutual
def nice : Nat → D → Bool
  | 0, _ => false
  | _ + 1, .non => true
  | _ + 1, .int _ => true
  | _ + 1, .str l => okC l
  | n + 1, .tup ds => niceL n ds
  | n + 1, .lst ds => niceL n ds
  | _ + 1, _ => false
def niceL : Nat → List D → Bool
  | _, [] => true
  | n, d :: ds => nice n d && niceL n ds
end
theorem niceL_cons {n : Nat} {d : D} {ds : List D} : niceL n (d :: ds) = (nice n d && niceL n ds) := by rw [niceL]
theorem niceL_of {n : Nat} : ∀ {ds : List D}, (∀ d ∈ ds, nice n d = true) → niceL n ds = true
  | [], _ => by rw [niceL]
  | d :: ds, h => by rw [niceL, h d List.mem_cons_self, niceL_of fun e he => h e (List.mem_cons_of_mem _ he)]; rfl
mutual
theorem nice_mono : ∀ {n m : Nat} {d : D}, nice n d = true → n ≤ m → nice m d = true
  | 0, _, _, h, _ => by unfold nice at h; cases h
  | n + 1, 0, _, _, h => absurd h (by omega)
  | n + 1, m + 1, .non, _, _ => by unfold nice; rfl
  | n + 1, m + 1, .int _, _, _ => by unfold nice; rfl
  | n + 1, m + 1, .str l, h, _ => by unfold nice at *; exact h
  | n + 1, m + 1, .tup ds, h, hm => by unfold nice at *; exact niceL_mono h (by omega)
  | n + 1, m + 1, .lst ds, h, hm => by unfold nice at *; exact niceL_mono h (by omega)
  | n + 1, m + 1, .bl _, h, _ => by unfold nice at h; cases h
  | n + 1, m + 1, .dct _ _, h, _ => by unfold nice at h; cases h
  | n + 1, m + 1, .ins _ _, h, _ => by unfold nice at h; cases h
theorem niceL_mono : ∀ {n m : Nat} {ds : List D}, niceL n ds = true → n ≤ m → niceL m ds = true
  | _, _, [], _, _ => by unfold niceL; rfl
  | n, m, d :: ds, h, hm => by
    unfold niceL at *
    rw [Bool.and_eq_true_iff] at *
    exact ⟨nice_mono h.1 hm, niceL_mono h.2 hm⟩
end
theorem okC_str {s : List Nat} (h : okC s = true) : PyData.strOk (SX.S s) = true := by
  unfold PyData.strOk
  rw [← Array.all_toList]
  exact h
mutual
theorem nice_lay : ∀ {n : Nat} {d : D}, nice n d = true → plain d = true ∧ PyData.canLay0 (pd d) = true ∧ PyData.depth (pd d) ≤ n
  | 0, _, h => by unfold nice at h; cases h
  | n + 1, .non, _ => by unfold plain pd; exact ⟨rfl, by rw [PyData.canLay0], by rw [PyData.depth]; omega⟩
  | n + 1, .int _, _ => by unfold plain pd; exact ⟨rfl, by rw [PyData.canLay0], by rw [PyData.depth]; omega⟩
  | n + 1, .str l, h => by unfold plain pd; unfold nice at h; exact ⟨rfl, by rw [PyData.canLay0]; exact okC_str h, by rw [PyData.depth]; omega⟩
  | n + 1, .tup ds, h => by
    unfold plain pd
    unfold nice at h
    obtain ⟨h1, h2, h3⟩ := niceL_lay h
    exact ⟨h1, by rw [PyData.canLay0]; exact h2, by rw [PyData.depth]; omega⟩
  | n + 1, .lst ds, h => by
    unfold plain pd
    unfold nice at h
    obtain ⟨h1, h2, h3⟩ := niceL_lay h
    exact ⟨h1, by rw [PyData.canLay0]; exact h2, by rw [PyData.depth]; omega⟩
  | n + 1, .bl _, h => by unfold nice at h; cases h
  | n + 1, .dct _ _, h => by unfold nice at h; cases h
  | n + 1, .ins _ _, h => by unfold nice at h; cases h
theorem niceL_lay : ∀ {n : Nat} {ds : List D}, niceL n ds = true → plainL ds = true ∧ PyData.canLayAll0 (pdL ds) = true ∧ PyData.depthAll (pdL ds) ≤ n
  | n, [], _ => by unfold plainL pdL; exact ⟨rfl, by rw [PyData.canLayAll0], by rw [PyData.depthAll]; omega⟩
  | n, d :: ds, h => by
    unfold niceL at h
    rw [Bool.and_eq_true_iff] at h
    obtain ⟨h1, h2, h3⟩ := nice_lay h.1
    obtain ⟨g1, g2, g3⟩ := niceL_lay h.2
    unfold plainL pdL
    rw [h1, g1, PyData.canLayAll0, h2, g2, PyData.depthAll]
    exact ⟨rfl, rfl, Nat.max_le.mpr ⟨h3, g3⟩⟩
end
theorem nice_shp {n : Nat} {d : D} (h : nice n d = true) (hn : n ≤ 64) : shp d = true := by
  obtain ⟨h1, h2, h3⟩ := nice_lay h
  unfold shp SeqAt.shaped
  rw [h1, h2, decide_eq_true (Nat.le_trans h3 hn)]
  rfl
mutual
theorem nice_eqv : ∀ {n m : Nat} {a b : D}, nice n a = true → nice m b = true → (PyData.eqv (pd a) (pd b) = true ↔ a = b)
  | 0, _, _, _, h, _ => by unfold nice at h; cases h
  | n + 1, m, .non, b, _, hb => by
    cases b <;> simp only [pd, PyData.eqv] <;> first
      | exact ⟨fun _ => rfl, fun _ => rfl⟩
      | (cases m <;> (unfold nice at hb; cases hb); done)
      | exact ⟨fun e => (by cases e), fun e => (by cases e)⟩
  | n + 1, m, .int i, b, _, hb => by
    cases b with
    | int j => simp only [pd, PyData.eqv]; exact ⟨fun e => by rw [eq_of_beq e], fun e => by cases e; exact beq_self_eq_true _⟩
    | bl _ => cases m <;> (unfold nice at hb; cases hb)
    | dct _ _ => cases m <;> (unfold nice at hb; cases hb)
    | ins _ _ => cases m <;> (unfold nice at hb; cases hb)
    | lam _ => cases m <;> (unfold nice at hb; cases hb)
    | fn _ _ => cases m <;> (unfold nice at hb; cases hb)
    | exc _ _ => cases m <;> (unfold nice at hb; cases hb)
    | _ => simp only [pd, PyData.eqv]; exact ⟨fun e => (by cases e), fun e => (by cases e)⟩
  | n + 1, m, .str l, b, _, hb => by
    cases b with
    | str j => simp only [pd, PyData.eqv]; exact ⟨fun e => by rw [SX.S_inj (eq_of_beq e)], fun e => by cases e; exact beq_self_eq_true _⟩
    | bl _ => cases m <;> (unfold nice at hb; cases hb)
    | dct _ _ => cases m <;> (unfold nice at hb; cases hb)
    | ins _ _ => cases m <;> (unfold nice at hb; cases hb)
    | lam _ => cases m <;> (unfold nice at hb; cases hb)
    | fn _ _ => cases m <;> (unfold nice at hb; cases hb)
    | exc _ _ => cases m <;> (unfold nice at hb; cases hb)
    | _ => simp only [pd, PyData.eqv]; exact ⟨fun e => (by cases e), fun e => (by cases e)⟩
  | n + 1, m, .tup ds, b, ha, hb => by
    cases b with
    | tup es =>
      cases m with
      | zero => unfold nice at hb; cases hb
      | succ m =>
        unfold nice at ha hb
        simp only [pd, PyData.eqv]
        rw [niceL_eqv ha hb]
        exact ⟨fun e => by rw [e], fun e => by cases e; rfl⟩
    | bl _ => cases m <;> (unfold nice at hb; cases hb)
    | dct _ _ => cases m <;> (unfold nice at hb; cases hb)
    | ins _ _ => cases m <;> (unfold nice at hb; cases hb)
    | lam _ => cases m <;> (unfold nice at hb; cases hb)
    | fn _ _ => cases m <;> (unfold nice at hb; cases hb)
    | exc _ _ => cases m <;> (unfold nice at hb; cases hb)
    | _ => simp only [pd, PyData.eqv]; exact ⟨fun e => (by cases e), fun e => (by cases e)⟩
  | n + 1, m, .lst ds, b, ha, hb => by
    cases b with
    | lst es =>
      cases m with
      | zero => unfold nice at hb; cases hb
      | succ m =>
        unfold nice at ha hb
        simp only [pd, PyData.eqv]
        rw [niceL_eqv ha hb]
        exact ⟨fun e => by rw [e], fun e => by cases e; rfl⟩
    | bl _ => cases m <;> (unfold nice at hb; cases hb)
    | dct _ _ => cases m <;> (unfold nice at hb; cases hb)
    | ins _ _ => cases m <;> (unfold nice at hb; cases hb)
    | lam _ => cases m <;> (unfold nice at hb; cases hb)
    | fn _ _ => cases m <;> (unfold nice at hb; cases hb)
    | exc _ _ => cases m <;> (unfold nice at hb; cases hb)
    | _ => simp only [pd, PyData.eqv]; exact ⟨fun e => (by cases e), fun e => (by cases e)⟩
  | n + 1, _, .bl _, _, h, _ => by unfold nice at h; cases h
  | n + 1, _, .dct _ _, _, h, _ => by unfold nice at h; cases h
  | n + 1, _, .ins _ _, _, h, _ => by unfold nice at h; cases h
  | n + 1, _, .lam _, _, h, _ => by unfold nice at h; cases h
  | n + 1, _, .fn _ _, _, h, _ => by unfold nice at h; cases h
  | n + 1, _, .exc _ _, _, h, _ => by unfold nice at h; cases h
theorem niceL_eqv : ∀ {n m : Nat} {as bs : List D}, niceL n as = true → niceL m bs = true → (PyData.eqvAll (pdL as) (pdL bs) = true ↔ as = bs)
  | _, _, [], [], _, _ => by simp only [pdL, PyData.eqvAll]
  | _, _, [], _ :: _, _, _ => by simp only [pdL, PyData.eqvAll]; exact ⟨fun e => (by cases e), fun e => (by cases e)⟩
  | _, _, _ :: _, [], _, _ => by simp only [pdL, PyData.eqvAll]; exact ⟨fun e => (by cases e), fun e => (by cases e)⟩
  | n, m, a :: as, b :: bs, ha, hb => by
    unfold niceL at ha hb
    rw [Bool.and_eq_true_iff] at ha hb
    simp only [pdL, PyData.eqvAll]
    rw [Bool.and_eq_true_iff, nice_eqv ha.1 hb.1, niceL_eqv ha.2 hb.2, List.cons.injEq]
end
/-- == of data without truth values -/
theorem nice_eqB {a b : D} (ha : nice 60 a = true) (hb : nice 60 b = true) : ∃ c, eqB a b = some c ∧ (c = true ↔ a = b) := by
  unfold eqB
  by_cases hs : scalD a b = true
  · rw [if_pos hs]
    refine ⟨_, rfl, ?_⟩
    cases a <;> cases b <;> first
      | (exfalso; simp [scalD] at hs; done)
      | (simp [eqS]; done)
  · rw [if_neg hs, if_pos ⟨nice_shp ha (by decide), nice_shp hb (by decide)⟩]
    exact ⟨_, rfl, nice_eqv ha hb⟩
theorem okC_nm {s : List Nat} (h : isNm s = true) : okC s = true := by
  unfold isNm at h
  rw [Bool.and_eq_true_iff] at h
  refine List.all_eq_true.mpr fun c hc => decide_eq_true ?_
  have : isLw c = true := List.all_eq_true.mp h.2 c hc
  have := of_decide_eq_true this
  omega
theorem okC_op (o : Op) : okC (opC o) = true := by cases o <;> decide +kernel
theorem enc_nice : ∀ {t : Tm}, t.good = true → nice (t.deep + 1) (encD t) = true
  | .atom s, h => by
    have q : okC (cp "atom") = true := by decide +kernel
    simp [encD, nice, niceL, Tm.deep, q, okC_nm h]
  | .fls, _ => by
    have q : okC (cp "false") = true := by decide +kernel
    simp [encD, nice, niceL, Tm.deep, q]
  | .hole _, h => by cases h
  | .part _, h => by cases h
  | .bin o a b, h => by
    unfold Tm.good at h
    rw [Bool.and_eq_true_iff] at h
    have h1 := nice_mono (enc_nice h.1) (show a.deep + 1 ≤ max a.deep b.deep + 1 by omega)
    have h2 := nice_mono (enc_nice h.2) (show b.deep + 1 ≤ max a.deep b.deep + 1 by omega)
    simp [encD, nice, niceL, Tm.deep, okC_op, h1, h2]
theorem opC_inj {o o' : Op} (h : opC o = opC o') : o = o' := by
  cases o <;> cases o' <;> first | rfl | exact absurd h (by decide +kernel)
theorem encD_inj : ∀ {a b : Tm}, a.good = true → b.good = true → encD a = encD b → a = b
  | .atom s, .atom t, _, _, h => by unfold encD at h; injection h with h; injection h with _ h; injection h with h; injection h with h; rw [h]
  | .fls, .fls, _, _, _ => rfl
  | .atom s, .fls, _, _, h => by unfold encD at h; injection h with h; injection h with _ h; cases h
  | .fls, .atom s, _, _, h => by unfold encD at h; injection h with h; injection h with _ h; cases h
  | .bin _ _ _, .fls, _, _, h => by unfold encD at h; injection h with h; injection h with _ h; cases h
  | .fls, .bin _ _ _, _, _, h => by unfold encD at h; injection h with h; injection h with _ h; cases h
  | .bin _ _ _, .atom _, _, _, h => by unfold encD at h; injection h with h; injection h with _ h; injection h with _ h; cases h
  | .atom _, .bin _ _ _, _, _, h => by unfold encD at h; injection h with h; injection h with _ h; injection h with _ h; cases h
  | .bin o a b, .bin o' a' b', h1, h2, h => by
    unfold Tm.good at h1 h2
    rw [Bool.and_eq_true_iff] at h1 h2
    unfold encD at h
    injection h with h
    injection h with e h
    injection h with e1 h
    injection h with e2 h
    injection e with e
    rw [opC_inj e, encD_inj h1.1 h2.1 e1, encD_inj h1.2 h2.2 e2]
  | .hole _, _, h, _, _ => by cases h
  | .part _, _, h, _, _ => by cases h
  | _, .hole _, _, h, _ => by cases h
  | _, .part _, _, h, _ => by cases h
theorem row_nice {r : Row} {n : Nat} (h : r.ok n) (hn : n ≤ 20) : nice 23 r.d = true := by
  have h1 := nice_mono (enc_nice h.2.1) (show r.t.deep + 1 ≤ 22 by have := h.2.2; omega)
  simp [Row.d, rowD, nice, niceL, okC_nm h.1, h1]
theorem row_inj {r q : Row} {n : Nat} (h : r.ok n) (h' : q.ok n) (e : r.d = q.d) : r = q := by
  unfold Row.d rowD at e
  injection e with e
  injection e with e1 e
  injection e with e2 e
  injection e1 with e1
  obtain ⟨z, t⟩ := r
  obtain ⟨z', t'⟩ := q
  rw [show z = z' from e1, show t = t' from encD_inj h.2.1 h'.2.1 e2]
theorem row_eqB {r q : Row} {n : Nat} (hn : n ≤ 20) (h : r.ok n) (h' : q.ok n) : eqB r.d q.d = some (decide (r = q)) := by
  obtain ⟨c, e, hc⟩ := nice_eqB (nice_mono (row_nice h hn) (by decide)) (nice_mono (row_nice h' hn) (by decide))
  rw [e]
  congr 1
  by_cases hrq : r = q
  · rw [decide_eq_true hrq]
    exact hc.mpr (by rw [hrq])
  · rw [decide_eq_false hrq]
    cases c with
    | false => rfl
    | true => exact absurd (row_inj h h' (hc.mp rfl)) hrq

end
end Ag
namespace Ag
open PySem L2
open C8 (pss_cut tCut)
section
variable {P : Program} {w : World} {K : PySem.W.Frag} {mg : Str → Option Value} {base : Heap} {cs : List (Str × Addr)}
def Tm.size : Tm → Nat
  | .bin _ a b => a.size + b.size + 1
  | _ => 1
theorem fIn_pairs {l : List Nat} : fIn (.str l) (tupS ["then", "and", "or"]) = some (.bl (["then", "and", "or"].any fun s => decide (cp s = l))) := fIn_S

end
end Ag
namespace Ag
open PySem L2
open C8 (pss_cut tCut)
section
variable {P : Program} {w : World} {K : PySem.W.Frag} {mg : Str → Option Value} {base : Heap} {cs : List (Str × Addr)}
/-! texts of formulas -/
def sgn : Op → Nat
  | .th => 62
  | .an => 38
  | .or => 124
def wr : Tm → List Nat
  | .atom s => s
  | .fls => [48]
  | .hole s => 63 :: s
  | .part n => 36 :: numS n
  | .bin o a b => 40 :: (wr a ++ (32 :: sgn o :: 32 :: (wr b ++ [41])))
def Tm.tx : Tm → Bool
  | .atom s => isNm s
  | .fls => true
  | .hole s => s.all isLw
  | .part _ => false
  | .bin _ a b => a.tx && b.tx
theorem good_tx : ∀ {t : Tm}, t.good = true → t.tx = true
  | .atom s, h => h
  | .fls, _ => rfl
  | .hole _, h => by cases h
  | .part _, h => by cases h
  | .bin _ a b, h => by
    unfold Tm.good at h
    rw [Bool.and_eq_true_iff] at h
    unfold Tm.tx
    rw [good_tx h.1, good_tx h.2]; rfl
theorem cp_lp : cp "\x28" = [40] := rfl
theorem cp_rp : cp "\x29" = [41] := rfl
theorem cp_sp : cp " " = [32] := rfl
theorem cp_0 : cp "0" = [48] := rfl
theorem cp_q : cp "?" = [63] := rfl
theorem cp_gt : cp ">" = [62] := rfl
theorem cp_am : cp "&" = [38] := rfl
theorem cp_ba : cp "|" = [124] := rfl
theorem cp_e : cp "" = [] := rfl
theorem kd_sgn (o : Op) : fKd [("then", ">"), ("and", "&"), ("or", "|")] (.str (opC o)) = some (.str [sgn o]) := by cases o <;> rfl
theorem T_written_eq {X : Xc → Prop} : ∀ {n : Nat} {t : Tm} {R : D → Prop}, t.tx = true → t.deep < n → (wr t).length ≤ 100000 → R (.str (wr t)) → T_written n [.dat (encD t)] R X
  | 0, _, _, _, h, _, _ => absurd h (Nat.not_lt_zero _)
  | n + 1, .atom s, R, hx, hn, hl, hR => by
    unfold T_written
    have p : (["then", "and", "or"].any fun z => decide (cp z = cp "atom")) = false := by decide +kernel
    simp only [wipeE, fIx_0, fIx_1, fIx_2, fEq_str, fNe_str, fEq_int, fNe_int, fEq_bl, fNe_bl, isNon, decide_true, decide_false, eq_self, dSeq, dNext, dRet, dRetN, dDrop, dIfS, dNever, dAsg, dPar, dPar3, dName, dgTup, dgCons, dgNil, dFor, dForL, dVar, dC, dOp, dUn, dNil, dCons, dBagA, dStar, dCB, dTup, dLst, dB, dAnd, dOr, dNot, dIf, dAndV, dOrV, dNotV, dChain, dIsN, dNotN, dIsi, dIsi2, dSl, dPart, dNoPart, dLc, dYes, dCall, dCallN, dDef, dMeth, dMethK, dMethR, dMake, dMakeK, dOwn, dInit, dSetF, dFldO, itemsL, itemsT, itemsS, itemsR1, itemsR2, itemsZ, itemsE, dJoin, dJoined, dJs, dAug, dOwnL, dAppend, dExtend, dPop, starT, datL, ok_some, ok_none, List.length_cons, List.length_nil, List.replicate_succ, List.replicate_zero, List.cons_append, List.nil_append, List.append_nil, List.getElem?_cons_zero, List.getElem?_cons_succ, List.getElem?_nil, List.set_cons_zero, List.set_cons_succ, List.set_nil, List.map_cons, List.map_nil, Option.map_some, Option.map_none, Option.bind_some, Option.bind_none, if_true, if_false, true_and, and_true, Bool.not_true, Bool.not_false, reduceIte, Bool.false_eq_true, Bool.true_or, Bool.or_true, Bool.true_and, Bool.and_true, Bool.false_and, Bool.and_false, Bool.false_or, Bool.or_false, String.reduceBEq, Int.cast_ofNat_Int, Int.reduceEq, Int.reduceLE, Int.reduceLT, Int.reduceNeg, Int.reduceAdd, Int.reduceSub, Bool.not_eq_true, inB_S, fIn_S, fNotIn_S,  Nat.reduceAdd, List.take_succ_cons, List.take_zero, List.drop_succ_cons, List.drop_zero, Nat.reduceEqDiff, Nat.reduceLeDiff, Nat.zero_le, isIns, fFld, beq_self_eq_true, encD, fIn_pairs, p, wne_atom_false, wne_atom_hole, wne_atom_part, wne_false_atom, wne_false_hole, wne_false_part, wne_hole_atom, wne_hole_false, wne_hole_part, wne_part_atom, wne_part_false, wne_part_hole]
    exact hR
  | n + 1, .fls, R, hx, hn, hl, hR => by
    unfold T_written
    have p : (["then", "and", "or"].any fun z => decide (cp z = cp "false")) = false := by decide +kernel
    simp only [wipeE, fIx_0, fIx_1, fIx_2, fEq_str, fNe_str, fEq_int, fNe_int, fEq_bl, fNe_bl, isNon, decide_true, decide_false, eq_self, dSeq, dNext, dRet, dRetN, dDrop, dIfS, dNever, dAsg, dPar, dPar3, dName, dgTup, dgCons, dgNil, dFor, dForL, dVar, dC, dOp, dUn, dNil, dCons, dBagA, dStar, dCB, dTup, dLst, dB, dAnd, dOr, dNot, dIf, dAndV, dOrV, dNotV, dChain, dIsN, dNotN, dIsi, dIsi2, dSl, dPart, dNoPart, dLc, dYes, dCall, dCallN, dDef, dMeth, dMethK, dMethR, dMake, dMakeK, dOwn, dInit, dSetF, dFldO, itemsL, itemsT, itemsS, itemsR1, itemsR2, itemsZ, itemsE, dJoin, dJoined, dJs, dAug, dOwnL, dAppend, dExtend, dPop, starT, datL, ok_some, ok_none, List.length_cons, List.length_nil, List.replicate_succ, List.replicate_zero, List.cons_append, List.nil_append, List.append_nil, List.getElem?_cons_zero, List.getElem?_cons_succ, List.getElem?_nil, List.set_cons_zero, List.set_cons_succ, List.set_nil, List.map_cons, List.map_nil, Option.map_some, Option.map_none, Option.bind_some, Option.bind_none, if_true, if_false, true_and, and_true, Bool.not_true, Bool.not_false, reduceIte, Bool.false_eq_true, Bool.true_or, Bool.or_true, Bool.true_and, Bool.and_true, Bool.false_and, Bool.and_false, Bool.false_or, Bool.or_false, String.reduceBEq, Int.cast_ofNat_Int, Int.reduceEq, Int.reduceLE, Int.reduceLT, Int.reduceNeg, Int.reduceAdd, Int.reduceSub, Bool.not_eq_true, inB_S, fIn_S, fNotIn_S,  Nat.reduceAdd, List.take_succ_cons, List.take_zero, List.drop_succ_cons, List.drop_zero, Nat.reduceEqDiff, Nat.reduceLeDiff, Nat.zero_le, isIns, fFld, beq_self_eq_true, encD, fIn_pairs, p]
    exact hR
  | n + 1, .hole s, R, hx, hn, hl, hR => by
    unfold T_written
    have p : (["then", "and", "or"].any fun z => decide (cp z = cp "hole")) = false := by decide +kernel
    have hl' : (cp "?").length + s.length ≤ 1000000 := by
      unfold wr at hl
      rw [List.length_cons] at hl
      rw [cp_q, List.length_singleton]
      omega
    simp only [wipeE, fIx_0, fIx_1, fIx_2, fEq_str, fNe_str, fEq_int, fNe_int, fEq_bl, fNe_bl, isNon, decide_true, decide_false, eq_self, dSeq, dNext, dRet, dRetN, dDrop, dIfS, dNever, dAsg, dPar, dPar3, dName, dgTup, dgCons, dgNil, dFor, dForL, dVar, dC, dOp, dUn, dNil, dCons, dBagA, dStar, dCB, dTup, dLst, dB, dAnd, dOr, dNot, dIf, dAndV, dOrV, dNotV, dChain, dIsN, dNotN, dIsi, dIsi2, dSl, dPart, dNoPart, dLc, dYes, dCall, dCallN, dDef, dMeth, dMethK, dMethR, dMake, dMakeK, dOwn, dInit, dSetF, dFldO, itemsL, itemsT, itemsS, itemsR1, itemsR2, itemsZ, itemsE, dJoin, dJoined, dJs, dAug, dOwnL, dAppend, dExtend, dPop, starT, datL, ok_some, ok_none, List.length_cons, List.length_nil, List.replicate_succ, List.replicate_zero, List.cons_append, List.nil_append, List.append_nil, List.getElem?_cons_zero, List.getElem?_cons_succ, List.getElem?_nil, List.set_cons_zero, List.set_cons_succ, List.set_nil, List.map_cons, List.map_nil, Option.map_some, Option.map_none, Option.bind_some, Option.bind_none, if_true, if_false, true_and, and_true, Bool.not_true, Bool.not_false, reduceIte, Bool.false_eq_true, Bool.true_or, Bool.or_true, Bool.true_and, Bool.and_true, Bool.false_and, Bool.and_false, Bool.false_or, Bool.or_false, String.reduceBEq, Int.cast_ofNat_Int, Int.reduceEq, Int.reduceLE, Int.reduceLT, Int.reduceNeg, Int.reduceAdd, Int.reduceSub, Bool.not_eq_true, inB_S, fIn_S, fNotIn_S,  Nat.reduceAdd, List.take_succ_cons, List.take_zero, List.drop_succ_cons, List.drop_zero, Nat.reduceEqDiff, Nat.reduceLeDiff, Nat.zero_le, isIns, fFld, beq_self_eq_true, encD, fIn_pairs, p, wne_atom_false, wne_atom_hole, wne_atom_part, wne_false_atom, wne_false_hole, wne_false_part, wne_hole_atom, wne_hole_false, wne_hole_part, wne_part_atom, wne_part_false, wne_part_hole, fAdd_str hl']
    exact hR
  | n + 1, .bin o a b, R, hx, hn, hl, hR => by
    unfold T_written
    unfold Tm.tx at hx
    rw [Bool.and_eq_true_iff] at hx
    unfold Tm.deep at hn
    unfold wr at hl hR
    simp only [List.length_cons, List.length_append, List.length_nil] at hl
    have p := pairs_op o
    simp only [wipeE, fIx_0, fIx_1, fIx_2, fEq_str, fNe_str, fEq_int, fNe_int, fEq_bl, fNe_bl, isNon, decide_true, decide_false, eq_self, dSeq, dNext, dRet, dRetN, dDrop, dIfS, dNever, dAsg, dPar, dPar3, dName, dgTup, dgCons, dgNil, dFor, dForL, dVar, dC, dOp, dUn, dNil, dCons, dBagA, dStar, dCB, dTup, dLst, dB, dAnd, dOr, dNot, dIf, dAndV, dOrV, dNotV, dChain, dIsN, dNotN, dIsi, dIsi2, dSl, dPart, dNoPart, dLc, dYes, dCall, dCallN, dDef, dMeth, dMethK, dMethR, dMake, dMakeK, dOwn, dInit, dSetF, dFldO, itemsL, itemsT, itemsS, itemsR1, itemsR2, itemsZ, itemsE, dJoin, dJoined, dJs, dAug, dOwnL, dAppend, dExtend, dPop, starT, datL, ok_some, ok_none, List.length_cons, List.length_nil, List.replicate_succ, List.replicate_zero, List.cons_append, List.nil_append, List.append_nil, List.getElem?_cons_zero, List.getElem?_cons_succ, List.getElem?_nil, List.set_cons_zero, List.set_cons_succ, List.set_nil, List.map_cons, List.map_nil, Option.map_some, Option.map_none, Option.bind_some, Option.bind_none, if_true, if_false, true_and, and_true, Bool.not_true, Bool.not_false, reduceIte, Bool.false_eq_true, Bool.true_or, Bool.or_true, Bool.true_and, Bool.and_true, Bool.false_and, Bool.and_false, Bool.false_or, Bool.or_false, String.reduceBEq, Int.cast_ofNat_Int, Int.reduceEq, Int.reduceLE, Int.reduceLT, Int.reduceNeg, Int.reduceAdd, Int.reduceSub, Bool.not_eq_true, inB_S, fIn_S, fNotIn_S,  Nat.reduceAdd, List.take_succ_cons, List.take_zero, List.drop_succ_cons, List.drop_zero, Nat.reduceEqDiff, Nat.reduceLeDiff, Nat.zero_le, isIns, fFld, beq_self_eq_true, encD, fIn_pairs, p, cp_lp, cp_sp, cp_rp]
    refine T_written_eq hx.1 (by omega) (by omega) ?_
    have f1 : fFmt (.str (wr a)) = some (.str (wr a)) := by unfold fFmt; dsimp only; rw [if_pos (by omega)]
    have f2 : fFmt (.str [sgn o]) = some (.str [sgn o]) := rfl
    have f3 : fFmt (.str (wr b)) = some (.str (wr b)) := by unfold fFmt; dsimp only; rw [if_pos (by omega)]
    simp only [wipeE, fIx_0, fIx_1, fIx_2, fEq_str, fNe_str, fEq_int, fNe_int, fEq_bl, fNe_bl, isNon, decide_true, decide_false, eq_self, dSeq, dNext, dRet, dRetN, dDrop, dIfS, dNever, dAsg, dPar, dPar3, dName, dgTup, dgCons, dgNil, dFor, dForL, dVar, dC, dOp, dUn, dNil, dCons, dBagA, dStar, dCB, dTup, dLst, dB, dAnd, dOr, dNot, dIf, dAndV, dOrV, dNotV, dChain, dIsN, dNotN, dIsi, dIsi2, dSl, dPart, dNoPart, dLc, dYes, dCall, dCallN, dDef, dMeth, dMethK, dMethR, dMake, dMakeK, dOwn, dInit, dSetF, dFldO, itemsL, itemsT, itemsS, itemsR1, itemsR2, itemsZ, itemsE, dJoin, dJoined, dJs, dAug, dOwnL, dAppend, dExtend, dPop, starT, datL, ok_some, ok_none, List.length_cons, List.length_nil, List.replicate_succ, List.replicate_zero, List.cons_append, List.nil_append, List.append_nil, List.getElem?_cons_zero, List.getElem?_cons_succ, List.getElem?_nil, List.set_cons_zero, List.set_cons_succ, List.set_nil, List.map_cons, List.map_nil, Option.map_some, Option.map_none, Option.bind_some, Option.bind_none, if_true, if_false, true_and, and_true, Bool.not_true, Bool.not_false, reduceIte, Bool.false_eq_true, Bool.true_or, Bool.or_true, Bool.true_and, Bool.and_true, Bool.false_and, Bool.and_false, Bool.false_or, Bool.or_false, String.reduceBEq, Int.cast_ofNat_Int, Int.reduceEq, Int.reduceLE, Int.reduceLT, Int.reduceNeg, Int.reduceAdd, Int.reduceSub, Bool.not_eq_true, inB_S, fIn_S, fNotIn_S,  Nat.reduceAdd, List.take_succ_cons, List.take_zero, List.drop_succ_cons, List.drop_zero, Nat.reduceEqDiff, Nat.reduceLeDiff, Nat.zero_le, isIns, fFld, beq_self_eq_true, f1, kd_sgn, f2]
    refine ⟨by first | omega | (simp; omega), by first | omega | (simp; omega), by first | omega | (simp; omega), by first | omega | (simp; omega), ?_⟩
    refine T_written_eq hx.2 (by omega) (by omega) ?_
    simp only [wipeE, fIx_0, fIx_1, fIx_2, fEq_str, fNe_str, fEq_int, fNe_int, fEq_bl, fNe_bl, isNon, decide_true, decide_false, eq_self, dSeq, dNext, dRet, dRetN, dDrop, dIfS, dNever, dAsg, dPar, dPar3, dName, dgTup, dgCons, dgNil, dFor, dForL, dVar, dC, dOp, dUn, dNil, dCons, dBagA, dStar, dCB, dTup, dLst, dB, dAnd, dOr, dNot, dIf, dAndV, dOrV, dNotV, dChain, dIsN, dNotN, dIsi, dIsi2, dSl, dPart, dNoPart, dLc, dYes, dCall, dCallN, dDef, dMeth, dMethK, dMethR, dMake, dMakeK, dOwn, dInit, dSetF, dFldO, itemsL, itemsT, itemsS, itemsR1, itemsR2, itemsZ, itemsE, dJoin, dJoined, dJs, dAug, dOwnL, dAppend, dExtend, dPop, starT, datL, ok_some, ok_none, List.length_cons, List.length_nil, List.replicate_succ, List.replicate_zero, List.cons_append, List.nil_append, List.append_nil, List.getElem?_cons_zero, List.getElem?_cons_succ, List.getElem?_nil, List.set_cons_zero, List.set_cons_succ, List.set_nil, List.map_cons, List.map_nil, Option.map_some, Option.map_none, Option.bind_some, Option.bind_none, if_true, if_false, true_and, and_true, Bool.not_true, Bool.not_false, reduceIte, Bool.false_eq_true, Bool.true_or, Bool.or_true, Bool.true_and, Bool.and_true, Bool.false_and, Bool.and_false, Bool.false_or, Bool.or_false, String.reduceBEq, Int.cast_ofNat_Int, Int.reduceEq, Int.reduceLE, Int.reduceLT, Int.reduceNeg, Int.reduceAdd, Int.reduceSub, Bool.not_eq_true, inB_S, fIn_S, fNotIn_S,  Nat.reduceAdd, List.take_succ_cons, List.take_zero, List.drop_succ_cons, List.drop_zero, Nat.reduceEqDiff, Nat.reduceLeDiff, Nat.zero_le, isIns, fFld, beq_self_eq_true, f3]
    refine ⟨by first | omega | (simp; omega), by first | omega | (simp; omega), ?_⟩
    simpa using hR
theorem T_lawtext_eq {X : Xc → Prop} : ∀ {n : Nat} {t : Tm} {R : D → Prop}, t.tx = true → t.deep < n → (wr t).length ≤ 100000 → R (.str (wr t)) → T__law_text n [.dat (encD t)] R X
  | 0, _, _, _, h, _, _ => absurd h (Nat.not_lt_zero _)
  | n + 1, .atom s, R, hx, hn, hl, hR => by
    unfold T__law_text
    have tp : D.tup [.str (cp "then"), .str (cp "and"), .str (cp "or")] = tupS ["then", "and", "or"] := rfl
    have p : (["then", "and", "or"].any fun z => decide (cp z = cp "atom")) = false := by decide +kernel
    unfold wr at hl
    have hl' : (cp "").length + s.length ≤ 1000000 := by rw [cp_e, List.length_nil]; omega
    simp only [wipeE, fIx_0, fIx_1, fIx_2, fEq_str, fNe_str, fEq_int, fNe_int, fEq_bl, fNe_bl, isNon, decide_true, decide_false, eq_self, dSeq, dNext, dRet, dRetN, dDrop, dIfS, dNever, dAsg, dPar, dPar3, dName, dgTup, dgCons, dgNil, dFor, dForL, dVar, dC, dOp, dUn, dNil, dCons, dBagA, dStar, dCB, dTup, dLst, dB, dAnd, dOr, dNot, dIf, dAndV, dOrV, dNotV, dChain, dIsN, dNotN, dIsi, dIsi2, dSl, dPart, dNoPart, dLc, dYes, dCall, dCallN, dDef, dMeth, dMethK, dMethR, dMake, dMakeK, dOwn, dInit, dSetF, dFldO, itemsL, itemsT, itemsS, itemsR1, itemsR2, itemsZ, itemsE, dJoin, dJoined, dJs, dAug, dOwnL, dAppend, dExtend, dPop, starT, datL, ok_some, ok_none, List.length_cons, List.length_nil, List.replicate_succ, List.replicate_zero, List.cons_append, List.nil_append, List.append_nil, List.getElem?_cons_zero, List.getElem?_cons_succ, List.getElem?_nil, List.set_cons_zero, List.set_cons_succ, List.set_nil, List.map_cons, List.map_nil, Option.map_some, Option.map_none, Option.bind_some, Option.bind_none, if_true, if_false, true_and, and_true, Bool.not_true, Bool.not_false, reduceIte, Bool.false_eq_true, Bool.true_or, Bool.or_true, Bool.true_and, Bool.and_true, Bool.false_and, Bool.and_false, Bool.false_or, Bool.or_false, String.reduceBEq, Int.cast_ofNat_Int, Int.reduceEq, Int.reduceLE, Int.reduceLT, Int.reduceNeg, Int.reduceAdd, Int.reduceSub, Bool.not_eq_true, inB_S, fIn_S, fNotIn_S,  Nat.reduceAdd, List.take_succ_cons, List.take_zero, List.drop_succ_cons, List.drop_zero, Nat.reduceEqDiff, Nat.reduceLeDiff, Nat.zero_le, isIns, fFld, beq_self_eq_true, encD, tp, fIn_pairs, p, wne_atom_false, wne_atom_hole, wne_atom_part, wne_false_atom, wne_false_hole, wne_false_part, wne_hole_atom, wne_hole_false, wne_hole_part, wne_part_atom, wne_part_false, wne_part_hole, fAdd_str hl']
    exact hR
  | n + 1, .fls, R, hx, hn, hl, hR => by
    unfold T__law_text
    have tp : D.tup [.str (cp "then"), .str (cp "and"), .str (cp "or")] = tupS ["then", "and", "or"] := rfl
    have p : (["then", "and", "or"].any fun z => decide (cp z = cp "false")) = false := by decide +kernel
    simp only [wipeE, fIx_0, fIx_1, fIx_2, fEq_str, fNe_str, fEq_int, fNe_int, fEq_bl, fNe_bl, isNon, decide_true, decide_false, eq_self, dSeq, dNext, dRet, dRetN, dDrop, dIfS, dNever, dAsg, dPar, dPar3, dName, dgTup, dgCons, dgNil, dFor, dForL, dVar, dC, dOp, dUn, dNil, dCons, dBagA, dStar, dCB, dTup, dLst, dB, dAnd, dOr, dNot, dIf, dAndV, dOrV, dNotV, dChain, dIsN, dNotN, dIsi, dIsi2, dSl, dPart, dNoPart, dLc, dYes, dCall, dCallN, dDef, dMeth, dMethK, dMethR, dMake, dMakeK, dOwn, dInit, dSetF, dFldO, itemsL, itemsT, itemsS, itemsR1, itemsR2, itemsZ, itemsE, dJoin, dJoined, dJs, dAug, dOwnL, dAppend, dExtend, dPop, starT, datL, ok_some, ok_none, List.length_cons, List.length_nil, List.replicate_succ, List.replicate_zero, List.cons_append, List.nil_append, List.append_nil, List.getElem?_cons_zero, List.getElem?_cons_succ, List.getElem?_nil, List.set_cons_zero, List.set_cons_succ, List.set_nil, List.map_cons, List.map_nil, Option.map_some, Option.map_none, Option.bind_some, Option.bind_none, if_true, if_false, true_and, and_true, Bool.not_true, Bool.not_false, reduceIte, Bool.false_eq_true, Bool.true_or, Bool.or_true, Bool.true_and, Bool.and_true, Bool.false_and, Bool.and_false, Bool.false_or, Bool.or_false, String.reduceBEq, Int.cast_ofNat_Int, Int.reduceEq, Int.reduceLE, Int.reduceLT, Int.reduceNeg, Int.reduceAdd, Int.reduceSub, Bool.not_eq_true, inB_S, fIn_S, fNotIn_S,  Nat.reduceAdd, List.take_succ_cons, List.take_zero, List.drop_succ_cons, List.drop_zero, Nat.reduceEqDiff, Nat.reduceLeDiff, Nat.zero_le, isIns, fFld, beq_self_eq_true, encD, tp, fIn_pairs, p]
    exact hR
  | n + 1, .hole s, R, hx, hn, hl, hR => by
    unfold T__law_text
    have tp : D.tup [.str (cp "then"), .str (cp "and"), .str (cp "or")] = tupS ["then", "and", "or"] := rfl
    have p : (["then", "and", "or"].any fun z => decide (cp z = cp "hole")) = false := by decide +kernel
    have hl' : (cp "?").length + s.length ≤ 1000000 := by
      unfold wr at hl
      rw [List.length_cons] at hl
      rw [cp_q, List.length_singleton]
      omega
    simp only [wipeE, fIx_0, fIx_1, fIx_2, fEq_str, fNe_str, fEq_int, fNe_int, fEq_bl, fNe_bl, isNon, decide_true, decide_false, eq_self, dSeq, dNext, dRet, dRetN, dDrop, dIfS, dNever, dAsg, dPar, dPar3, dName, dgTup, dgCons, dgNil, dFor, dForL, dVar, dC, dOp, dUn, dNil, dCons, dBagA, dStar, dCB, dTup, dLst, dB, dAnd, dOr, dNot, dIf, dAndV, dOrV, dNotV, dChain, dIsN, dNotN, dIsi, dIsi2, dSl, dPart, dNoPart, dLc, dYes, dCall, dCallN, dDef, dMeth, dMethK, dMethR, dMake, dMakeK, dOwn, dInit, dSetF, dFldO, itemsL, itemsT, itemsS, itemsR1, itemsR2, itemsZ, itemsE, dJoin, dJoined, dJs, dAug, dOwnL, dAppend, dExtend, dPop, starT, datL, ok_some, ok_none, List.length_cons, List.length_nil, List.replicate_succ, List.replicate_zero, List.cons_append, List.nil_append, List.append_nil, List.getElem?_cons_zero, List.getElem?_cons_succ, List.getElem?_nil, List.set_cons_zero, List.set_cons_succ, List.set_nil, List.map_cons, List.map_nil, Option.map_some, Option.map_none, Option.bind_some, Option.bind_none, if_true, if_false, true_and, and_true, Bool.not_true, Bool.not_false, reduceIte, Bool.false_eq_true, Bool.true_or, Bool.or_true, Bool.true_and, Bool.and_true, Bool.false_and, Bool.and_false, Bool.false_or, Bool.or_false, String.reduceBEq, Int.cast_ofNat_Int, Int.reduceEq, Int.reduceLE, Int.reduceLT, Int.reduceNeg, Int.reduceAdd, Int.reduceSub, Bool.not_eq_true, inB_S, fIn_S, fNotIn_S,  Nat.reduceAdd, List.take_succ_cons, List.take_zero, List.drop_succ_cons, List.drop_zero, Nat.reduceEqDiff, Nat.reduceLeDiff, Nat.zero_le, isIns, fFld, beq_self_eq_true, encD, tp, fIn_pairs, p, wne_atom_false, wne_atom_hole, wne_atom_part, wne_false_atom, wne_false_hole, wne_false_part, wne_hole_atom, wne_hole_false, wne_hole_part, wne_part_atom, wne_part_false, wne_part_hole, fAdd_str hl']
    exact hR
  | n + 1, .bin o a b, R, hx, hn, hl, hR => by
    unfold T__law_text
    unfold Tm.tx at hx
    rw [Bool.and_eq_true_iff] at hx
    unfold Tm.deep at hn
    unfold wr at hl hR
    simp only [List.length_cons, List.length_append, List.length_nil] at hl
    have tp : D.tup [.str (cp "then"), .str (cp "and"), .str (cp "or")] = tupS ["then", "and", "or"] := rfl
    have p := pairs_op o
    cases o
    all_goals
      simp only [wipeE, fIx_0, fIx_1, fIx_2, fEq_str, fNe_str, fEq_int, fNe_int, fEq_bl, fNe_bl, isNon, decide_true, decide_false, eq_self, dSeq, dNext, dRet, dRetN, dDrop, dIfS, dNever, dAsg, dPar, dPar3, dName, dgTup, dgCons, dgNil, dFor, dForL, dVar, dC, dOp, dUn, dNil, dCons, dBagA, dStar, dCB, dTup, dLst, dB, dAnd, dOr, dNot, dIf, dAndV, dOrV, dNotV, dChain, dIsN, dNotN, dIsi, dIsi2, dSl, dPart, dNoPart, dLc, dYes, dCall, dCallN, dDef, dMeth, dMethK, dMethR, dMake, dMakeK, dOwn, dInit, dSetF, dFldO, itemsL, itemsT, itemsS, itemsR1, itemsR2, itemsZ, itemsE, dJoin, dJoined, dJs, dAug, dOwnL, dAppend, dExtend, dPop, starT, datL, ok_some, ok_none, List.length_cons, List.length_nil, List.replicate_succ, List.replicate_zero, List.cons_append, List.nil_append, List.append_nil, List.getElem?_cons_zero, List.getElem?_cons_succ, List.getElem?_nil, List.set_cons_zero, List.set_cons_succ, List.set_nil, List.map_cons, List.map_nil, Option.map_some, Option.map_none, Option.bind_some, Option.bind_none, if_true, if_false, true_and, and_true, Bool.not_true, Bool.not_false, reduceIte, Bool.false_eq_true, Bool.true_or, Bool.or_true, Bool.true_and, Bool.and_true, Bool.false_and, Bool.and_false, Bool.false_or, Bool.or_false, String.reduceBEq, Int.cast_ofNat_Int, Int.reduceEq, Int.reduceLE, Int.reduceLT, Int.reduceNeg, Int.reduceAdd, Int.reduceSub, Bool.not_eq_true, inB_S, fIn_S, fNotIn_S,  Nat.reduceAdd, List.take_succ_cons, List.take_zero, List.drop_succ_cons, List.drop_zero, Nat.reduceEqDiff, Nat.reduceLeDiff, Nat.zero_le, isIns, fFld, beq_self_eq_true, encD, tp, fIn_pairs, p, cp_lp, cp_sp, cp_rp, opC, wne_then_and, wne_then_or, wne_and_then, wne_and_or, wne_or_then, wne_or_and, cp_gt, cp_am, cp_ba]
      refine T_lawtext_eq hx.1 (by omega) (by omega) ?_
      rw [fAdd_str (by simp; omega)]
      simp only [ok_some]
      rw [fAdd_str (by simp; omega)]
      simp only [ok_some]
      rw [fAdd_str (by simp; omega)]
      simp only [ok_some]
      rw [fAdd_str (by simp; omega)]
      simp only [ok_some]
      refine T_lawtext_eq hx.2 (by omega) (by omega) ?_
      rw [fAdd_str (by simp; omega)]
      simp only [ok_some]
      rw [fAdd_str (by simp; omega)]
      simp only [ok_some]
      simpa [sgn] using hR

end
end Ag
namespace Ag
open PySem L2
open C8 (pss_cut tCut)
section
variable {P : Program} {w : World} {K : PySem.W.Frag} {mg : Str → Option Value} {base : Heap} {cs : List (Str × Addr)}
/-! split_pair -/
def spT : DGt := (dgTup 2 (dgCons (dName 2) (dgCons (dName 3) dgNil)))
def spB : DS := (dSeq (dIfS (dB (dOp fEq (dVar 3) (dC (.str (cp "\x28"))))) (dAug 1 (fIp fun i j => i + j) (dC (.int 1))) (dIfS (dB (dOp fEq (dVar 3) (dC (.str (cp "\x29"))))) (dAug 1 (fIp fun i j => i - j) (dC (.int 1))) (dIfS (dAnd (dB (dOp fEq (dVar 3) (dC (.str (cp " "))))) (dAnd (dB (dOp fEq (dVar 1) (dC (.int 0)))) (dAnd (dB (dOp fEq (dSl (dVar 0) (dPart (dOp fAdd (dVar 2) (dC (.int 2)))) (dPart (dOp fAdd (dVar 2) (dC (.int 3))))) (dC (.str (cp " "))))) (dB (dUn (fKdIn [(">", "then"), ("&", "and"), ("|", "or")]) (dOp fIx (dVar 0) (dOp fAdd (dVar 2) (dC (.int 1))))))))) (dRet (dTup (dCons (dSl (dVar 0) dNoPart (dPart (dVar 2))) (dCons (dOp fIx (dVar 0) (dOp fAdd (dVar 2) (dC (.int 1)))) (dCons (dSl (dVar 0) (dPart (dOp fAdd (dVar 2) (dC (.int 3)))) dNoPart) dNil))))) dNext)))
    (dIfS (dB (dOp fLt (dVar 1) (dC (.int 0)))) (dRet (dC .non)) dNext))
def en (i : Nat) (l : List Nat) : List D := ((l.map fun c => D.str [c]).zipIdx i).map fun p => .tup [.int (p.2 : Nat), p.1]
theorem en_cons (i c : Nat) (l : List Nat) : en i (c :: l) = .tup [.int (i : Nat), .str [c]] :: en (i + 1) l := by simp [en]
theorem en_0 (l : List Nat) : enumL (l.map fun c => D.str [c]) = en 0 l := rfl
section
variable {G : DEn} {tx : List Nat}
theorem sp_open {i : Nat} {l : List Nat} {d : Nat} {u v : SV} (h : ∀ u v, dForL spT spB (en (i + 1) l) G [.dat (.str tx), .dat (.int ((d + 1 : Nat) : Int)), u, v]) : dForL spT spB (en i (40 :: l)) G [.dat (.str tx), .dat (.int (d : Nat)), u, v] := by
  rw [en_cons]
  have e : ((d : Nat) : Int) + 1 = ((d + 1 : Nat) : Int) := by omega
  have n : decide (((d + 1 : Nat) : Int) < 0) = false := decide_eq_false (by omega)
  unfold dForL
  unfold spT spB
  simp only [wipeE, fIx_0, fIx_1, fIx_2, fEq_str, fNe_str, fEq_int, fNe_int, fEq_bl, fNe_bl, isNon, decide_true, decide_false, eq_self, dSeq, dNext, dRet, dRetN, dDrop, dIfS, dNever, dAsg, dPar, dPar3, dName, dgTup, dgCons, dgNil, dFor, dForL, dVar, dC, dOp, dUn, dNil, dCons, dBagA, dStar, dCB, dTup, dLst, dB, dAnd, dOr, dNot, dIf, dAndV, dOrV, dNotV, dChain, dIsN, dNotN, dIsi, dIsi2, dSl, dPart, dNoPart, dLc, dYes, dCall, dCallN, dDef, dMeth, dMethK, dMethR, dMake, dMakeK, dOwn, dInit, dSetF, dFldO, itemsL, itemsT, itemsS, itemsR1, itemsR2, itemsZ, itemsE, dJoin, dJoined, dJs, dAug, dOwnL, dAppend, dExtend, dPop, starT, datL, ok_some, ok_none, List.length_cons, List.length_nil, List.replicate_succ, List.replicate_zero, List.cons_append, List.nil_append, List.append_nil, List.getElem?_cons_zero, List.getElem?_cons_succ, List.getElem?_nil, List.set_cons_zero, List.set_cons_succ, List.set_nil, List.map_cons, List.map_nil, Option.map_some, Option.map_none, Option.bind_some, Option.bind_none, if_true, if_false, true_and, and_true, Bool.not_true, Bool.not_false, reduceIte, Bool.false_eq_true, Bool.true_or, Bool.or_true, Bool.true_and, Bool.and_true, Bool.false_and, Bool.and_false, Bool.false_or, Bool.or_false, String.reduceBEq, Int.cast_ofNat_Int, Int.reduceEq, Int.reduceLE, Int.reduceLT, Int.reduceNeg, Int.reduceAdd, Int.reduceSub, Bool.not_eq_true, inB_S, fIn_S, fNotIn_S,  Nat.reduceAdd, List.take_succ_cons, List.take_zero, List.drop_succ_cons, List.drop_zero, Nat.reduceEqDiff, Nat.reduceLeDiff, Nat.zero_le, isIns, fFld, beq_self_eq_true, cp_lp]
  refine ⟨_, rfl, ?_⟩
  simp only [wipeE, fIx_0, fIx_1, fIx_2, fEq_str, fNe_str, fEq_int, fNe_int, fEq_bl, fNe_bl, isNon, decide_true, decide_false, eq_self, dSeq, dNext, dRet, dRetN, dDrop, dIfS, dNever, dAsg, dPar, dPar3, dName, dgTup, dgCons, dgNil, dFor, dForL, dVar, dC, dOp, dUn, dNil, dCons, dBagA, dStar, dCB, dTup, dLst, dB, dAnd, dOr, dNot, dIf, dAndV, dOrV, dNotV, dChain, dIsN, dNotN, dIsi, dIsi2, dSl, dPart, dNoPart, dLc, dYes, dCall, dCallN, dDef, dMeth, dMethK, dMethR, dMake, dMakeK, dOwn, dInit, dSetF, dFldO, itemsL, itemsT, itemsS, itemsR1, itemsR2, itemsZ, itemsE, dJoin, dJoined, dJs, dAug, dOwnL, dAppend, dExtend, dPop, starT, datL, ok_some, ok_none, List.length_cons, List.length_nil, List.replicate_succ, List.replicate_zero, List.cons_append, List.nil_append, List.append_nil, List.getElem?_cons_zero, List.getElem?_cons_succ, List.getElem?_nil, List.set_cons_zero, List.set_cons_succ, List.set_nil, List.map_cons, List.map_nil, Option.map_some, Option.map_none, Option.bind_some, Option.bind_none, if_true, if_false, true_and, and_true, Bool.not_true, Bool.not_false, reduceIte, Bool.false_eq_true, Bool.true_or, Bool.or_true, Bool.true_and, Bool.and_true, Bool.false_and, Bool.and_false, Bool.false_or, Bool.or_false, String.reduceBEq, Int.cast_ofNat_Int, Int.reduceEq, Int.reduceLE, Int.reduceLT, Int.reduceNeg, Int.reduceAdd, Int.reduceSub, Bool.not_eq_true, inB_S, fIn_S, fNotIn_S,  Nat.reduceAdd, List.take_succ_cons, List.take_zero, List.drop_succ_cons, List.drop_zero, Nat.reduceEqDiff, Nat.reduceLeDiff, Nat.zero_le, isIns, fFld, beq_self_eq_true, fIp, e, fLt, fInt, n]
  exact h _ _
theorem sp_close {i : Nat} {l : List Nat} {d : Nat} {u v : SV} (h : ∀ u v, dForL spT spB (en (i + 1) l) G [.dat (.str tx), .dat (.int (d : Nat)), u, v]) : dForL spT spB (en i (41 :: l)) G [.dat (.str tx), .dat (.int ((d + 1 : Nat) : Int)), u, v] := by
  rw [en_cons]
  have e : ((d + 1 : Nat) : Int) - 1 = ((d : Nat) : Int) := by omega
  have n : decide (((d : Nat) : Int) < 0) = false := decide_eq_false (by omega)
  have c1 : (([41] : List Nat) = [40]) = False := by simp
  unfold dForL
  unfold spT spB
  simp only [wipeE, fIx_0, fIx_1, fIx_2, fEq_str, fNe_str, fEq_int, fNe_int, fEq_bl, fNe_bl, isNon, decide_true, decide_false, eq_self, dSeq, dNext, dRet, dRetN, dDrop, dIfS, dNever, dAsg, dPar, dPar3, dName, dgTup, dgCons, dgNil, dFor, dForL, dVar, dC, dOp, dUn, dNil, dCons, dBagA, dStar, dCB, dTup, dLst, dB, dAnd, dOr, dNot, dIf, dAndV, dOrV, dNotV, dChain, dIsN, dNotN, dIsi, dIsi2, dSl, dPart, dNoPart, dLc, dYes, dCall, dCallN, dDef, dMeth, dMethK, dMethR, dMake, dMakeK, dOwn, dInit, dSetF, dFldO, itemsL, itemsT, itemsS, itemsR1, itemsR2, itemsZ, itemsE, dJoin, dJoined, dJs, dAug, dOwnL, dAppend, dExtend, dPop, starT, datL, ok_some, ok_none, List.length_cons, List.length_nil, List.replicate_succ, List.replicate_zero, List.cons_append, List.nil_append, List.append_nil, List.getElem?_cons_zero, List.getElem?_cons_succ, List.getElem?_nil, List.set_cons_zero, List.set_cons_succ, List.set_nil, List.map_cons, List.map_nil, Option.map_some, Option.map_none, Option.bind_some, Option.bind_none, if_true, if_false, true_and, and_true, Bool.not_true, Bool.not_false, reduceIte, Bool.false_eq_true, Bool.true_or, Bool.or_true, Bool.true_and, Bool.and_true, Bool.false_and, Bool.and_false, Bool.false_or, Bool.or_false, String.reduceBEq, Int.cast_ofNat_Int, Int.reduceEq, Int.reduceLE, Int.reduceLT, Int.reduceNeg, Int.reduceAdd, Int.reduceSub, Bool.not_eq_true, inB_S, fIn_S, fNotIn_S,  Nat.reduceAdd, List.take_succ_cons, List.take_zero, List.drop_succ_cons, List.drop_zero, Nat.reduceEqDiff, Nat.reduceLeDiff, Nat.zero_le, isIns, fFld, beq_self_eq_true, cp_lp, cp_rp, c1]
  refine ⟨_, rfl, ?_⟩
  simp only [wipeE, fIx_0, fIx_1, fIx_2, fEq_str, fNe_str, fEq_int, fNe_int, fEq_bl, fNe_bl, isNon, decide_true, decide_false, eq_self, dSeq, dNext, dRet, dRetN, dDrop, dIfS, dNever, dAsg, dPar, dPar3, dName, dgTup, dgCons, dgNil, dFor, dForL, dVar, dC, dOp, dUn, dNil, dCons, dBagA, dStar, dCB, dTup, dLst, dB, dAnd, dOr, dNot, dIf, dAndV, dOrV, dNotV, dChain, dIsN, dNotN, dIsi, dIsi2, dSl, dPart, dNoPart, dLc, dYes, dCall, dCallN, dDef, dMeth, dMethK, dMethR, dMake, dMakeK, dOwn, dInit, dSetF, dFldO, itemsL, itemsT, itemsS, itemsR1, itemsR2, itemsZ, itemsE, dJoin, dJoined, dJs, dAug, dOwnL, dAppend, dExtend, dPop, starT, datL, ok_some, ok_none, List.length_cons, List.length_nil, List.replicate_succ, List.replicate_zero, List.cons_append, List.nil_append, List.append_nil, List.getElem?_cons_zero, List.getElem?_cons_succ, List.getElem?_nil, List.set_cons_zero, List.set_cons_succ, List.set_nil, List.map_cons, List.map_nil, Option.map_some, Option.map_none, Option.bind_some, Option.bind_none, if_true, if_false, true_and, and_true, Bool.not_true, Bool.not_false, reduceIte, Bool.false_eq_true, Bool.true_or, Bool.or_true, Bool.true_and, Bool.and_true, Bool.false_and, Bool.and_false, Bool.false_or, Bool.or_false, String.reduceBEq, Int.cast_ofNat_Int, Int.reduceEq, Int.reduceLE, Int.reduceLT, Int.reduceNeg, Int.reduceAdd, Int.reduceSub, Bool.not_eq_true, inB_S, fIn_S, fNotIn_S,  Nat.reduceAdd, List.take_succ_cons, List.take_zero, List.drop_succ_cons, List.drop_zero, Nat.reduceEqDiff, Nat.reduceLeDiff, Nat.zero_le, isIns, fFld, beq_self_eq_true, fIp, e, fLt, fInt, n]
  exact h _ _
theorem sp_other {i c : Nat} {l : List Nat} {d : Nat} {u v : SV} (h1 : c ≠ 40) (h2 : c ≠ 41) (h3 : c = 32 → d ≠ 0) (h : ∀ u v, dForL spT spB (en (i + 1) l) G [.dat (.str tx), .dat (.int (d : Nat)), u, v]) : dForL spT spB (en i (c :: l)) G [.dat (.str tx), .dat (.int (d : Nat)), u, v] := by
  rw [en_cons]
  have n : decide (((d : Nat) : Int) < 0) = false := decide_eq_false (by omega)
  have c1 : ([c] = [40]) = False := by simp [h1]
  have c2 : ([c] = [41]) = False := by simp [h2]
  unfold dForL
  unfold spT spB
  by_cases hc : c = 32
  · have c3 : ([c] = [32]) = True := by simp [hc]
    have c4 : (((d : Nat) : Int) = 0) = False := by have := h3 hc; simp only [eq_iff_iff, iff_false]; omega
    simp only [wipeE, fIx_0, fIx_1, fIx_2, fEq_str, fNe_str, fEq_int, fNe_int, fEq_bl, fNe_bl, isNon, decide_true, decide_false, eq_self, dSeq, dNext, dRet, dRetN, dDrop, dIfS, dNever, dAsg, dPar, dPar3, dName, dgTup, dgCons, dgNil, dFor, dForL, dVar, dC, dOp, dUn, dNil, dCons, dBagA, dStar, dCB, dTup, dLst, dB, dAnd, dOr, dNot, dIf, dAndV, dOrV, dNotV, dChain, dIsN, dNotN, dIsi, dIsi2, dSl, dPart, dNoPart, dLc, dYes, dCall, dCallN, dDef, dMeth, dMethK, dMethR, dMake, dMakeK, dOwn, dInit, dSetF, dFldO, itemsL, itemsT, itemsS, itemsR1, itemsR2, itemsZ, itemsE, dJoin, dJoined, dJs, dAug, dOwnL, dAppend, dExtend, dPop, starT, datL, ok_some, ok_none, List.length_cons, List.length_nil, List.replicate_succ, List.replicate_zero, List.cons_append, List.nil_append, List.append_nil, List.getElem?_cons_zero, List.getElem?_cons_succ, List.getElem?_nil, List.set_cons_zero, List.set_cons_succ, List.set_nil, List.map_cons, List.map_nil, Option.map_some, Option.map_none, Option.bind_some, Option.bind_none, if_true, if_false, true_and, and_true, Bool.not_true, Bool.not_false, reduceIte, Bool.false_eq_true, Bool.true_or, Bool.or_true, Bool.true_and, Bool.and_true, Bool.false_and, Bool.and_false, Bool.false_or, Bool.or_false, String.reduceBEq, Int.cast_ofNat_Int, Int.reduceEq, Int.reduceLE, Int.reduceLT, Int.reduceNeg, Int.reduceAdd, Int.reduceSub, Bool.not_eq_true, inB_S, fIn_S, fNotIn_S,  Nat.reduceAdd, List.take_succ_cons, List.take_zero, List.drop_succ_cons, List.drop_zero, Nat.reduceEqDiff, Nat.reduceLeDiff, Nat.zero_le, isIns, fFld, beq_self_eq_true, cp_lp, cp_rp, cp_sp, c1, c2, c3, c4, fLt, fInt, n]
    exact h _ _
  · have c3 : ([c] = [32]) = False := by simp [hc]
    simp only [wipeE, fIx_0, fIx_1, fIx_2, fEq_str, fNe_str, fEq_int, fNe_int, fEq_bl, fNe_bl, isNon, decide_true, decide_false, eq_self, dSeq, dNext, dRet, dRetN, dDrop, dIfS, dNever, dAsg, dPar, dPar3, dName, dgTup, dgCons, dgNil, dFor, dForL, dVar, dC, dOp, dUn, dNil, dCons, dBagA, dStar, dCB, dTup, dLst, dB, dAnd, dOr, dNot, dIf, dAndV, dOrV, dNotV, dChain, dIsN, dNotN, dIsi, dIsi2, dSl, dPart, dNoPart, dLc, dYes, dCall, dCallN, dDef, dMeth, dMethK, dMethR, dMake, dMakeK, dOwn, dInit, dSetF, dFldO, itemsL, itemsT, itemsS, itemsR1, itemsR2, itemsZ, itemsE, dJoin, dJoined, dJs, dAug, dOwnL, dAppend, dExtend, dPop, starT, datL, ok_some, ok_none, List.length_cons, List.length_nil, List.replicate_succ, List.replicate_zero, List.cons_append, List.nil_append, List.append_nil, List.getElem?_cons_zero, List.getElem?_cons_succ, List.getElem?_nil, List.set_cons_zero, List.set_cons_succ, List.set_nil, List.map_cons, List.map_nil, Option.map_some, Option.map_none, Option.bind_some, Option.bind_none, if_true, if_false, true_and, and_true, Bool.not_true, Bool.not_false, reduceIte, Bool.false_eq_true, Bool.true_or, Bool.or_true, Bool.true_and, Bool.and_true, Bool.false_and, Bool.and_false, Bool.false_or, Bool.or_false, String.reduceBEq, Int.cast_ofNat_Int, Int.reduceEq, Int.reduceLE, Int.reduceLT, Int.reduceNeg, Int.reduceAdd, Int.reduceSub, Bool.not_eq_true, inB_S, fIn_S, fNotIn_S,  Nat.reduceAdd, List.take_succ_cons, List.take_zero, List.drop_succ_cons, List.drop_zero, Nat.reduceEqDiff, Nat.reduceLeDiff, Nat.zero_le, isIns, fFld, beq_self_eq_true, cp_lp, cp_rp, cp_sp, c1, c2, c3, fLt, fInt, n]
    exact h _ _
theorem fIx_str {l : List Nat} {k c : Nat} (hl : l.length ≤ 1000000) (h : l[k]? = some c) : fIx (.str l) (.int (k : Nat)) = some (.str [c]) := by
  unfold fIx
  dsimp only
  rw [if_pos hl, atI_nat h]
  rfl
theorem kd_in (o : Op) : fKdIn [(">", "then"), ("&", "and"), ("|", "or")] (.str [sgn o]) = some (.bl true) := by cases o <;> rfl
theorem cutL_mid {α : Type} {a b c : List α} : cutL (a ++ (b ++ c)) (some ((a.length : Nat) : Int)) (some ((a.length + b.length : Nat) : Int)) = b := by
  unfold cutL
  rw [HT.sIx_nat, HT.sIx_nat]
  have h1 : min a.length (a ++ (b ++ c)).length = a.length := by simp
  have h2 : min (a.length + b.length) (a ++ (b ++ c)).length = a.length + b.length := by simp only [List.length_append]; omega
  rw [h1, h2]
  simp
theorem sp_hit {o : Op} {a b l : List Nat} {u v : SV} (ht : tx = a ++ (32 :: sgn o :: 32 :: b)) (hl : tx.length ≤ 1000000) (h : G.rt (.tup [.str a, .str [sgn o], .str b])) : dForL spT spB (en a.length (32 :: l)) G [.dat (.str tx), .dat (.int 0), u, v] := by
  rw [en_cons]
  have c1 : (([32] : List Nat) = [40]) = False := by simp
  have c2 : (([32] : List Nat) = [41]) = False := by simp
  have e1 : fAdd (.int (a.length : Nat)) (.int 1) = some (.int ((a.length + 1 : Nat) : Int)) := by show some (D.int _) = _; congr 2
  have e2 : fAdd (.int (a.length : Nat)) (.int 2) = some (.int ((a.length + 2 : Nat) : Int)) := by show some (D.int _) = _; congr 2
  have e3 : fAdd (.int (a.length : Nat)) (.int 3) = some (.int ((a.length + 3 : Nat) : Int)) := by show some (D.int _) = _; congr 2
  have s1 : fSl (.str tx) (some ((a.length + 2 : Nat) : Int)) (some ((a.length + 3 : Nat) : Int)) = some (.str [32]) := by
    unfold fSl
    dsimp only
    rw [if_pos hl]
    have z := cutL_mid (a := a ++ [32, sgn o]) (b := [32]) (c := b)
    simp only [List.length_append, List.length_cons, List.length_nil, List.append_assoc, List.cons_append, List.nil_append] at z
    rw [ht]
    rw [show a.length + 2 + 1 = a.length + 3 from rfl] at z
    rw [z]
  have s2 : fSl (.str tx) none (some ((a.length : Nat) : Int)) = some (.str a) := by
    unfold fSl
    dsimp only
    rw [if_pos hl, cutL_to (by rw [ht]; simp), ht]
    simp
  have s3 : fSl (.str tx) (some ((a.length + 3 : Nat) : Int)) none = some (.str b) := by
    unfold fSl
    dsimp only
    rw [if_pos hl, cutL_from (by rw [ht]; simp), ht]
    have : a ++ 32 :: sgn o :: 32 :: b = (a ++ [32, sgn o, 32]) ++ b := by simp
    rw [this, List.drop_append_of_le_length (by simp)]
    simp
  have ix : fIx (.str tx) (.int ((a.length + 1 : Nat) : Int)) = some (.str [sgn o]) := by
    have : tx[a.length + 1]? = some (sgn o) := by rw [ht, List.getElem?_append_right (by omega)]; simp
    exact fIx_str hl this
  unfold dForL
  unfold spT spB
  simp only [wipeE, fIx_0, fIx_1, fIx_2, fEq_str, fNe_str, fEq_int, fNe_int, fEq_bl, fNe_bl, isNon, decide_true, decide_false, eq_self, dSeq, dNext, dRet, dRetN, dDrop, dIfS, dNever, dAsg, dPar, dPar3, dName, dgTup, dgCons, dgNil, dFor, dForL, dVar, dC, dOp, dUn, dNil, dCons, dBagA, dStar, dCB, dTup, dLst, dB, dAnd, dOr, dNot, dIf, dAndV, dOrV, dNotV, dChain, dIsN, dNotN, dIsi, dIsi2, dSl, dPart, dNoPart, dLc, dYes, dCall, dCallN, dDef, dMeth, dMethK, dMethR, dMake, dMakeK, dOwn, dInit, dSetF, dFldO, itemsL, itemsT, itemsS, itemsR1, itemsR2, itemsZ, itemsE, dJoin, dJoined, dJs, dAug, dOwnL, dAppend, dExtend, dPop, starT, datL, ok_some, ok_none, List.length_cons, List.length_nil, List.replicate_succ, List.replicate_zero, List.cons_append, List.nil_append, List.append_nil, List.getElem?_cons_zero, List.getElem?_cons_succ, List.getElem?_nil, List.set_cons_zero, List.set_cons_succ, List.set_nil, List.map_cons, List.map_nil, Option.map_some, Option.map_none, Option.bind_some, Option.bind_none, if_true, if_false, true_and, and_true, Bool.not_true, Bool.not_false, reduceIte, Bool.false_eq_true, Bool.true_or, Bool.or_true, Bool.true_and, Bool.and_true, Bool.false_and, Bool.and_false, Bool.false_or, Bool.or_false, String.reduceBEq, Int.cast_ofNat_Int, Int.reduceEq, Int.reduceLE, Int.reduceLT, Int.reduceNeg, Int.reduceAdd, Int.reduceSub, Bool.not_eq_true, inB_S, fIn_S, fNotIn_S,  Nat.reduceAdd, List.take_succ_cons, List.take_zero, List.drop_succ_cons, List.drop_zero, Nat.reduceEqDiff, Nat.reduceLeDiff, Nat.zero_le, isIns, fFld, beq_self_eq_true, cp_lp, cp_rp, cp_sp, c1, c2, e1, e2, e3, s1, s2, s3, ix, kd_in]
  exact h
theorem sp_letters {d : Nat} : ∀ {s l : List Nat} {i : Nat} {u v : SV}, s.all isLw = true → (∀ u v, dForL spT spB (en (i + s.length) l) G [.dat (.str tx), .dat (.int (d : Nat)), u, v]) → dForL spT spB (en i (s ++ l)) G [.dat (.str tx), .dat (.int (d : Nat)), u, v]
  | [], l, i, u, v, _, h => h u v
  | c :: s, l, i, u, v, hs, h => by
    rw [List.all_cons, Bool.and_eq_true_iff] at hs
    have hc : 97 ≤ c ∧ c ≤ 122 := of_decide_eq_true hs.1
    refine sp_other (by omega) (by omega) (by omega) fun u v => sp_letters hs.2 fun u v => ?_
    have := h u v
    rwa [List.length_cons, show i + (s.length + 1) = i + 1 + s.length by omega] at this
theorem sp_scan : ∀ {t : Tm} {d : Nat} {l : List Nat} {i : Nat} {u v : SV}, t.tx = true → (∀ u v, dForL spT spB (en (i + (wr t).length) l) G [.dat (.str tx), .dat (.int (d : Nat)), u, v]) → dForL spT spB (en i (wr t ++ l)) G [.dat (.str tx), .dat (.int (d : Nat)), u, v]
  | .atom s, d, l, i, u, v, hx, h => by
    unfold Tm.tx isNm at hx
    rw [Bool.and_eq_true_iff] at hx
    exact sp_letters hx.2 h
  | .fls, d, l, i, u, v, hx, h => sp_other (by decide) (by decide) (fun e => absurd e (by decide)) h
  | .hole s, d, l, i, u, v, hx, h => by
    unfold wr at h ⊢
    refine sp_other (by decide) (by decide) (fun e => absurd e (by decide)) fun u v => sp_letters hx fun u v => ?_
    have := h u v
    rwa [List.length_cons, show i + (s.length + 1) = i + 1 + s.length by omega] at this
  | .part _, _, _, _, _, _, hx, _ => by cases hx
  | .bin o a b, d, l, i, u, v, hx, h => by
    unfold Tm.tx at hx
    rw [Bool.and_eq_true_iff] at hx
    unfold wr at h ⊢
    simp only [List.length_cons, List.length_append, List.length_nil] at h
    have so : sgn o ≠ 40 ∧ sgn o ≠ 41 ∧ sgn o ≠ 32 := by cases o <;> decide
    simp only [List.cons_append, List.append_assoc, List.nil_append]
    refine sp_open fun u v => ?_
    refine sp_scan hx.1 fun u v => ?_
    refine sp_other (by decide) (by decide) (fun _ => by omega) fun u v => ?_
    refine sp_other so.1 so.2.1 (fun e => absurd e so.2.2) fun u v => ?_
    refine sp_other (by decide) (by decide) (fun _ => by omega) fun u v => ?_
    refine sp_scan hx.2 fun u v => ?_
    refine sp_close fun u v => ?_
    have := h u v
    rwa [show i + ((wr a).length + ((wr b).length + (0 + 1) + 1 + 1 + 1) + 1) = i + 1 + (wr a).length + 1 + 1 + 1 + (wr b).length + 1 by omega] at this
end
theorem T_split_eq {o : Op} {a b : Tm} {R : D → Prop} {X : Xc → Prop} (ha : a.tx = true) (hl : (wr a ++ (32 :: sgn o :: 32 :: wr b)).length ≤ 1000000) (h : R (.tup [.str (wr a), .str [sgn o], .str (wr b)])) : T_split_pair [.dat (.str (wr a ++ (32 :: sgn o :: 32 :: wr b)))] R X := by
  refine ⟨rfl, ?_⟩
  show dForL spT spB (en 0 (wr a ++ (32 :: sgn o :: 32 :: wr b))) _ [.dat (.str (wr a ++ (32 :: sgn o :: 32 :: wr b))), .dat (.int 0), .no, .no]
  refine sp_scan (d := 0) ha fun u v => ?_
  rw [Nat.zero_add]
  exact sp_hit rfl hl h

end
end Ag
namespace Ag
open PySem L2
open C8 (pss_cut tCut)
section
variable {P : Program} {w : World} {K : PySem.W.Frag} {mg : Str → Option Value} {base : Heap} {cs : List (Str × Addr)}
/-! form_in -/
theorem atI_last {α : Type} {l : List α} {c : α} : L2.atI (l ++ [c]) (-1) = some c := by
  unfold L2.atI L2.ixN
  rw [if_neg (by omega), if_pos (by simp; omega), Option.bind_some]
  have : (-1 + ((l ++ [c]).length : Int)).toNat = l.length := by simp; omega
  rw [this]
  simp
theorem cutL_inner {α : Type} {m : List α} {x y : α} : cutL (x :: (m ++ [y])) (some 1) (some (-1)) = m := by
  have h1 : HT.sIx (x :: (m ++ [y])).length 0 (some 1) = 1 := by
    have := HT.sIx_nat (x :: (m ++ [y])).length 0 1
    rw [show ((1 : Nat) : Int) = 1 from rfl] at this
    rw [this]
    simp
  have h2 : HT.sIx (x :: (m ++ [y])).length (x :: (m ++ [y])).length (some (-1)) = m.length + 1 := by
    unfold HT.sIx
    dsimp only
    rw [if_pos (by decide)]
    simp only [List.length_cons, List.length_append, List.length_nil]
    omega
  unfold cutL
  rw [h1, h2]
  simp
theorem cutL_tail {α : Type} {m : List α} {x : α} : cutL (x :: m) (some 1) none = m := by
  have := cutL_from (xs := x :: m) (i := 1) (by simp)
  rw [show ((1 : Nat) : Int) = 1 from rfl] at this
  rw [this]
  rfl
theorem wr_ne : ∀ {t : Tm}, t.tx = true → wr t ≠ []
  | .atom s, h => by
    intro e
    have := isNm_len h
    unfold wr at e
    rw [e] at this
    simp at this
  | .fls, _ => by unfold wr; simp
  | .hole _, _ => by unfold wr; simp
  | .part _, h => by cases h
  | .bin _ _ _, _ => by unfold wr; simp
theorem kd_op (o : Op) : fKd [(">", "then"), ("&", "and"), ("|", "or")] (.str [sgn o]) = some (.str (opC o)) := by cases o <;> rfl
theorem isNon_enc (t : Tm) : isNon (encD t) = false := by cases t <;> rfl
theorem T_formin_eq {X : Xc → Prop} : ∀ {n : Nat} {t : Tm} {k : Nat} {R : D → Prop}, t.tx = true → t.deep ≤ k → t.deep < n → (wr t).length ≤ 100000 → R (encD t) → T_form_in n [.dat (.str (wr t)), .dat (.int (k : Nat))] R X
  | 0, _, _, _, _, _, h, _, _ => absurd h (Nat.not_lt_zero _)
  | n + 1, t, k, R, hx, hk, hn, hl, hR => by
    have dp := t.deep_pos
    have e0 : (((k : Nat) : Int) = 0) = False := by simp only [eq_iff_iff, iff_false]; omega
    have e1 : (wr t = []) = False := eq_false (wr_ne hx)
    unfold T_form_in
    simp only [wipeE, fIx_0, fIx_1, fIx_2, fEq_str, fNe_str, fEq_int, fNe_int, fEq_bl, fNe_bl, isNon, decide_true, decide_false, eq_self, dSeq, dNext, dRet, dRetN, dDrop, dIfS, dNever, dAsg, dPar, dPar3, dName, dgTup, dgCons, dgNil, dFor, dForL, dVar, dC, dOp, dUn, dNil, dCons, dBagA, dStar, dCB, dTup, dLst, dB, dAnd, dOr, dNot, dIf, dAndV, dOrV, dNotV, dChain, dIsN, dNotN, dIsi, dIsi2, dSl, dPart, dNoPart, dLc, dYes, dCall, dCallN, dDef, dMeth, dMethK, dMethR, dMake, dMakeK, dOwn, dInit, dSetF, dFldO, itemsL, itemsT, itemsS, itemsR1, itemsR2, itemsZ, itemsE, dJoin, dJoined, dJs, dAug, dOwnL, dAppend, dExtend, dPop, starT, datL, ok_some, ok_none, List.length_cons, List.length_nil, List.replicate_succ, List.replicate_zero, List.cons_append, List.nil_append, List.append_nil, List.getElem?_cons_zero, List.getElem?_cons_succ, List.getElem?_nil, List.set_cons_zero, List.set_cons_succ, List.set_nil, List.map_cons, List.map_nil, Option.map_some, Option.map_none, Option.bind_some, Option.bind_none, if_true, if_false, true_and, and_true, Bool.not_true, Bool.not_false, reduceIte, Bool.false_eq_true, Bool.true_or, Bool.or_true, Bool.true_and, Bool.and_true, Bool.false_and, Bool.and_false, Bool.false_or, Bool.or_false, String.reduceBEq, Int.cast_ofNat_Int, Int.reduceEq, Int.reduceLE, Int.reduceLT, Int.reduceNeg, Int.reduceAdd, Int.reduceSub, Bool.not_eq_true, inB_S, fIn_S, fNotIn_S,  Nat.reduceAdd, List.take_succ_cons, List.take_zero, List.drop_succ_cons, List.drop_zero, Nat.reduceEqDiff, Nat.reduceLeDiff, Nat.zero_le, isIns, fFld, beq_self_eq_true, e0, cp_e, e1]
    cases t with
    | fls =>
      simp only [wr, wipeE, fIx_0, fIx_1, fIx_2, fEq_str, fNe_str, fEq_int, fNe_int, fEq_bl, fNe_bl, isNon, decide_true, decide_false, eq_self, dSeq, dNext, dRet, dRetN, dDrop, dIfS, dNever, dAsg, dPar, dPar3, dName, dgTup, dgCons, dgNil, dFor, dForL, dVar, dC, dOp, dUn, dNil, dCons, dBagA, dStar, dCB, dTup, dLst, dB, dAnd, dOr, dNot, dIf, dAndV, dOrV, dNotV, dChain, dIsN, dNotN, dIsi, dIsi2, dSl, dPart, dNoPart, dLc, dYes, dCall, dCallN, dDef, dMeth, dMethK, dMethR, dMake, dMakeK, dOwn, dInit, dSetF, dFldO, itemsL, itemsT, itemsS, itemsR1, itemsR2, itemsZ, itemsE, dJoin, dJoined, dJs, dAug, dOwnL, dAppend, dExtend, dPop, starT, datL, ok_some, ok_none, List.length_cons, List.length_nil, List.replicate_succ, List.replicate_zero, List.cons_append, List.nil_append, List.append_nil, List.getElem?_cons_zero, List.getElem?_cons_succ, List.getElem?_nil, List.set_cons_zero, List.set_cons_succ, List.set_nil, List.map_cons, List.map_nil, Option.map_some, Option.map_none, Option.bind_some, Option.bind_none, if_true, if_false, true_and, and_true, Bool.not_true, Bool.not_false, reduceIte, Bool.false_eq_true, Bool.true_or, Bool.or_true, Bool.true_and, Bool.and_true, Bool.false_and, Bool.and_false, Bool.false_or, Bool.or_false, String.reduceBEq, Int.cast_ofNat_Int, Int.reduceEq, Int.reduceLE, Int.reduceLT, Int.reduceNeg, Int.reduceAdd, Int.reduceSub, Bool.not_eq_true, inB_S, fIn_S, fNotIn_S,  Nat.reduceAdd, List.take_succ_cons, List.take_zero, List.drop_succ_cons, List.drop_zero, Nat.reduceEqDiff, Nat.reduceLeDiff, Nat.zero_le, isIns, fFld, beq_self_eq_true, cp_0]
      exact hR
    | part m => cases hx
    | hole s =>
      unfold wr at hl
      have c0 : (63 :: s = [48]) = False := by simp
      have i0 : fIx (.str (63 :: s)) (.int 0) = some (.str [63]) := fIx_str (k := 0) (by omega) rfl
      have s1 : fSl (.str (63 :: s)) (some 1) none = some (.str s) := by
        unfold fSl
        dsimp only
        rw [if_pos (by omega), cutL_tail]
      simp only [wr, wipeE, fIx_0, fIx_1, fIx_2, fEq_str, fNe_str, fEq_int, fNe_int, fEq_bl, fNe_bl, isNon, decide_true, decide_false, eq_self, dSeq, dNext, dRet, dRetN, dDrop, dIfS, dNever, dAsg, dPar, dPar3, dName, dgTup, dgCons, dgNil, dFor, dForL, dVar, dC, dOp, dUn, dNil, dCons, dBagA, dStar, dCB, dTup, dLst, dB, dAnd, dOr, dNot, dIf, dAndV, dOrV, dNotV, dChain, dIsN, dNotN, dIsi, dIsi2, dSl, dPart, dNoPart, dLc, dYes, dCall, dCallN, dDef, dMeth, dMethK, dMethR, dMake, dMakeK, dOwn, dInit, dSetF, dFldO, itemsL, itemsT, itemsS, itemsR1, itemsR2, itemsZ, itemsE, dJoin, dJoined, dJs, dAug, dOwnL, dAppend, dExtend, dPop, starT, datL, ok_some, ok_none, List.length_cons, List.length_nil, List.replicate_succ, List.replicate_zero, List.cons_append, List.nil_append, List.append_nil, List.getElem?_cons_zero, List.getElem?_cons_succ, List.getElem?_nil, List.set_cons_zero, List.set_cons_succ, List.set_nil, List.map_cons, List.map_nil, Option.map_some, Option.map_none, Option.bind_some, Option.bind_none, if_true, if_false, true_and, and_true, Bool.not_true, Bool.not_false, reduceIte, Bool.false_eq_true, Bool.true_or, Bool.or_true, Bool.true_and, Bool.and_true, Bool.false_and, Bool.and_false, Bool.false_or, Bool.or_false, String.reduceBEq, Int.cast_ofNat_Int, Int.reduceEq, Int.reduceLE, Int.reduceLT, Int.reduceNeg, Int.reduceAdd, Int.reduceSub, Bool.not_eq_true, inB_S, fIn_S, fNotIn_S,  Nat.reduceAdd, List.take_succ_cons, List.take_zero, List.drop_succ_cons, List.drop_zero, Nat.reduceEqDiff, Nat.reduceLeDiff, Nat.zero_le, isIns, fFld, beq_self_eq_true, cp_0, c0, i0, cp_q, s1]
      exact hR
    | atom s =>
      have hs := hx
      unfold Tm.tx isNm at hs
      rw [Bool.and_eq_true_iff] at hs
      have hlen := of_decide_eq_true hs.1
      match s, hlen, hs.2, hl, hR with
      | [], h, _, _, _ => simp at h
      | c :: s, _, ha, hl, hR =>
        rw [List.all_cons, Bool.and_eq_true_iff] at ha
        have hc : 97 ≤ c ∧ c ≤ 122 := of_decide_eq_true ha.1
        unfold wr at hl
        have c0 : (c :: s = [48]) = False := by simp; omega
        have c1 : ([c] = [63]) = False := by simp; omega
        have c2 : ([c] = [40]) = False := by simp; omega
        have i0 : fIx (.str (c :: s)) (.int 0) = some (.str [c]) := fIx_str (k := 0) (by omega) rfl
        simp only [wr, wipeE, fIx_0, fIx_1, fIx_2, fEq_str, fNe_str, fEq_int, fNe_int, fEq_bl, fNe_bl, isNon, decide_true, decide_false, eq_self, dSeq, dNext, dRet, dRetN, dDrop, dIfS, dNever, dAsg, dPar, dPar3, dName, dgTup, dgCons, dgNil, dFor, dForL, dVar, dC, dOp, dUn, dNil, dCons, dBagA, dStar, dCB, dTup, dLst, dB, dAnd, dOr, dNot, dIf, dAndV, dOrV, dNotV, dChain, dIsN, dNotN, dIsi, dIsi2, dSl, dPart, dNoPart, dLc, dYes, dCall, dCallN, dDef, dMeth, dMethK, dMethR, dMake, dMakeK, dOwn, dInit, dSetF, dFldO, itemsL, itemsT, itemsS, itemsR1, itemsR2, itemsZ, itemsE, dJoin, dJoined, dJs, dAug, dOwnL, dAppend, dExtend, dPop, starT, datL, ok_some, ok_none, List.length_cons, List.length_nil, List.replicate_succ, List.replicate_zero, List.cons_append, List.nil_append, List.append_nil, List.getElem?_cons_zero, List.getElem?_cons_succ, List.getElem?_nil, List.set_cons_zero, List.set_cons_succ, List.set_nil, List.map_cons, List.map_nil, Option.map_some, Option.map_none, Option.bind_some, Option.bind_none, if_true, if_false, true_and, and_true, Bool.not_true, Bool.not_false, reduceIte, Bool.false_eq_true, Bool.true_or, Bool.or_true, Bool.true_and, Bool.and_true, Bool.false_and, Bool.and_false, Bool.false_or, Bool.or_false, String.reduceBEq, Int.cast_ofNat_Int, Int.reduceEq, Int.reduceLE, Int.reduceLT, Int.reduceNeg, Int.reduceAdd, Int.reduceSub, Bool.not_eq_true, inB_S, fIn_S, fNotIn_S,  Nat.reduceAdd, List.take_succ_cons, List.take_zero, List.drop_succ_cons, List.drop_zero, Nat.reduceEqDiff, Nat.reduceLeDiff, Nat.zero_le, isIns, fFld, beq_self_eq_true, cp_0, c0, i0, cp_q, c1, cp_lp, c2]
        exact hR
    | bin o a b =>
      unfold Tm.tx at hx
      rw [Bool.and_eq_true_iff] at hx
      unfold Tm.deep at hk hn
      unfold wr at hl
      have hl2 := hl
      simp only [List.length_cons, List.length_append, List.length_nil] at hl2
      have ea : wr (.bin o a b) = 40 :: ((wr a ++ (32 :: sgn o :: 32 :: wr b)) ++ [41]) := by
        show 40 :: (wr a ++ (32 :: sgn o :: 32 :: (wr b ++ [41]))) = _
        simp
      have eb : wr (.bin o a b) = (40 :: (wr a ++ (32 :: sgn o :: 32 :: wr b))) ++ [41] := by rw [ea]; simp
      have hw : (wr (.bin o a b)).length ≤ 1000000 := by unfold wr; omega
      have i0 : fIx (.str (wr (.bin o a b))) (.int 0) = some (.str [40]) := fIx_str (k := 0) hw rfl
      have i1 : fIx (.str (wr (.bin o a b))) (.int (-1)) = some (.str [41]) := by
        unfold fIx
        dsimp only
        rw [if_pos hw, eb, atI_last]
        rfl
      have s1 : fSl (.str (wr (.bin o a b))) (some 1) (some (-1)) = some (.str (wr a ++ (32 :: sgn o :: 32 :: wr b))) := by
        unfold fSl
        dsimp only
        rw [if_pos hw, ea, cutL_inner]
      have c0 : (wr (.bin o a b) = [48]) = False := by rw [ea]; simp
      have c1 : (([40] : List Nat) = [63]) = False := by simp
      have e3 : ((k : Nat) : Int) - 1 = ((k - 1 : Nat) : Int) := by omega
      generalize hW : wr (.bin o a b) = W at *
      simp only [wipeE, fIx_0, fIx_1, fIx_2, fEq_str, fNe_str, fEq_int, fNe_int, fEq_bl, fNe_bl, isNon, decide_true, decide_false, eq_self, dSeq, dNext, dRet, dRetN, dDrop, dIfS, dNever, dAsg, dPar, dPar3, dName, dgTup, dgCons, dgNil, dFor, dForL, dVar, dC, dOp, dUn, dNil, dCons, dBagA, dStar, dCB, dTup, dLst, dB, dAnd, dOr, dNot, dIf, dAndV, dOrV, dNotV, dChain, dIsN, dNotN, dIsi, dIsi2, dSl, dPart, dNoPart, dLc, dYes, dCall, dCallN, dDef, dMeth, dMethK, dMethR, dMake, dMakeK, dOwn, dInit, dSetF, dFldO, itemsL, itemsT, itemsS, itemsR1, itemsR2, itemsZ, itemsE, dJoin, dJoined, dJs, dAug, dOwnL, dAppend, dExtend, dPop, starT, datL, ok_some, ok_none, List.length_cons, List.length_nil, List.replicate_succ, List.replicate_zero, List.cons_append, List.nil_append, List.append_nil, List.getElem?_cons_zero, List.getElem?_cons_succ, List.getElem?_nil, List.set_cons_zero, List.set_cons_succ, List.set_nil, List.map_cons, List.map_nil, Option.map_some, Option.map_none, Option.bind_some, Option.bind_none, if_true, if_false, true_and, and_true, Bool.not_true, Bool.not_false, reduceIte, Bool.false_eq_true, Bool.true_or, Bool.or_true, Bool.true_and, Bool.and_true, Bool.false_and, Bool.and_false, Bool.false_or, Bool.or_false, String.reduceBEq, Int.cast_ofNat_Int, Int.reduceEq, Int.reduceLE, Int.reduceLT, Int.reduceNeg, Int.reduceAdd, Int.reduceSub, Bool.not_eq_true, inB_S, fIn_S, fNotIn_S,  Nat.reduceAdd, List.take_succ_cons, List.take_zero, List.drop_succ_cons, List.drop_zero, Nat.reduceEqDiff, Nat.reduceLeDiff, Nat.zero_le, isIns, fFld, beq_self_eq_true, cp_0, c0, i0, cp_q, c1, cp_lp, fNeg, s1]
      refine T_split_eq hx.1 (by simp; omega) ?_
      simp only [wipeE, fIx_0, fIx_1, fIx_2, fEq_str, fNe_str, fEq_int, fNe_int, fEq_bl, fNe_bl, isNon, decide_true, decide_false, eq_self, dSeq, dNext, dRet, dRetN, dDrop, dIfS, dNever, dAsg, dPar, dPar3, dName, dgTup, dgCons, dgNil, dFor, dForL, dVar, dC, dOp, dUn, dNil, dCons, dBagA, dStar, dCB, dTup, dLst, dB, dAnd, dOr, dNot, dIf, dAndV, dOrV, dNotV, dChain, dIsN, dNotN, dIsi, dIsi2, dSl, dPart, dNoPart, dLc, dYes, dCall, dCallN, dDef, dMeth, dMethK, dMethR, dMake, dMakeK, dOwn, dInit, dSetF, dFldO, itemsL, itemsT, itemsS, itemsR1, itemsR2, itemsZ, itemsE, dJoin, dJoined, dJs, dAug, dOwnL, dAppend, dExtend, dPop, starT, datL, ok_some, ok_none, List.length_cons, List.length_nil, List.replicate_succ, List.replicate_zero, List.cons_append, List.nil_append, List.append_nil, List.getElem?_cons_zero, List.getElem?_cons_succ, List.getElem?_nil, List.set_cons_zero, List.set_cons_succ, List.set_nil, List.map_cons, List.map_nil, Option.map_some, Option.map_none, Option.bind_some, Option.bind_none, if_true, if_false, true_and, and_true, Bool.not_true, Bool.not_false, reduceIte, Bool.false_eq_true, Bool.true_or, Bool.or_true, Bool.true_and, Bool.and_true, Bool.false_and, Bool.and_false, Bool.false_or, Bool.or_false, String.reduceBEq, Int.cast_ofNat_Int, Int.reduceEq, Int.reduceLE, Int.reduceLT, Int.reduceNeg, Int.reduceAdd, Int.reduceSub, Bool.not_eq_true, inB_S, fIn_S, fNotIn_S,  Nat.reduceAdd, List.take_succ_cons, List.take_zero, List.drop_succ_cons, List.drop_zero, Nat.reduceEqDiff, Nat.reduceLeDiff, Nat.zero_le, isIns, fFld, beq_self_eq_true, i1, cp_rp, fSub, fInt, e3]
      refine T_formin_eq hx.1 (by omega) (by omega) (by omega) ?_
      refine T_formin_eq hx.2 (by omega) (by omega) (by omega) ?_
      simp only [wipeE, fIx_0, fIx_1, fIx_2, fEq_str, fNe_str, fEq_int, fNe_int, fEq_bl, fNe_bl, isNon, decide_true, decide_false, eq_self, dSeq, dNext, dRet, dRetN, dDrop, dIfS, dNever, dAsg, dPar, dPar3, dName, dgTup, dgCons, dgNil, dFor, dForL, dVar, dC, dOp, dUn, dNil, dCons, dBagA, dStar, dCB, dTup, dLst, dB, dAnd, dOr, dNot, dIf, dAndV, dOrV, dNotV, dChain, dIsN, dNotN, dIsi, dIsi2, dSl, dPart, dNoPart, dLc, dYes, dCall, dCallN, dDef, dMeth, dMethK, dMethR, dMake, dMakeK, dOwn, dInit, dSetF, dFldO, itemsL, itemsT, itemsS, itemsR1, itemsR2, itemsZ, itemsE, dJoin, dJoined, dJs, dAug, dOwnL, dAppend, dExtend, dPop, starT, datL, ok_some, ok_none, List.length_cons, List.length_nil, List.replicate_succ, List.replicate_zero, List.cons_append, List.nil_append, List.append_nil, List.getElem?_cons_zero, List.getElem?_cons_succ, List.getElem?_nil, List.set_cons_zero, List.set_cons_succ, List.set_nil, List.map_cons, List.map_nil, Option.map_some, Option.map_none, Option.bind_some, Option.bind_none, if_true, if_false, true_and, and_true, Bool.not_true, Bool.not_false, reduceIte, Bool.false_eq_true, Bool.true_or, Bool.or_true, Bool.true_and, Bool.and_true, Bool.false_and, Bool.and_false, Bool.false_or, Bool.or_false, String.reduceBEq, Int.cast_ofNat_Int, Int.reduceEq, Int.reduceLE, Int.reduceLT, Int.reduceNeg, Int.reduceAdd, Int.reduceSub, Bool.not_eq_true, inB_S, fIn_S, fNotIn_S,  Nat.reduceAdd, List.take_succ_cons, List.take_zero, List.drop_succ_cons, List.drop_zero, Nat.reduceEqDiff, Nat.reduceLeDiff, Nat.zero_le, isIns, fFld, beq_self_eq_true, kd_op]
      show if isNon (encD a) = true then R .non else if isNon (encD b) = true then R .non else R (.tup [.str (opC o), encD a, encD b])
      rw [isNon_enc, isNon_enc]
      exact hR

end
end Ag
namespace Ag
open PySem L2
open C8 (pss_cut tCut)
section
variable {P : Program} {w : World} {K : PySem.W.Frag} {mg : Str → Option Value} {base : Heap} {cs : List (Str × Addr)}
/-! formulas of any depth -/
theorem T_is_leaf_gen {t : Tm} {lf : String} {R : D → Prop} {X : Xc → Prop} (hlf : lf = "" ∨ lf = "hole") (hg : t.good = true) (hd : t.deep ≤ 1) (h : R (.bl true)) : T_is_leaf [.dat (encD t), .dat (.str (cp lf))] R X := by
  cases t with
  | bin o a b => unfold Tm.deep at hd; have := a.deep_pos; omega
  | hole s => cases hg
  | part n => cases hg
  | fls =>
    unfold T_is_leaf encD
    simp only [wipeE, fIx_0, fIx_1, fIx_2, fEq_str, fNe_str, fEq_int, fNe_int, fEq_bl, fNe_bl, isNon, decide_true, decide_false, eq_self, dSeq, dNext, dRet, dRetN, dDrop, dIfS, dNever, dAsg, dPar, dPar3, dName, dgTup, dgCons, dgNil, dFor, dForL, dVar, dC, dOp, dUn, dNil, dCons, dBagA, dStar, dCB, dTup, dLst, dB, dAnd, dOr, dNot, dIf, dAndV, dOrV, dNotV, dChain, dIsN, dNotN, dIsi, dIsi2, dSl, dPart, dNoPart, dLc, dYes, dCall, dCallN, dDef, dMeth, dMethK, dMethR, dMake, dMakeK, dOwn, dInit, dSetF, dFldO, itemsL, itemsT, itemsS, itemsR1, itemsR2, itemsZ, itemsE, dJoin, dJoined, dJs, dAug, dOwnL, dAppend, dExtend, dPop, starT, datL, ok_some, ok_none, List.length_cons, List.length_nil, List.replicate_succ, List.replicate_zero, List.cons_append, List.nil_append, List.append_nil, List.getElem?_cons_zero, List.getElem?_cons_succ, List.getElem?_nil, List.set_cons_zero, List.set_cons_succ, List.set_nil, List.map_cons, List.map_nil, Option.map_some, Option.map_none, Option.bind_some, Option.bind_none, if_true, if_false, true_and, and_true, Bool.not_true, Bool.not_false, reduceIte, Bool.false_eq_true, Bool.true_or, Bool.or_true, Bool.true_and, Bool.and_true, Bool.false_and, Bool.and_false, Bool.false_or, Bool.or_false, String.reduceBEq, Int.cast_ofNat_Int, Int.reduceEq, Int.reduceLE, Int.reduceLT, Int.reduceNeg, Int.reduceAdd, Int.reduceSub, Bool.not_eq_true, inB_S, fIn_S, fNotIn_S,  Nat.reduceAdd, List.take_succ_cons, List.take_zero, List.drop_succ_cons, List.drop_zero, Nat.reduceEqDiff, Nat.reduceLeDiff, Nat.zero_le, isIns, fFld, beq_self_eq_true, fLen, wne_atom_false, wne_atom_hole, wne_atom_, wne_false_atom, wne_false_hole, wne_false_, wne_hole_atom, wne_hole_false, wne_hole_, wne__atom, wne__false, wne__hole]
    exact h
  | atom s =>
    unfold T_is_leaf encD
    simp only [wipeE, fIx_0, fIx_1, fIx_2, fEq_str, fNe_str, fEq_int, fNe_int, fEq_bl, fNe_bl, isNon, decide_true, decide_false, eq_self, dSeq, dNext, dRet, dRetN, dDrop, dIfS, dNever, dAsg, dPar, dPar3, dName, dgTup, dgCons, dgNil, dFor, dForL, dVar, dC, dOp, dUn, dNil, dCons, dBagA, dStar, dCB, dTup, dLst, dB, dAnd, dOr, dNot, dIf, dAndV, dOrV, dNotV, dChain, dIsN, dNotN, dIsi, dIsi2, dSl, dPart, dNoPart, dLc, dYes, dCall, dCallN, dDef, dMeth, dMethK, dMethR, dMake, dMakeK, dOwn, dInit, dSetF, dFldO, itemsL, itemsT, itemsS, itemsR1, itemsR2, itemsZ, itemsE, dJoin, dJoined, dJs, dAug, dOwnL, dAppend, dExtend, dPop, starT, datL, ok_some, ok_none, List.length_cons, List.length_nil, List.replicate_succ, List.replicate_zero, List.cons_append, List.nil_append, List.append_nil, List.getElem?_cons_zero, List.getElem?_cons_succ, List.getElem?_nil, List.set_cons_zero, List.set_cons_succ, List.set_nil, List.map_cons, List.map_nil, Option.map_some, Option.map_none, Option.bind_some, Option.bind_none, if_true, if_false, true_and, and_true, Bool.not_true, Bool.not_false, reduceIte, Bool.false_eq_true, Bool.true_or, Bool.or_true, Bool.true_and, Bool.and_true, Bool.false_and, Bool.and_false, Bool.false_or, Bool.or_false, String.reduceBEq, Int.cast_ofNat_Int, Int.reduceEq, Int.reduceLE, Int.reduceLT, Int.reduceNeg, Int.reduceAdd, Int.reduceSub, Bool.not_eq_true, inB_S, fIn_S, fNotIn_S,  Nat.reduceAdd, List.take_succ_cons, List.take_zero, List.drop_succ_cons, List.drop_zero, Nat.reduceEqDiff, Nat.reduceLeDiff, Nat.zero_le, isIns, fFld, beq_self_eq_true, fLen, wne_atom_false, wne_atom_hole, wne_atom_, wne_false_atom, wne_false_hole, wne_false_, wne_hole_atom, wne_hole_false, wne_hole_, wne__atom, wne__false, wne__hole]
    refine T_is_name_str (by have := isNm_len hg; omega) ?_
    rw [show isNm s = true from hg]
    exact h
theorem T_is_form_gen {lf : String} {X : Xc → Prop} (hlf : lf = "" ∨ lf = "hole") : ∀ {n : Nat} {t : Tm} {k : Nat} {R : D → Prop}, t.good = true → t.deep < n → R (.bl (decide (t.deep ≤ k))) → T_is_form n [.dat (encD t), .dat (.int (k : Nat)), .dat (.str (cp lf))] R X
  | 0, t, k, _, _, hn, _ => by omega
  | n + 1, t, 0, R, hg, hn, h => by
    have hp := t.deep_pos
    rw [decide_eq_false (by omega)] at h
    unfold T_is_form
    simp only [wipeE, fIx_0, fIx_1, fIx_2, fEq_str, fNe_str, fEq_int, fNe_int, fEq_bl, fNe_bl, isNon, decide_true, decide_false, eq_self, dSeq, dNext, dRet, dRetN, dDrop, dIfS, dNever, dAsg, dPar, dPar3, dName, dgTup, dgCons, dgNil, dFor, dForL, dVar, dC, dOp, dUn, dNil, dCons, dBagA, dStar, dCB, dTup, dLst, dB, dAnd, dOr, dNot, dIf, dAndV, dOrV, dNotV, dChain, dIsN, dNotN, dIsi, dIsi2, dSl, dPart, dNoPart, dLc, dYes, dCall, dCallN, dDef, dMeth, dMethK, dMethR, dMake, dMakeK, dOwn, dInit, dSetF, dFldO, itemsL, itemsT, itemsS, itemsR1, itemsR2, itemsZ, itemsE, dJoin, dJoined, dJs, dAug, dOwnL, dAppend, dExtend, dPop, starT, datL, ok_some, ok_none, List.length_cons, List.length_nil, List.replicate_succ, List.replicate_zero, List.cons_append, List.nil_append, List.append_nil, List.getElem?_cons_zero, List.getElem?_cons_succ, List.getElem?_nil, List.set_cons_zero, List.set_cons_succ, List.set_nil, List.map_cons, List.map_nil, Option.map_some, Option.map_none, Option.bind_some, Option.bind_none, if_true, if_false, true_and, and_true, Bool.not_true, Bool.not_false, reduceIte, Bool.false_eq_true, Bool.true_or, Bool.or_true, Bool.true_and, Bool.and_true, Bool.false_and, Bool.and_false, Bool.false_or, Bool.or_false, String.reduceBEq, Int.cast_ofNat_Int, Int.reduceEq, Int.reduceLE, Int.reduceLT, Int.reduceNeg, Int.reduceAdd, Int.reduceSub, Bool.not_eq_true, inB_S, fIn_S, fNotIn_S,  Nat.reduceAdd, List.take_succ_cons, List.take_zero, List.drop_succ_cons, List.drop_zero, Nat.reduceEqDiff, Nat.reduceLeDiff, Nat.zero_le, isIns, fFld, beq_self_eq_true, Int.cast_ofNat_Int]
    exact h
  | n + 1, t, k + 1, R, hg, hn, h => by
    have hp := t.deep_pos
    have k0 : (((k + 1 : Nat) : Int) = 0) = False := by simp only [eq_iff_iff, iff_false]; omega
    have e3 : ((k + 1 : Nat) : Int) - 1 = ((k : Nat) : Int) := by omega
    unfold T_is_form
    cases t with
    | bin o a b =>
      unfold Tm.good at hg
      rw [Bool.and_eq_true_iff] at hg
      have hdp : (Tm.bin o a b).deep = max a.deep b.deep + 1 := rfl
      rw [hdp] at hn h
      unfold encD
      have hs : fSl (.tup [.str (opC o), encD a, encD b]) (some 1) none = some (.tup [encD a, encD b]) := rfl
      simp only [wipeE, fIx_0, fIx_1, fIx_2, fEq_str, fNe_str, fEq_int, fNe_int, fEq_bl, fNe_bl, isNon, decide_true, decide_false, eq_self, dSeq, dNext, dRet, dRetN, dDrop, dIfS, dNever, dAsg, dPar, dPar3, dName, dgTup, dgCons, dgNil, dFor, dForL, dVar, dC, dOp, dUn, dNil, dCons, dBagA, dStar, dCB, dTup, dLst, dB, dAnd, dOr, dNot, dIf, dAndV, dOrV, dNotV, dChain, dIsN, dNotN, dIsi, dIsi2, dSl, dPart, dNoPart, dLc, dYes, dCall, dCallN, dDef, dMeth, dMethK, dMethR, dMake, dMakeK, dOwn, dInit, dSetF, dFldO, itemsL, itemsT, itemsS, itemsR1, itemsR2, itemsZ, itemsE, dJoin, dJoined, dJs, dAug, dOwnL, dAppend, dExtend, dPop, starT, datL, ok_some, ok_none, List.length_cons, List.length_nil, List.replicate_succ, List.replicate_zero, List.cons_append, List.nil_append, List.append_nil, List.getElem?_cons_zero, List.getElem?_cons_succ, List.getElem?_nil, List.set_cons_zero, List.set_cons_succ, List.set_nil, List.map_cons, List.map_nil, Option.map_some, Option.map_none, Option.bind_some, Option.bind_none, if_true, if_false, true_and, and_true, Bool.not_true, Bool.not_false, reduceIte, Bool.false_eq_true, Bool.true_or, Bool.or_true, Bool.true_and, Bool.and_true, Bool.false_and, Bool.and_false, Bool.false_or, Bool.or_false, String.reduceBEq, Int.cast_ofNat_Int, Int.reduceEq, Int.reduceLE, Int.reduceLT, Int.reduceNeg, Int.reduceAdd, Int.reduceSub, Bool.not_eq_true, inB_S, fIn_S, fNotIn_S,  Nat.reduceAdd, List.take_succ_cons, List.take_zero, List.drop_succ_cons, List.drop_zero, Nat.reduceEqDiff, Nat.reduceLeDiff, Nat.zero_le, isIns, fFld, beq_self_eq_true, k0, tyD, subT, fLen, pairs_op, hs]
      simp only [lcL, wipeE, fIx_0, fIx_1, fIx_2, fEq_str, fNe_str, fEq_int, fNe_int, fEq_bl, fNe_bl, isNon, decide_true, decide_false, eq_self, dSeq, dNext, dRet, dRetN, dDrop, dIfS, dNever, dAsg, dPar, dPar3, dName, dgTup, dgCons, dgNil, dFor, dForL, dVar, dC, dOp, dUn, dNil, dCons, dBagA, dStar, dCB, dTup, dLst, dB, dAnd, dOr, dNot, dIf, dAndV, dOrV, dNotV, dChain, dIsN, dNotN, dIsi, dIsi2, dSl, dPart, dNoPart, dLc, dYes, dCall, dCallN, dDef, dMeth, dMethK, dMethR, dMake, dMakeK, dOwn, dInit, dSetF, dFldO, itemsL, itemsT, itemsS, itemsR1, itemsR2, itemsZ, itemsE, dJoin, dJoined, dJs, dAug, dOwnL, dAppend, dExtend, dPop, starT, datL, ok_some, ok_none, List.length_cons, List.length_nil, List.replicate_succ, List.replicate_zero, List.cons_append, List.nil_append, List.append_nil, List.getElem?_cons_zero, List.getElem?_cons_succ, List.getElem?_nil, List.set_cons_zero, List.set_cons_succ, List.set_nil, List.map_cons, List.map_nil, Option.map_some, Option.map_none, Option.bind_some, Option.bind_none, if_true, if_false, true_and, and_true, Bool.not_true, Bool.not_false, reduceIte, Bool.false_eq_true, Bool.true_or, Bool.or_true, Bool.true_and, Bool.and_true, Bool.false_and, Bool.and_false, Bool.false_or, Bool.or_false, String.reduceBEq, Int.cast_ofNat_Int, Int.reduceEq, Int.reduceLE, Int.reduceLT, Int.reduceNeg, Int.reduceAdd, Int.reduceSub, Bool.not_eq_true, inB_S, fIn_S, fNotIn_S,  Nat.reduceAdd, List.take_succ_cons, List.take_zero, List.drop_succ_cons, List.drop_zero, Nat.reduceEqDiff, Nat.reduceLeDiff, Nat.zero_le, isIns, fFld, beq_self_eq_true, fInt, fSub, e3]
      refine T_is_form_gen hlf hg.1 (by omega) ?_
      refine ⟨by decide, ?_⟩
      refine T_is_form_gen hlf hg.2 (by omega) ?_
      refine ⟨by decide, ?_⟩
      have e : fAll [.lst [.bl (decide (a.deep ≤ k)), .bl (decide (b.deep ≤ k))]] = some (.bl (decide (max a.deep b.deep + 1 ≤ k + 1))) := by
        have q : decide (max a.deep b.deep + 1 ≤ k + 1) = (decide (a.deep ≤ k) && decide (b.deep ≤ k)) := by
          rw [← Bool.decide_and]
          exact decide_eq_decide.mpr (by omega)
        rw [q]
        cases decide (a.deep ≤ k) <;> cases decide (b.deep ≤ k) <;> rfl
      rw [e]
      simp only [ok_some]
      exact h
    | atom s =>
      rw [show decide ((Tm.atom s).deep ≤ k + 1) = true from decide_eq_true (by show 1 ≤ k + 1; omega)] at h
      unfold encD
      simp only [wipeE, fIx_0, fIx_1, fIx_2, fEq_str, fNe_str, fEq_int, fNe_int, fEq_bl, fNe_bl, isNon, decide_true, decide_false, eq_self, dSeq, dNext, dRet, dRetN, dDrop, dIfS, dNever, dAsg, dPar, dPar3, dName, dgTup, dgCons, dgNil, dFor, dForL, dVar, dC, dOp, dUn, dNil, dCons, dBagA, dStar, dCB, dTup, dLst, dB, dAnd, dOr, dNot, dIf, dAndV, dOrV, dNotV, dChain, dIsN, dNotN, dIsi, dIsi2, dSl, dPart, dNoPart, dLc, dYes, dCall, dCallN, dDef, dMeth, dMethK, dMethR, dMake, dMakeK, dOwn, dInit, dSetF, dFldO, itemsL, itemsT, itemsS, itemsR1, itemsR2, itemsZ, itemsE, dJoin, dJoined, dJs, dAug, dOwnL, dAppend, dExtend, dPop, starT, datL, ok_some, ok_none, List.length_cons, List.length_nil, List.replicate_succ, List.replicate_zero, List.cons_append, List.nil_append, List.append_nil, List.getElem?_cons_zero, List.getElem?_cons_succ, List.getElem?_nil, List.set_cons_zero, List.set_cons_succ, List.set_nil, List.map_cons, List.map_nil, Option.map_some, Option.map_none, Option.bind_some, Option.bind_none, if_true, if_false, true_and, and_true, Bool.not_true, Bool.not_false, reduceIte, Bool.false_eq_true, Bool.true_or, Bool.or_true, Bool.true_and, Bool.and_true, Bool.false_and, Bool.and_false, Bool.false_or, Bool.or_false, String.reduceBEq, Int.cast_ofNat_Int, Int.reduceEq, Int.reduceLE, Int.reduceLT, Int.reduceNeg, Int.reduceAdd, Int.reduceSub, Bool.not_eq_true, inB_S, fIn_S, fNotIn_S,  Nat.reduceAdd, List.take_succ_cons, List.take_zero, List.drop_succ_cons, List.drop_zero, Nat.reduceEqDiff, Nat.reduceLeDiff, Nat.zero_le, isIns, fFld, beq_self_eq_true, k0, tyD, subT, fLen, List.any_cons, List.any_nil, wne_then_and, wne_then_or, wne_then_atom, wne_and_then, wne_and_or, wne_and_atom, wne_or_then, wne_or_and, wne_or_atom, wne_atom_then, wne_atom_and, wne_atom_or]
      exact T_is_leaf_gen (t := .atom s) hlf hg (Nat.le_refl _) h
    | fls =>
      rw [show decide (Tm.fls.deep ≤ k + 1) = true from decide_eq_true (by show 1 ≤ k + 1; omega)] at h
      unfold encD
      simp only [wipeE, fIx_0, fIx_1, fIx_2, fEq_str, fNe_str, fEq_int, fNe_int, fEq_bl, fNe_bl, isNon, decide_true, decide_false, eq_self, dSeq, dNext, dRet, dRetN, dDrop, dIfS, dNever, dAsg, dPar, dPar3, dName, dgTup, dgCons, dgNil, dFor, dForL, dVar, dC, dOp, dUn, dNil, dCons, dBagA, dStar, dCB, dTup, dLst, dB, dAnd, dOr, dNot, dIf, dAndV, dOrV, dNotV, dChain, dIsN, dNotN, dIsi, dIsi2, dSl, dPart, dNoPart, dLc, dYes, dCall, dCallN, dDef, dMeth, dMethK, dMethR, dMake, dMakeK, dOwn, dInit, dSetF, dFldO, itemsL, itemsT, itemsS, itemsR1, itemsR2, itemsZ, itemsE, dJoin, dJoined, dJs, dAug, dOwnL, dAppend, dExtend, dPop, starT, datL, ok_some, ok_none, List.length_cons, List.length_nil, List.replicate_succ, List.replicate_zero, List.cons_append, List.nil_append, List.append_nil, List.getElem?_cons_zero, List.getElem?_cons_succ, List.getElem?_nil, List.set_cons_zero, List.set_cons_succ, List.set_nil, List.map_cons, List.map_nil, Option.map_some, Option.map_none, Option.bind_some, Option.bind_none, if_true, if_false, true_and, and_true, Bool.not_true, Bool.not_false, reduceIte, Bool.false_eq_true, Bool.true_or, Bool.or_true, Bool.true_and, Bool.and_true, Bool.false_and, Bool.and_false, Bool.false_or, Bool.or_false, String.reduceBEq, Int.cast_ofNat_Int, Int.reduceEq, Int.reduceLE, Int.reduceLT, Int.reduceNeg, Int.reduceAdd, Int.reduceSub, Bool.not_eq_true, inB_S, fIn_S, fNotIn_S,  Nat.reduceAdd, List.take_succ_cons, List.take_zero, List.drop_succ_cons, List.drop_zero, Nat.reduceEqDiff, Nat.reduceLeDiff, Nat.zero_le, isIns, fFld, beq_self_eq_true, k0, tyD, subT, fLen, List.any_cons, List.any_nil, wne_then_and, wne_then_or, wne_then_false, wne_and_then, wne_and_or, wne_and_false, wne_or_then, wne_or_and, wne_or_false, wne_false_then, wne_false_and, wne_false_or]
      exact T_is_leaf_gen (t := .fls) hlf hg (Nat.le_refl _) h
    | hole s => cases hg
    | part n => cases hg
theorem T_is_formula_eq {t : Tm} {R : D → Prop} {X : Xc → Prop} (hg : t.good = true) (hd : t.deep < 20) (h : R (.bl (decide (t.deep ≤ 10)))) : T_is_formula [.dat (encD t)] R X := by
  unfold T_is_formula
  simp only [wipeE, fIx_0, fIx_1, fIx_2, fEq_str, fNe_str, fEq_int, fNe_int, fEq_bl, fNe_bl, isNon, decide_true, decide_false, eq_self, dSeq, dNext, dRet, dRetN, dDrop, dIfS, dNever, dAsg, dPar, dPar3, dName, dgTup, dgCons, dgNil, dFor, dForL, dVar, dC, dOp, dUn, dNil, dCons, dBagA, dStar, dCB, dTup, dLst, dB, dAnd, dOr, dNot, dIf, dAndV, dOrV, dNotV, dChain, dIsN, dNotN, dIsi, dIsi2, dSl, dPart, dNoPart, dLc, dYes, dCall, dCallN, dDef, dMeth, dMethK, dMethR, dMake, dMakeK, dOwn, dInit, dSetF, dFldO, itemsL, itemsT, itemsS, itemsR1, itemsR2, itemsZ, itemsE, dJoin, dJoined, dJs, dAug, dOwnL, dAppend, dExtend, dPop, starT, datL, ok_some, ok_none, List.length_cons, List.length_nil, List.replicate_succ, List.replicate_zero, List.cons_append, List.nil_append, List.append_nil, List.getElem?_cons_zero, List.getElem?_cons_succ, List.getElem?_nil, List.set_cons_zero, List.set_cons_succ, List.set_nil, List.map_cons, List.map_nil, Option.map_some, Option.map_none, Option.bind_some, Option.bind_none, if_true, if_false, true_and, and_true, Bool.not_true, Bool.not_false, reduceIte, Bool.false_eq_true, Bool.true_or, Bool.or_true, Bool.true_and, Bool.and_true, Bool.false_and, Bool.and_false, Bool.false_or, Bool.or_false, String.reduceBEq, Int.cast_ofNat_Int, Int.reduceEq, Int.reduceLE, Int.reduceLT, Int.reduceNeg, Int.reduceAdd, Int.reduceSub, Bool.not_eq_true, inB_S, fIn_S, fNotIn_S,  Nat.reduceAdd, List.take_succ_cons, List.take_zero, List.drop_succ_cons, List.drop_zero, Nat.reduceEqDiff, Nat.reduceLeDiff, Nat.zero_le, isIns, fFld, beq_self_eq_true]
  exact T_is_form_gen (k := 10) (lf := "") (.inl rfl) hg hd h
theorem T_is_shape_eq {t : Tm} {R : D → Prop} {X : Xc → Prop} (hg : t.good = true) (hd : t.deep < 20) (h : R (.bl (decide (t.deep ≤ 5)))) : T_is_shape [.dat (encD t)] R X := by
  unfold T_is_shape
  simp only [wipeE, fIx_0, fIx_1, fIx_2, fEq_str, fNe_str, fEq_int, fNe_int, fEq_bl, fNe_bl, isNon, decide_true, decide_false, eq_self, dSeq, dNext, dRet, dRetN, dDrop, dIfS, dNever, dAsg, dPar, dPar3, dName, dgTup, dgCons, dgNil, dFor, dForL, dVar, dC, dOp, dUn, dNil, dCons, dBagA, dStar, dCB, dTup, dLst, dB, dAnd, dOr, dNot, dIf, dAndV, dOrV, dNotV, dChain, dIsN, dNotN, dIsi, dIsi2, dSl, dPart, dNoPart, dLc, dYes, dCall, dCallN, dDef, dMeth, dMethK, dMethR, dMake, dMakeK, dOwn, dInit, dSetF, dFldO, itemsL, itemsT, itemsS, itemsR1, itemsR2, itemsZ, itemsE, dJoin, dJoined, dJs, dAug, dOwnL, dAppend, dExtend, dPop, starT, datL, ok_some, ok_none, List.length_cons, List.length_nil, List.replicate_succ, List.replicate_zero, List.cons_append, List.nil_append, List.append_nil, List.getElem?_cons_zero, List.getElem?_cons_succ, List.getElem?_nil, List.set_cons_zero, List.set_cons_succ, List.set_nil, List.map_cons, List.map_nil, Option.map_some, Option.map_none, Option.bind_some, Option.bind_none, if_true, if_false, true_and, and_true, Bool.not_true, Bool.not_false, reduceIte, Bool.false_eq_true, Bool.true_or, Bool.or_true, Bool.true_and, Bool.and_true, Bool.false_and, Bool.and_false, Bool.false_or, Bool.or_false, String.reduceBEq, Int.cast_ofNat_Int, Int.reduceEq, Int.reduceLE, Int.reduceLT, Int.reduceNeg, Int.reduceAdd, Int.reduceSub, Bool.not_eq_true, inB_S, fIn_S, fNotIn_S,  Nat.reduceAdd, List.take_succ_cons, List.take_zero, List.drop_succ_cons, List.drop_zero, Nat.reduceEqDiff, Nat.reduceLeDiff, Nat.zero_le, isIns, fFld, beq_self_eq_true]
  exact T_is_form_gen (k := 5) (lf := "hole") (.inr rfl) hg hd h
theorem T_formula_text_eq {t : Tm} {R : D → Prop} {X : Xc → Prop} (hg : t.good = true) (hd : t.deep < 20) (hl : (wr t).length ≤ 100000) (h1 : t.deep ≤ 10 → R (.str (wr t))) (h2 : ¬ t.deep ≤ 10 → X ⟨cInvalidFormula, [encD t, .str (cp "InvalidFormula")]⟩) : T_formula_text [.dat (encD t)] R X := by
  unfold T_formula_text
  simp only [wipeE, fIx_0, fIx_1, fIx_2, fEq_str, fNe_str, fEq_int, fNe_int, fEq_bl, fNe_bl, isNon, decide_true, decide_false, eq_self, dSeq, dNext, dRet, dRetN, dDrop, dIfS, dNever, dAsg, dPar, dPar3, dName, dgTup, dgCons, dgNil, dFor, dForL, dVar, dC, dOp, dUn, dNil, dCons, dBagA, dStar, dCB, dTup, dLst, dB, dAnd, dOr, dNot, dIf, dAndV, dOrV, dNotV, dChain, dIsN, dNotN, dIsi, dIsi2, dSl, dPart, dNoPart, dLc, dYes, dCall, dCallN, dDef, dMeth, dMethK, dMethR, dMake, dMakeK, dOwn, dInit, dSetF, dFldO, itemsL, itemsT, itemsS, itemsR1, itemsR2, itemsZ, itemsE, dJoin, dJoined, dJs, dAug, dOwnL, dAppend, dExtend, dPop, starT, datL, ok_some, ok_none, List.length_cons, List.length_nil, List.replicate_succ, List.replicate_zero, List.cons_append, List.nil_append, List.append_nil, List.getElem?_cons_zero, List.getElem?_cons_succ, List.getElem?_nil, List.set_cons_zero, List.set_cons_succ, List.set_nil, List.map_cons, List.map_nil, Option.map_some, Option.map_none, Option.bind_some, Option.bind_none, if_true, if_false, true_and, and_true, Bool.not_true, Bool.not_false, reduceIte, Bool.false_eq_true, Bool.true_or, Bool.or_true, Bool.true_and, Bool.and_true, Bool.false_and, Bool.and_false, Bool.false_or, Bool.or_false, String.reduceBEq, Int.cast_ofNat_Int, Int.reduceEq, Int.reduceLE, Int.reduceLT, Int.reduceNeg, Int.reduceAdd, Int.reduceSub, Bool.not_eq_true, inB_S, fIn_S, fNotIn_S,  Nat.reduceAdd, List.take_succ_cons, List.take_zero, List.drop_succ_cons, List.drop_zero, Nat.reduceEqDiff, Nat.reduceLeDiff, Nat.zero_le, isIns, fFld, beq_self_eq_true]
  refine T_is_formula_eq hg hd ?_
  by_cases h : t.deep ≤ 10
  · simp only [wipeE, fIx_0, fIx_1, fIx_2, fEq_str, fNe_str, fEq_int, fNe_int, fEq_bl, fNe_bl, isNon, decide_true, decide_false, eq_self, dSeq, dNext, dRet, dRetN, dDrop, dIfS, dNever, dAsg, dPar, dPar3, dName, dgTup, dgCons, dgNil, dFor, dForL, dVar, dC, dOp, dUn, dNil, dCons, dBagA, dStar, dCB, dTup, dLst, dB, dAnd, dOr, dNot, dIf, dAndV, dOrV, dNotV, dChain, dIsN, dNotN, dIsi, dIsi2, dSl, dPart, dNoPart, dLc, dYes, dCall, dCallN, dDef, dMeth, dMethK, dMethR, dMake, dMakeK, dOwn, dInit, dSetF, dFldO, itemsL, itemsT, itemsS, itemsR1, itemsR2, itemsZ, itemsE, dJoin, dJoined, dJs, dAug, dOwnL, dAppend, dExtend, dPop, starT, datL, ok_some, ok_none, List.length_cons, List.length_nil, List.replicate_succ, List.replicate_zero, List.cons_append, List.nil_append, List.append_nil, List.getElem?_cons_zero, List.getElem?_cons_succ, List.getElem?_nil, List.set_cons_zero, List.set_cons_succ, List.set_nil, List.map_cons, List.map_nil, Option.map_some, Option.map_none, Option.bind_some, Option.bind_none, if_true, if_false, true_and, and_true, Bool.not_true, Bool.not_false, reduceIte, Bool.false_eq_true, Bool.true_or, Bool.or_true, Bool.true_and, Bool.and_true, Bool.false_and, Bool.and_false, Bool.false_or, Bool.or_false, String.reduceBEq, Int.cast_ofNat_Int, Int.reduceEq, Int.reduceLE, Int.reduceLT, Int.reduceNeg, Int.reduceAdd, Int.reduceSub, Bool.not_eq_true, inB_S, fIn_S, fNotIn_S,  Nat.reduceAdd, List.take_succ_cons, List.take_zero, List.drop_succ_cons, List.drop_zero, Nat.reduceEqDiff, Nat.reduceLeDiff, Nat.zero_le, isIns, fFld, beq_self_eq_true, h]
    exact T_written_eq (good_tx hg) hd hl (h1 h)
  · simp only [wipeE, fIx_0, fIx_1, fIx_2, fEq_str, fNe_str, fEq_int, fNe_int, fEq_bl, fNe_bl, isNon, decide_true, decide_false, eq_self, dSeq, dNext, dRet, dRetN, dDrop, dIfS, dNever, dAsg, dPar, dPar3, dName, dgTup, dgCons, dgNil, dFor, dForL, dVar, dC, dOp, dUn, dNil, dCons, dBagA, dStar, dCB, dTup, dLst, dB, dAnd, dOr, dNot, dIf, dAndV, dOrV, dNotV, dChain, dIsN, dNotN, dIsi, dIsi2, dSl, dPart, dNoPart, dLc, dYes, dCall, dCallN, dDef, dMeth, dMethK, dMethR, dMake, dMakeK, dOwn, dInit, dSetF, dFldO, itemsL, itemsT, itemsS, itemsR1, itemsR2, itemsZ, itemsE, dJoin, dJoined, dJs, dAug, dOwnL, dAppend, dExtend, dPop, starT, datL, ok_some, ok_none, List.length_cons, List.length_nil, List.replicate_succ, List.replicate_zero, List.cons_append, List.nil_append, List.append_nil, List.getElem?_cons_zero, List.getElem?_cons_succ, List.getElem?_nil, List.set_cons_zero, List.set_cons_succ, List.set_nil, List.map_cons, List.map_nil, Option.map_some, Option.map_none, Option.bind_some, Option.bind_none, if_true, if_false, true_and, and_true, Bool.not_true, Bool.not_false, reduceIte, Bool.false_eq_true, Bool.true_or, Bool.or_true, Bool.true_and, Bool.and_true, Bool.false_and, Bool.and_false, Bool.false_or, Bool.or_false, String.reduceBEq, Int.cast_ofNat_Int, Int.reduceEq, Int.reduceLE, Int.reduceLT, Int.reduceNeg, Int.reduceAdd, Int.reduceSub, Bool.not_eq_true, inB_S, fIn_S, fNotIn_S,  Nat.reduceAdd, List.take_succ_cons, List.take_zero, List.drop_succ_cons, List.drop_zero, Nat.reduceEqDiff, Nat.reduceLeDiff, Nat.zero_le, isIns, fFld, beq_self_eq_true, h]
    refine T_is_shape_eq hg hd ?_
    have h5 : ¬ t.deep ≤ 5 := by omega
    simp only [wipeE, fIx_0, fIx_1, fIx_2, fEq_str, fNe_str, fEq_int, fNe_int, fEq_bl, fNe_bl, isNon, decide_true, decide_false, eq_self, dSeq, dNext, dRet, dRetN, dDrop, dIfS, dNever, dAsg, dPar, dPar3, dName, dgTup, dgCons, dgNil, dFor, dForL, dVar, dC, dOp, dUn, dNil, dCons, dBagA, dStar, dCB, dTup, dLst, dB, dAnd, dOr, dNot, dIf, dAndV, dOrV, dNotV, dChain, dIsN, dNotN, dIsi, dIsi2, dSl, dPart, dNoPart, dLc, dYes, dCall, dCallN, dDef, dMeth, dMethK, dMethR, dMake, dMakeK, dOwn, dInit, dSetF, dFldO, itemsL, itemsT, itemsS, itemsR1, itemsR2, itemsZ, itemsE, dJoin, dJoined, dJs, dAug, dOwnL, dAppend, dExtend, dPop, starT, datL, ok_some, ok_none, List.length_cons, List.length_nil, List.replicate_succ, List.replicate_zero, List.cons_append, List.nil_append, List.append_nil, List.getElem?_cons_zero, List.getElem?_cons_succ, List.getElem?_nil, List.set_cons_zero, List.set_cons_succ, List.set_nil, List.map_cons, List.map_nil, Option.map_some, Option.map_none, Option.bind_some, Option.bind_none, if_true, if_false, true_and, and_true, Bool.not_true, Bool.not_false, reduceIte, Bool.false_eq_true, Bool.true_or, Bool.or_true, Bool.true_and, Bool.and_true, Bool.false_and, Bool.and_false, Bool.false_or, Bool.or_false, String.reduceBEq, Int.cast_ofNat_Int, Int.reduceEq, Int.reduceLE, Int.reduceLT, Int.reduceNeg, Int.reduceAdd, Int.reduceSub, Bool.not_eq_true, inB_S, fIn_S, fNotIn_S,  Nat.reduceAdd, List.take_succ_cons, List.take_zero, List.drop_succ_cons, List.drop_zero, Nat.reduceEqDiff, Nat.reduceLeDiff, Nat.zero_le, isIns, fFld, beq_self_eq_true, h5]
    exact h2 h
theorem T_formin_gen {X : Xc → Prop} : ∀ {n : Nat} {t : Tm} {k : Nat} {R : D → Prop}, t.tx = true → t.deep < n → (wr t).length ≤ 100000 → R (if t.deep ≤ k then encD t else .non) → T_form_in n [.dat (.str (wr t)), .dat (.int (k : Nat))] R X
  | 0, _, _, _, _, h, _, _ => absurd h (Nat.not_lt_zero _)
  | n + 1, t, 0, R, hx, hn, hl, hR => by
    have dp := t.deep_pos
    rw [if_neg (by omega)] at hR
    unfold T_form_in
    simp only [wipeE, fIx_0, fIx_1, fIx_2, fEq_str, fNe_str, fEq_int, fNe_int, fEq_bl, fNe_bl, isNon, decide_true, decide_false, eq_self, dSeq, dNext, dRet, dRetN, dDrop, dIfS, dNever, dAsg, dPar, dPar3, dName, dgTup, dgCons, dgNil, dFor, dForL, dVar, dC, dOp, dUn, dNil, dCons, dBagA, dStar, dCB, dTup, dLst, dB, dAnd, dOr, dNot, dIf, dAndV, dOrV, dNotV, dChain, dIsN, dNotN, dIsi, dIsi2, dSl, dPart, dNoPart, dLc, dYes, dCall, dCallN, dDef, dMeth, dMethK, dMethR, dMake, dMakeK, dOwn, dInit, dSetF, dFldO, itemsL, itemsT, itemsS, itemsR1, itemsR2, itemsZ, itemsE, dJoin, dJoined, dJs, dAug, dOwnL, dAppend, dExtend, dPop, starT, datL, ok_some, ok_none, List.length_cons, List.length_nil, List.replicate_succ, List.replicate_zero, List.cons_append, List.nil_append, List.append_nil, List.getElem?_cons_zero, List.getElem?_cons_succ, List.getElem?_nil, List.set_cons_zero, List.set_cons_succ, List.set_nil, List.map_cons, List.map_nil, Option.map_some, Option.map_none, Option.bind_some, Option.bind_none, if_true, if_false, true_and, and_true, Bool.not_true, Bool.not_false, reduceIte, Bool.false_eq_true, Bool.true_or, Bool.or_true, Bool.true_and, Bool.and_true, Bool.false_and, Bool.and_false, Bool.false_or, Bool.or_false, String.reduceBEq, Int.cast_ofNat_Int, Int.reduceEq, Int.reduceLE, Int.reduceLT, Int.reduceNeg, Int.reduceAdd, Int.reduceSub, Bool.not_eq_true, inB_S, fIn_S, fNotIn_S,  Nat.reduceAdd, List.take_succ_cons, List.take_zero, List.drop_succ_cons, List.drop_zero, Nat.reduceEqDiff, Nat.reduceLeDiff, Nat.zero_le, isIns, fFld, beq_self_eq_true, Int.cast_ofNat_Int]
    exact hR
  | n + 1, .bin o a b, k + 1, R, hx, hn, hl, hR => by
    have e0 : (((k + 1 : Nat) : Int) = 0) = False := by simp only [eq_iff_iff, iff_false]; omega
    have e1 : (wr (.bin o a b) = []) = False := eq_false (wr_ne hx)
    unfold T_form_in
    simp only [wipeE, fIx_0, fIx_1, fIx_2, fEq_str, fNe_str, fEq_int, fNe_int, fEq_bl, fNe_bl, isNon, decide_true, decide_false, eq_self, dSeq, dNext, dRet, dRetN, dDrop, dIfS, dNever, dAsg, dPar, dPar3, dName, dgTup, dgCons, dgNil, dFor, dForL, dVar, dC, dOp, dUn, dNil, dCons, dBagA, dStar, dCB, dTup, dLst, dB, dAnd, dOr, dNot, dIf, dAndV, dOrV, dNotV, dChain, dIsN, dNotN, dIsi, dIsi2, dSl, dPart, dNoPart, dLc, dYes, dCall, dCallN, dDef, dMeth, dMethK, dMethR, dMake, dMakeK, dOwn, dInit, dSetF, dFldO, itemsL, itemsT, itemsS, itemsR1, itemsR2, itemsZ, itemsE, dJoin, dJoined, dJs, dAug, dOwnL, dAppend, dExtend, dPop, starT, datL, ok_some, ok_none, List.length_cons, List.length_nil, List.replicate_succ, List.replicate_zero, List.cons_append, List.nil_append, List.append_nil, List.getElem?_cons_zero, List.getElem?_cons_succ, List.getElem?_nil, List.set_cons_zero, List.set_cons_succ, List.set_nil, List.map_cons, List.map_nil, Option.map_some, Option.map_none, Option.bind_some, Option.bind_none, if_true, if_false, true_and, and_true, Bool.not_true, Bool.not_false, reduceIte, Bool.false_eq_true, Bool.true_or, Bool.or_true, Bool.true_and, Bool.and_true, Bool.false_and, Bool.and_false, Bool.false_or, Bool.or_false, String.reduceBEq, Int.cast_ofNat_Int, Int.reduceEq, Int.reduceLE, Int.reduceLT, Int.reduceNeg, Int.reduceAdd, Int.reduceSub, Bool.not_eq_true, inB_S, fIn_S, fNotIn_S,  Nat.reduceAdd, List.take_succ_cons, List.take_zero, List.drop_succ_cons, List.drop_zero, Nat.reduceEqDiff, Nat.reduceLeDiff, Nat.zero_le, isIns, fFld, beq_self_eq_true, e0, cp_e, e1]
    unfold Tm.tx at hx
    rw [Bool.and_eq_true_iff] at hx
    have hdp : (Tm.bin o a b).deep = max a.deep b.deep + 1 := rfl
    rw [hdp] at hn hR
    unfold wr at hl
    have hl2 := hl
    simp only [List.length_cons, List.length_append, List.length_nil] at hl2
    have ea : wr (.bin o a b) = 40 :: ((wr a ++ (32 :: sgn o :: 32 :: wr b)) ++ [41]) := by
      show 40 :: (wr a ++ (32 :: sgn o :: 32 :: (wr b ++ [41]))) = _
      simp
    have eb : wr (.bin o a b) = (40 :: (wr a ++ (32 :: sgn o :: 32 :: wr b))) ++ [41] := by rw [ea]; simp
    have hw : (wr (.bin o a b)).length ≤ 1000000 := by unfold wr; omega
    have i0 : fIx (.str (wr (.bin o a b))) (.int 0) = some (.str [40]) := fIx_str (k := 0) hw rfl
    have i1 : fIx (.str (wr (.bin o a b))) (.int (-1)) = some (.str [41]) := by
      unfold fIx
      dsimp only
      rw [if_pos hw, eb, atI_last]
      rfl
    have s1 : fSl (.str (wr (.bin o a b))) (some 1) (some (-1)) = some (.str (wr a ++ (32 :: sgn o :: 32 :: wr b))) := by
      unfold fSl
      dsimp only
      rw [if_pos hw, ea, cutL_inner]
    have c0 : (wr (.bin o a b) = [48]) = False := by rw [ea]; simp
    have c1 : (([40] : List Nat) = [63]) = False := by simp
    have e3 : ((k + 1 : Nat) : Int) - 1 = ((k : Nat) : Int) := by omega
    generalize hW : wr (.bin o a b) = W at *
    simp only [wipeE, fIx_0, fIx_1, fIx_2, fEq_str, fNe_str, fEq_int, fNe_int, fEq_bl, fNe_bl, isNon, decide_true, decide_false, eq_self, dSeq, dNext, dRet, dRetN, dDrop, dIfS, dNever, dAsg, dPar, dPar3, dName, dgTup, dgCons, dgNil, dFor, dForL, dVar, dC, dOp, dUn, dNil, dCons, dBagA, dStar, dCB, dTup, dLst, dB, dAnd, dOr, dNot, dIf, dAndV, dOrV, dNotV, dChain, dIsN, dNotN, dIsi, dIsi2, dSl, dPart, dNoPart, dLc, dYes, dCall, dCallN, dDef, dMeth, dMethK, dMethR, dMake, dMakeK, dOwn, dInit, dSetF, dFldO, itemsL, itemsT, itemsS, itemsR1, itemsR2, itemsZ, itemsE, dJoin, dJoined, dJs, dAug, dOwnL, dAppend, dExtend, dPop, starT, datL, ok_some, ok_none, List.length_cons, List.length_nil, List.replicate_succ, List.replicate_zero, List.cons_append, List.nil_append, List.append_nil, List.getElem?_cons_zero, List.getElem?_cons_succ, List.getElem?_nil, List.set_cons_zero, List.set_cons_succ, List.set_nil, List.map_cons, List.map_nil, Option.map_some, Option.map_none, Option.bind_some, Option.bind_none, if_true, if_false, true_and, and_true, Bool.not_true, Bool.not_false, reduceIte, Bool.false_eq_true, Bool.true_or, Bool.or_true, Bool.true_and, Bool.and_true, Bool.false_and, Bool.and_false, Bool.false_or, Bool.or_false, String.reduceBEq, Int.cast_ofNat_Int, Int.reduceEq, Int.reduceLE, Int.reduceLT, Int.reduceNeg, Int.reduceAdd, Int.reduceSub, Bool.not_eq_true, inB_S, fIn_S, fNotIn_S,  Nat.reduceAdd, List.take_succ_cons, List.take_zero, List.drop_succ_cons, List.drop_zero, Nat.reduceEqDiff, Nat.reduceLeDiff, Nat.zero_le, isIns, fFld, beq_self_eq_true, cp_0, c0, i0, cp_q, c1, cp_lp, fNeg, s1]
    refine T_split_eq hx.1 (by simp; omega) ?_
    simp only [wipeE, fIx_0, fIx_1, fIx_2, fEq_str, fNe_str, fEq_int, fNe_int, fEq_bl, fNe_bl, isNon, decide_true, decide_false, eq_self, dSeq, dNext, dRet, dRetN, dDrop, dIfS, dNever, dAsg, dPar, dPar3, dName, dgTup, dgCons, dgNil, dFor, dForL, dVar, dC, dOp, dUn, dNil, dCons, dBagA, dStar, dCB, dTup, dLst, dB, dAnd, dOr, dNot, dIf, dAndV, dOrV, dNotV, dChain, dIsN, dNotN, dIsi, dIsi2, dSl, dPart, dNoPart, dLc, dYes, dCall, dCallN, dDef, dMeth, dMethK, dMethR, dMake, dMakeK, dOwn, dInit, dSetF, dFldO, itemsL, itemsT, itemsS, itemsR1, itemsR2, itemsZ, itemsE, dJoin, dJoined, dJs, dAug, dOwnL, dAppend, dExtend, dPop, starT, datL, ok_some, ok_none, List.length_cons, List.length_nil, List.replicate_succ, List.replicate_zero, List.cons_append, List.nil_append, List.append_nil, List.getElem?_cons_zero, List.getElem?_cons_succ, List.getElem?_nil, List.set_cons_zero, List.set_cons_succ, List.set_nil, List.map_cons, List.map_nil, Option.map_some, Option.map_none, Option.bind_some, Option.bind_none, if_true, if_false, true_and, and_true, Bool.not_true, Bool.not_false, reduceIte, Bool.false_eq_true, Bool.true_or, Bool.or_true, Bool.true_and, Bool.and_true, Bool.false_and, Bool.and_false, Bool.false_or, Bool.or_false, String.reduceBEq, Int.cast_ofNat_Int, Int.reduceEq, Int.reduceLE, Int.reduceLT, Int.reduceNeg, Int.reduceAdd, Int.reduceSub, Bool.not_eq_true, inB_S, fIn_S, fNotIn_S,  Nat.reduceAdd, List.take_succ_cons, List.take_zero, List.drop_succ_cons, List.drop_zero, Nat.reduceEqDiff, Nat.reduceLeDiff, Nat.zero_le, isIns, fFld, beq_self_eq_true, i1, cp_rp, fSub, fInt, e3]
    refine T_formin_gen hx.1 (by omega) (by omega) ?_
    refine T_formin_gen hx.2 (by omega) (by omega) ?_
    simp only [wipeE, fIx_0, fIx_1, fIx_2, fEq_str, fNe_str, fEq_int, fNe_int, fEq_bl, fNe_bl, isNon, decide_true, decide_false, eq_self, dSeq, dNext, dRet, dRetN, dDrop, dIfS, dNever, dAsg, dPar, dPar3, dName, dgTup, dgCons, dgNil, dFor, dForL, dVar, dC, dOp, dUn, dNil, dCons, dBagA, dStar, dCB, dTup, dLst, dB, dAnd, dOr, dNot, dIf, dAndV, dOrV, dNotV, dChain, dIsN, dNotN, dIsi, dIsi2, dSl, dPart, dNoPart, dLc, dYes, dCall, dCallN, dDef, dMeth, dMethK, dMethR, dMake, dMakeK, dOwn, dInit, dSetF, dFldO, itemsL, itemsT, itemsS, itemsR1, itemsR2, itemsZ, itemsE, dJoin, dJoined, dJs, dAug, dOwnL, dAppend, dExtend, dPop, starT, datL, ok_some, ok_none, List.length_cons, List.length_nil, List.replicate_succ, List.replicate_zero, List.cons_append, List.nil_append, List.append_nil, List.getElem?_cons_zero, List.getElem?_cons_succ, List.getElem?_nil, List.set_cons_zero, List.set_cons_succ, List.set_nil, List.map_cons, List.map_nil, Option.map_some, Option.map_none, Option.bind_some, Option.bind_none, if_true, if_false, true_and, and_true, Bool.not_true, Bool.not_false, reduceIte, Bool.false_eq_true, Bool.true_or, Bool.or_true, Bool.true_and, Bool.and_true, Bool.false_and, Bool.and_false, Bool.false_or, Bool.or_false, String.reduceBEq, Int.cast_ofNat_Int, Int.reduceEq, Int.reduceLE, Int.reduceLT, Int.reduceNeg, Int.reduceAdd, Int.reduceSub, Bool.not_eq_true, inB_S, fIn_S, fNotIn_S,  Nat.reduceAdd, List.take_succ_cons, List.take_zero, List.drop_succ_cons, List.drop_zero, Nat.reduceEqDiff, Nat.reduceLeDiff, Nat.zero_le, isIns, fFld, beq_self_eq_true, kd_op]
    show if isNon (if a.deep ≤ k then encD a else .non) = true then R .non else if isNon (if b.deep ≤ k then encD b else .non) = true then R .non else R (.tup [.str (opC o), (if a.deep ≤ k then encD a else .non), (if b.deep ≤ k then encD b else .non)])
    by_cases ha : a.deep ≤ k
    · by_cases hb : b.deep ≤ k
      · rw [if_pos ha, if_pos hb, isNon_enc, isNon_enc]
        rw [if_pos (by omega)] at hR
        exact hR
      · rw [if_pos ha, if_neg hb, isNon_enc]
        rw [if_neg (by omega)] at hR
        exact hR
    · rw [if_neg ha]
      rw [if_neg (by omega)] at hR
      exact hR
  | n + 1, .fls, k + 1, R, hx, hn, hl, hR => by
    rw [if_pos (show Tm.fls.deep ≤ k + 1 by show 1 ≤ k + 1; omega)] at hR
    exact T_formin_eq hx (by show 1 ≤ k + 1; omega) hn hl hR
  | n + 1, .atom s, k + 1, R, hx, hn, hl, hR => by
    rw [if_pos (show (Tm.atom s).deep ≤ k + 1 by show 1 ≤ k + 1; omega)] at hR
    exact T_formin_eq hx (by show 1 ≤ k + 1; omega) hn hl hR
  | n + 1, .hole s, k + 1, R, hx, hn, hl, hR => by
    rw [if_pos (show (Tm.hole s).deep ≤ k + 1 by show 1 ≤ k + 1; omega)] at hR
    exact T_formin_eq hx (by show 1 ≤ k + 1; omega) hn hl hR
  | n + 1, .part m, k + 1, R, hx, hn, hl, hR => by cases hx
theorem T_is_formula_non {R : D → Prop} {X : Xc → Prop} (h : R (.bl false)) : T_is_formula [.dat .non] R X := by
  unfold T_is_formula
  simp only [wipeE, fIx_0, fIx_1, fIx_2, fEq_str, fNe_str, fEq_int, fNe_int, fEq_bl, fNe_bl, isNon, decide_true, decide_false, eq_self, dSeq, dNext, dRet, dRetN, dDrop, dIfS, dNever, dAsg, dPar, dPar3, dName, dgTup, dgCons, dgNil, dFor, dForL, dVar, dC, dOp, dUn, dNil, dCons, dBagA, dStar, dCB, dTup, dLst, dB, dAnd, dOr, dNot, dIf, dAndV, dOrV, dNotV, dChain, dIsN, dNotN, dIsi, dIsi2, dSl, dPart, dNoPart, dLc, dYes, dCall, dCallN, dDef, dMeth, dMethK, dMethR, dMake, dMakeK, dOwn, dInit, dSetF, dFldO, itemsL, itemsT, itemsS, itemsR1, itemsR2, itemsZ, itemsE, dJoin, dJoined, dJs, dAug, dOwnL, dAppend, dExtend, dPop, starT, datL, ok_some, ok_none, List.length_cons, List.length_nil, List.replicate_succ, List.replicate_zero, List.cons_append, List.nil_append, List.append_nil, List.getElem?_cons_zero, List.getElem?_cons_succ, List.getElem?_nil, List.set_cons_zero, List.set_cons_succ, List.set_nil, List.map_cons, List.map_nil, Option.map_some, Option.map_none, Option.bind_some, Option.bind_none, if_true, if_false, true_and, and_true, Bool.not_true, Bool.not_false, reduceIte, Bool.false_eq_true, Bool.true_or, Bool.or_true, Bool.true_and, Bool.and_true, Bool.false_and, Bool.and_false, Bool.false_or, Bool.or_false, String.reduceBEq, Int.cast_ofNat_Int, Int.reduceEq, Int.reduceLE, Int.reduceLT, Int.reduceNeg, Int.reduceAdd, Int.reduceSub, Bool.not_eq_true, inB_S, fIn_S, fNotIn_S,  Nat.reduceAdd, List.take_succ_cons, List.take_zero, List.drop_succ_cons, List.drop_zero, Nat.reduceEqDiff, Nat.reduceLeDiff, Nat.zero_le, isIns, fFld, beq_self_eq_true]
  unfold T_is_form
  simp only [wipeE, fIx_0, fIx_1, fIx_2, fEq_str, fNe_str, fEq_int, fNe_int, fEq_bl, fNe_bl, isNon, decide_true, decide_false, eq_self, dSeq, dNext, dRet, dRetN, dDrop, dIfS, dNever, dAsg, dPar, dPar3, dName, dgTup, dgCons, dgNil, dFor, dForL, dVar, dC, dOp, dUn, dNil, dCons, dBagA, dStar, dCB, dTup, dLst, dB, dAnd, dOr, dNot, dIf, dAndV, dOrV, dNotV, dChain, dIsN, dNotN, dIsi, dIsi2, dSl, dPart, dNoPart, dLc, dYes, dCall, dCallN, dDef, dMeth, dMethK, dMethR, dMake, dMakeK, dOwn, dInit, dSetF, dFldO, itemsL, itemsT, itemsS, itemsR1, itemsR2, itemsZ, itemsE, dJoin, dJoined, dJs, dAug, dOwnL, dAppend, dExtend, dPop, starT, datL, ok_some, ok_none, List.length_cons, List.length_nil, List.replicate_succ, List.replicate_zero, List.cons_append, List.nil_append, List.append_nil, List.getElem?_cons_zero, List.getElem?_cons_succ, List.getElem?_nil, List.set_cons_zero, List.set_cons_succ, List.set_nil, List.map_cons, List.map_nil, Option.map_some, Option.map_none, Option.bind_some, Option.bind_none, if_true, if_false, true_and, and_true, Bool.not_true, Bool.not_false, reduceIte, Bool.false_eq_true, Bool.true_or, Bool.or_true, Bool.true_and, Bool.and_true, Bool.false_and, Bool.and_false, Bool.false_or, Bool.or_false, String.reduceBEq, Int.cast_ofNat_Int, Int.reduceEq, Int.reduceLE, Int.reduceLT, Int.reduceNeg, Int.reduceAdd, Int.reduceSub, Bool.not_eq_true, inB_S, fIn_S, fNotIn_S,  Nat.reduceAdd, List.take_succ_cons, List.take_zero, List.drop_succ_cons, List.drop_zero, Nat.reduceEqDiff, Nat.reduceLeDiff, Nat.zero_le, isIns, fFld, beq_self_eq_true, tyD, subT]
  exact h
theorem T_read_formula_eq {t : Tm} {R : D → Prop} {X : Xc → Prop} (hg : t.good = true) (hd : t.deep < 20) (hl : (wr t).length ≤ 100000) (h1 : t.deep ≤ 10 → R (encD t)) (h2 : ¬ t.deep ≤ 10 → X ⟨cInvalidFormula, [.str (wr t), .str (cp "InvalidFormula")]⟩) : T_read_formula [.dat (.str (wr t))] R X := by
  unfold T_read_formula
  simp only [wipeE, fIx_0, fIx_1, fIx_2, fEq_str, fNe_str, fEq_int, fNe_int, fEq_bl, fNe_bl, isNon, decide_true, decide_false, eq_self, dSeq, dNext, dRet, dRetN, dDrop, dIfS, dNever, dAsg, dPar, dPar3, dName, dgTup, dgCons, dgNil, dFor, dForL, dVar, dC, dOp, dUn, dNil, dCons, dBagA, dStar, dCB, dTup, dLst, dB, dAnd, dOr, dNot, dIf, dAndV, dOrV, dNotV, dChain, dIsN, dNotN, dIsi, dIsi2, dSl, dPart, dNoPart, dLc, dYes, dCall, dCallN, dDef, dMeth, dMethK, dMethR, dMake, dMakeK, dOwn, dInit, dSetF, dFldO, itemsL, itemsT, itemsS, itemsR1, itemsR2, itemsZ, itemsE, dJoin, dJoined, dJs, dAug, dOwnL, dAppend, dExtend, dPop, starT, datL, ok_some, ok_none, List.length_cons, List.length_nil, List.replicate_succ, List.replicate_zero, List.cons_append, List.nil_append, List.append_nil, List.getElem?_cons_zero, List.getElem?_cons_succ, List.getElem?_nil, List.set_cons_zero, List.set_cons_succ, List.set_nil, List.map_cons, List.map_nil, Option.map_some, Option.map_none, Option.bind_some, Option.bind_none, if_true, if_false, true_and, and_true, Bool.not_true, Bool.not_false, reduceIte, Bool.false_eq_true, Bool.true_or, Bool.or_true, Bool.true_and, Bool.and_true, Bool.false_and, Bool.and_false, Bool.false_or, Bool.or_false, String.reduceBEq, Int.cast_ofNat_Int, Int.reduceEq, Int.reduceLE, Int.reduceLT, Int.reduceNeg, Int.reduceAdd, Int.reduceSub, Bool.not_eq_true, inB_S, fIn_S, fNotIn_S,  Nat.reduceAdd, List.take_succ_cons, List.take_zero, List.drop_succ_cons, List.drop_zero, Nat.reduceEqDiff, Nat.reduceLeDiff, Nat.zero_le, isIns, fFld, beq_self_eq_true, tyD, subT]
  refine T_formin_gen (k := 10) (good_tx hg) hd hl ?_
  by_cases h : t.deep ≤ 10
  · rw [if_pos h]
    refine T_is_formula_eq hg hd ?_
    simp only [wipeE, fIx_0, fIx_1, fIx_2, fEq_str, fNe_str, fEq_int, fNe_int, fEq_bl, fNe_bl, isNon, decide_true, decide_false, eq_self, dSeq, dNext, dRet, dRetN, dDrop, dIfS, dNever, dAsg, dPar, dPar3, dName, dgTup, dgCons, dgNil, dFor, dForL, dVar, dC, dOp, dUn, dNil, dCons, dBagA, dStar, dCB, dTup, dLst, dB, dAnd, dOr, dNot, dIf, dAndV, dOrV, dNotV, dChain, dIsN, dNotN, dIsi, dIsi2, dSl, dPart, dNoPart, dLc, dYes, dCall, dCallN, dDef, dMeth, dMethK, dMethR, dMake, dMakeK, dOwn, dInit, dSetF, dFldO, itemsL, itemsT, itemsS, itemsR1, itemsR2, itemsZ, itemsE, dJoin, dJoined, dJs, dAug, dOwnL, dAppend, dExtend, dPop, starT, datL, ok_some, ok_none, List.length_cons, List.length_nil, List.replicate_succ, List.replicate_zero, List.cons_append, List.nil_append, List.append_nil, List.getElem?_cons_zero, List.getElem?_cons_succ, List.getElem?_nil, List.set_cons_zero, List.set_cons_succ, List.set_nil, List.map_cons, List.map_nil, Option.map_some, Option.map_none, Option.bind_some, Option.bind_none, if_true, if_false, true_and, and_true, Bool.not_true, Bool.not_false, reduceIte, Bool.false_eq_true, Bool.true_or, Bool.or_true, Bool.true_and, Bool.and_true, Bool.false_and, Bool.and_false, Bool.false_or, Bool.or_false, String.reduceBEq, Int.cast_ofNat_Int, Int.reduceEq, Int.reduceLE, Int.reduceLT, Int.reduceNeg, Int.reduceAdd, Int.reduceSub, Bool.not_eq_true, inB_S, fIn_S, fNotIn_S,  Nat.reduceAdd, List.take_succ_cons, List.take_zero, List.drop_succ_cons, List.drop_zero, Nat.reduceEqDiff, Nat.reduceLeDiff, Nat.zero_le, isIns, fFld, beq_self_eq_true, h]
    exact h1 h
  · rw [if_neg h]
    refine T_is_formula_non ?_
    simp only [wipeE, fIx_0, fIx_1, fIx_2, fEq_str, fNe_str, fEq_int, fNe_int, fEq_bl, fNe_bl, isNon, decide_true, decide_false, eq_self, dSeq, dNext, dRet, dRetN, dDrop, dIfS, dNever, dAsg, dPar, dPar3, dName, dgTup, dgCons, dgNil, dFor, dForL, dVar, dC, dOp, dUn, dNil, dCons, dBagA, dStar, dCB, dTup, dLst, dB, dAnd, dOr, dNot, dIf, dAndV, dOrV, dNotV, dChain, dIsN, dNotN, dIsi, dIsi2, dSl, dPart, dNoPart, dLc, dYes, dCall, dCallN, dDef, dMeth, dMethK, dMethR, dMake, dMakeK, dOwn, dInit, dSetF, dFldO, itemsL, itemsT, itemsS, itemsR1, itemsR2, itemsZ, itemsE, dJoin, dJoined, dJs, dAug, dOwnL, dAppend, dExtend, dPop, starT, datL, ok_some, ok_none, List.length_cons, List.length_nil, List.replicate_succ, List.replicate_zero, List.cons_append, List.nil_append, List.append_nil, List.getElem?_cons_zero, List.getElem?_cons_succ, List.getElem?_nil, List.set_cons_zero, List.set_cons_succ, List.set_nil, List.map_cons, List.map_nil, Option.map_some, Option.map_none, Option.bind_some, Option.bind_none, if_true, if_false, true_and, and_true, Bool.not_true, Bool.not_false, reduceIte, Bool.false_eq_true, Bool.true_or, Bool.or_true, Bool.true_and, Bool.and_true, Bool.false_and, Bool.and_false, Bool.false_or, Bool.or_false, String.reduceBEq, Int.cast_ofNat_Int, Int.reduceEq, Int.reduceLE, Int.reduceLT, Int.reduceNeg, Int.reduceAdd, Int.reduceSub, Bool.not_eq_true, inB_S, fIn_S, fNotIn_S,  Nat.reduceAdd, List.take_succ_cons, List.take_zero, List.drop_succ_cons, List.drop_zero, Nat.reduceEqDiff, Nat.reduceLeDiff, Nat.zero_le, isIns, fFld, beq_self_eq_true]
    exact h2 h
theorem T_lawdeep_eq {X : Xc → Prop} : ∀ {n : Nat} {t : Tm} {R : D → Prop}, t.deep < n → R (.int (t.deep : Nat)) → T__law_deep n [.dat (encD t)] R X
  | 0, _, _, h, _ => absurd h (Nat.not_lt_zero _)
  | n + 1, .bin o a b, R, hn, hR => by
    have hdp : (Tm.bin o a b).deep = max a.deep b.deep + 1 := rfl
    rw [hdp] at hn hR
    have p := pairs_op o
    unfold T__law_deep
    have ft : ∀ l, fIn (.str l) (.tup [.str (cp "then"), .str (cp "and"), .str (cp "or")]) = some (.bl (["then", "and", "or"].any fun s => decide (cp s = l))) := fun l => fIn_S (ss := ["then", "and", "or"])
    simp only [wipeE, fIx_0, fIx_1, fIx_2, fEq_str, fNe_str, fEq_int, fNe_int, fEq_bl, fNe_bl, isNon, decide_true, decide_false, eq_self, dSeq, dNext, dRet, dRetN, dDrop, dIfS, dNever, dAsg, dPar, dPar3, dName, dgTup, dgCons, dgNil, dFor, dForL, dVar, dC, dOp, dUn, dNil, dCons, dBagA, dStar, dCB, dTup, dLst, dB, dAnd, dOr, dNot, dIf, dAndV, dOrV, dNotV, dChain, dIsN, dNotN, dIsi, dIsi2, dSl, dPart, dNoPart, dLc, dYes, dCall, dCallN, dDef, dMeth, dMethK, dMethR, dMake, dMakeK, dOwn, dInit, dSetF, dFldO, itemsL, itemsT, itemsS, itemsR1, itemsR2, itemsZ, itemsE, dJoin, dJoined, dJs, dAug, dOwnL, dAppend, dExtend, dPop, starT, datL, ok_some, ok_none, List.length_cons, List.length_nil, List.replicate_succ, List.replicate_zero, List.cons_append, List.nil_append, List.append_nil, List.getElem?_cons_zero, List.getElem?_cons_succ, List.getElem?_nil, List.set_cons_zero, List.set_cons_succ, List.set_nil, List.map_cons, List.map_nil, Option.map_some, Option.map_none, Option.bind_some, Option.bind_none, if_true, if_false, true_and, and_true, Bool.not_true, Bool.not_false, reduceIte, Bool.false_eq_true, Bool.true_or, Bool.or_true, Bool.true_and, Bool.and_true, Bool.false_and, Bool.and_false, Bool.false_or, Bool.or_false, String.reduceBEq, Int.cast_ofNat_Int, Int.reduceEq, Int.reduceLE, Int.reduceLT, Int.reduceNeg, Int.reduceAdd, Int.reduceSub, Bool.not_eq_true, inB_S, fIn_S, fNotIn_S,  Nat.reduceAdd, List.take_succ_cons, List.take_zero, List.drop_succ_cons, List.drop_zero, Nat.reduceEqDiff, Nat.reduceLeDiff, Nat.zero_le, isIns, fFld, beq_self_eq_true, encD, ft, p]
    refine T_lawdeep_eq (by omega) ?_
    refine T_lawdeep_eq (by omega) ?_
    have e : fMax2 [.int (a.deep : Nat), .int (b.deep : Nat)] = some (.int ((max a.deep b.deep : Nat) : Int)) := by
      unfold fMax2
      dsimp only
      congr 2
      by_cases h : (b.deep : Int) > a.deep
      · rw [if_pos h]; congr 1; omega
      · rw [if_neg h]; congr 1; omega
    simp only [wipeE, fIx_0, fIx_1, fIx_2, fEq_str, fNe_str, fEq_int, fNe_int, fEq_bl, fNe_bl, isNon, decide_true, decide_false, eq_self, dSeq, dNext, dRet, dRetN, dDrop, dIfS, dNever, dAsg, dPar, dPar3, dName, dgTup, dgCons, dgNil, dFor, dForL, dVar, dC, dOp, dUn, dNil, dCons, dBagA, dStar, dCB, dTup, dLst, dB, dAnd, dOr, dNot, dIf, dAndV, dOrV, dNotV, dChain, dIsN, dNotN, dIsi, dIsi2, dSl, dPart, dNoPart, dLc, dYes, dCall, dCallN, dDef, dMeth, dMethK, dMethR, dMake, dMakeK, dOwn, dInit, dSetF, dFldO, itemsL, itemsT, itemsS, itemsR1, itemsR2, itemsZ, itemsE, dJoin, dJoined, dJs, dAug, dOwnL, dAppend, dExtend, dPop, starT, datL, ok_some, ok_none, List.length_cons, List.length_nil, List.replicate_succ, List.replicate_zero, List.cons_append, List.nil_append, List.append_nil, List.getElem?_cons_zero, List.getElem?_cons_succ, List.getElem?_nil, List.set_cons_zero, List.set_cons_succ, List.set_nil, List.map_cons, List.map_nil, Option.map_some, Option.map_none, Option.bind_some, Option.bind_none, if_true, if_false, true_and, and_true, Bool.not_true, Bool.not_false, reduceIte, Bool.false_eq_true, Bool.true_or, Bool.or_true, Bool.true_and, Bool.and_true, Bool.false_and, Bool.and_false, Bool.false_or, Bool.or_false, String.reduceBEq, Int.cast_ofNat_Int, Int.reduceEq, Int.reduceLE, Int.reduceLT, Int.reduceNeg, Int.reduceAdd, Int.reduceSub, Bool.not_eq_true, inB_S, fIn_S, fNotIn_S,  Nat.reduceAdd, List.take_succ_cons, List.take_zero, List.drop_succ_cons, List.drop_zero, Nat.reduceEqDiff, Nat.reduceLeDiff, Nat.zero_le, isIns, fFld, beq_self_eq_true, e, fAdd]
    have e2 : (1 : Int) + ((max a.deep b.deep : Nat) : Int) = ((max a.deep b.deep + 1 : Nat) : Int) := by omega
    rw [e2]
    exact hR
  | n + 1, .fls, R, hn, hR => by
    unfold T__law_deep
    have ft : ∀ l, fIn (.str l) (.tup [.str (cp "then"), .str (cp "and"), .str (cp "or")]) = some (.bl (["then", "and", "or"].any fun s => decide (cp s = l))) := fun l => fIn_S (ss := ["then", "and", "or"])
    have p : (["then", "and", "or"].any fun z => decide (cp z = cp "false")) = false := by decide +kernel
    simp only [wipeE, fIx_0, fIx_1, fIx_2, fEq_str, fNe_str, fEq_int, fNe_int, fEq_bl, fNe_bl, isNon, decide_true, decide_false, eq_self, dSeq, dNext, dRet, dRetN, dDrop, dIfS, dNever, dAsg, dPar, dPar3, dName, dgTup, dgCons, dgNil, dFor, dForL, dVar, dC, dOp, dUn, dNil, dCons, dBagA, dStar, dCB, dTup, dLst, dB, dAnd, dOr, dNot, dIf, dAndV, dOrV, dNotV, dChain, dIsN, dNotN, dIsi, dIsi2, dSl, dPart, dNoPart, dLc, dYes, dCall, dCallN, dDef, dMeth, dMethK, dMethR, dMake, dMakeK, dOwn, dInit, dSetF, dFldO, itemsL, itemsT, itemsS, itemsR1, itemsR2, itemsZ, itemsE, dJoin, dJoined, dJs, dAug, dOwnL, dAppend, dExtend, dPop, starT, datL, ok_some, ok_none, List.length_cons, List.length_nil, List.replicate_succ, List.replicate_zero, List.cons_append, List.nil_append, List.append_nil, List.getElem?_cons_zero, List.getElem?_cons_succ, List.getElem?_nil, List.set_cons_zero, List.set_cons_succ, List.set_nil, List.map_cons, List.map_nil, Option.map_some, Option.map_none, Option.bind_some, Option.bind_none, if_true, if_false, true_and, and_true, Bool.not_true, Bool.not_false, reduceIte, Bool.false_eq_true, Bool.true_or, Bool.or_true, Bool.true_and, Bool.and_true, Bool.false_and, Bool.and_false, Bool.false_or, Bool.or_false, String.reduceBEq, Int.cast_ofNat_Int, Int.reduceEq, Int.reduceLE, Int.reduceLT, Int.reduceNeg, Int.reduceAdd, Int.reduceSub, Bool.not_eq_true, inB_S, fIn_S, fNotIn_S,  Nat.reduceAdd, List.take_succ_cons, List.take_zero, List.drop_succ_cons, List.drop_zero, Nat.reduceEqDiff, Nat.reduceLeDiff, Nat.zero_le, isIns, fFld, beq_self_eq_true, encD, ft, p]
    exact hR
  | n + 1, .atom s, R, hn, hR => by
    unfold T__law_deep
    have ft : ∀ l, fIn (.str l) (.tup [.str (cp "then"), .str (cp "and"), .str (cp "or")]) = some (.bl (["then", "and", "or"].any fun s => decide (cp s = l))) := fun l => fIn_S (ss := ["then", "and", "or"])
    have p : (["then", "and", "or"].any fun z => decide (cp z = cp "atom")) = false := by decide +kernel
    simp only [wipeE, fIx_0, fIx_1, fIx_2, fEq_str, fNe_str, fEq_int, fNe_int, fEq_bl, fNe_bl, isNon, decide_true, decide_false, eq_self, dSeq, dNext, dRet, dRetN, dDrop, dIfS, dNever, dAsg, dPar, dPar3, dName, dgTup, dgCons, dgNil, dFor, dForL, dVar, dC, dOp, dUn, dNil, dCons, dBagA, dStar, dCB, dTup, dLst, dB, dAnd, dOr, dNot, dIf, dAndV, dOrV, dNotV, dChain, dIsN, dNotN, dIsi, dIsi2, dSl, dPart, dNoPart, dLc, dYes, dCall, dCallN, dDef, dMeth, dMethK, dMethR, dMake, dMakeK, dOwn, dInit, dSetF, dFldO, itemsL, itemsT, itemsS, itemsR1, itemsR2, itemsZ, itemsE, dJoin, dJoined, dJs, dAug, dOwnL, dAppend, dExtend, dPop, starT, datL, ok_some, ok_none, List.length_cons, List.length_nil, List.replicate_succ, List.replicate_zero, List.cons_append, List.nil_append, List.append_nil, List.getElem?_cons_zero, List.getElem?_cons_succ, List.getElem?_nil, List.set_cons_zero, List.set_cons_succ, List.set_nil, List.map_cons, List.map_nil, Option.map_some, Option.map_none, Option.bind_some, Option.bind_none, if_true, if_false, true_and, and_true, Bool.not_true, Bool.not_false, reduceIte, Bool.false_eq_true, Bool.true_or, Bool.or_true, Bool.true_and, Bool.and_true, Bool.false_and, Bool.and_false, Bool.false_or, Bool.or_false, String.reduceBEq, Int.cast_ofNat_Int, Int.reduceEq, Int.reduceLE, Int.reduceLT, Int.reduceNeg, Int.reduceAdd, Int.reduceSub, Bool.not_eq_true, inB_S, fIn_S, fNotIn_S,  Nat.reduceAdd, List.take_succ_cons, List.take_zero, List.drop_succ_cons, List.drop_zero, Nat.reduceEqDiff, Nat.reduceLeDiff, Nat.zero_le, isIns, fFld, beq_self_eq_true, encD, ft, p]
    exact hR
  | n + 1, .hole s, R, hn, hR => by
    unfold T__law_deep
    have ft : ∀ l, fIn (.str l) (.tup [.str (cp "then"), .str (cp "and"), .str (cp "or")]) = some (.bl (["then", "and", "or"].any fun s => decide (cp s = l))) := fun l => fIn_S (ss := ["then", "and", "or"])
    have p : (["then", "and", "or"].any fun z => decide (cp z = cp "hole")) = false := by decide +kernel
    simp only [wipeE, fIx_0, fIx_1, fIx_2, fEq_str, fNe_str, fEq_int, fNe_int, fEq_bl, fNe_bl, isNon, decide_true, decide_false, eq_self, dSeq, dNext, dRet, dRetN, dDrop, dIfS, dNever, dAsg, dPar, dPar3, dName, dgTup, dgCons, dgNil, dFor, dForL, dVar, dC, dOp, dUn, dNil, dCons, dBagA, dStar, dCB, dTup, dLst, dB, dAnd, dOr, dNot, dIf, dAndV, dOrV, dNotV, dChain, dIsN, dNotN, dIsi, dIsi2, dSl, dPart, dNoPart, dLc, dYes, dCall, dCallN, dDef, dMeth, dMethK, dMethR, dMake, dMakeK, dOwn, dInit, dSetF, dFldO, itemsL, itemsT, itemsS, itemsR1, itemsR2, itemsZ, itemsE, dJoin, dJoined, dJs, dAug, dOwnL, dAppend, dExtend, dPop, starT, datL, ok_some, ok_none, List.length_cons, List.length_nil, List.replicate_succ, List.replicate_zero, List.cons_append, List.nil_append, List.append_nil, List.getElem?_cons_zero, List.getElem?_cons_succ, List.getElem?_nil, List.set_cons_zero, List.set_cons_succ, List.set_nil, List.map_cons, List.map_nil, Option.map_some, Option.map_none, Option.bind_some, Option.bind_none, if_true, if_false, true_and, and_true, Bool.not_true, Bool.not_false, reduceIte, Bool.false_eq_true, Bool.true_or, Bool.or_true, Bool.true_and, Bool.and_true, Bool.false_and, Bool.and_false, Bool.false_or, Bool.or_false, String.reduceBEq, Int.cast_ofNat_Int, Int.reduceEq, Int.reduceLE, Int.reduceLT, Int.reduceNeg, Int.reduceAdd, Int.reduceSub, Bool.not_eq_true, inB_S, fIn_S, fNotIn_S,  Nat.reduceAdd, List.take_succ_cons, List.take_zero, List.drop_succ_cons, List.drop_zero, Nat.reduceEqDiff, Nat.reduceLeDiff, Nat.zero_le, isIns, fFld, beq_self_eq_true, encD, ft, p]
    exact hR
  | n + 1, .part m, R, hn, hR => by
    unfold T__law_deep
    have ft : ∀ l, fIn (.str l) (.tup [.str (cp "then"), .str (cp "and"), .str (cp "or")]) = some (.bl (["then", "and", "or"].any fun s => decide (cp s = l))) := fun l => fIn_S (ss := ["then", "and", "or"])
    have p : (["then", "and", "or"].any fun z => decide (cp z = cp "part")) = false := by decide +kernel
    simp only [wipeE, fIx_0, fIx_1, fIx_2, fEq_str, fNe_str, fEq_int, fNe_int, fEq_bl, fNe_bl, isNon, decide_true, decide_false, eq_self, dSeq, dNext, dRet, dRetN, dDrop, dIfS, dNever, dAsg, dPar, dPar3, dName, dgTup, dgCons, dgNil, dFor, dForL, dVar, dC, dOp, dUn, dNil, dCons, dBagA, dStar, dCB, dTup, dLst, dB, dAnd, dOr, dNot, dIf, dAndV, dOrV, dNotV, dChain, dIsN, dNotN, dIsi, dIsi2, dSl, dPart, dNoPart, dLc, dYes, dCall, dCallN, dDef, dMeth, dMethK, dMethR, dMake, dMakeK, dOwn, dInit, dSetF, dFldO, itemsL, itemsT, itemsS, itemsR1, itemsR2, itemsZ, itemsE, dJoin, dJoined, dJs, dAug, dOwnL, dAppend, dExtend, dPop, starT, datL, ok_some, ok_none, List.length_cons, List.length_nil, List.replicate_succ, List.replicate_zero, List.cons_append, List.nil_append, List.append_nil, List.getElem?_cons_zero, List.getElem?_cons_succ, List.getElem?_nil, List.set_cons_zero, List.set_cons_succ, List.set_nil, List.map_cons, List.map_nil, Option.map_some, Option.map_none, Option.bind_some, Option.bind_none, if_true, if_false, true_and, and_true, Bool.not_true, Bool.not_false, reduceIte, Bool.false_eq_true, Bool.true_or, Bool.or_true, Bool.true_and, Bool.and_true, Bool.false_and, Bool.and_false, Bool.false_or, Bool.or_false, String.reduceBEq, Int.cast_ofNat_Int, Int.reduceEq, Int.reduceLE, Int.reduceLT, Int.reduceNeg, Int.reduceAdd, Int.reduceSub, Bool.not_eq_true, inB_S, fIn_S, fNotIn_S,  Nat.reduceAdd, List.take_succ_cons, List.take_zero, List.drop_succ_cons, List.drop_zero, Nat.reduceEqDiff, Nat.reduceLeDiff, Nat.zero_le, isIns, fFld, beq_self_eq_true, encD, ft, p]
    exact hR

end
end Ag
namespace Ag
open PySem L2
open C8 (pss_cut tCut)
section
variable {P : Program} {w : World} {K : PySem.W.Frag} {mg : Str → Option Value} {base : Heap} {cs : List (Str × Addr)}
/-! the law -/
theorem noF_enc : ∀ t : Tm, noF (encD t) = true
  | .atom _ => rfl
  | .fls => rfl
  | .hole _ => rfl
  | .part _ => rfl
  | .bin _ a b => by simp [encD, noF, noFs, noF_enc a, noF_enc b]
theorem wr_len : ∀ {t : Tm}, t.good = true → (wr t).length ≤ 6 * t.size
  | .atom s, h => by have := isNm_len (show isNm s = true from h); show s.length ≤ 6 * 1; omega
  | .fls, _ => by show 1 ≤ 6 * 1; omega
  | .hole _, h => by cases h
  | .part _, h => by cases h
  | .bin o a b, h => by
    unfold Tm.good at h
    rw [Bool.and_eq_true_iff] at h
    have h1 := wr_len h.1
    have h2 := wr_len h.2
    show (40 :: (wr a ++ (32 :: sgn o :: 32 :: (wr b ++ [41])))).length ≤ 6 * (a.size + b.size + 1)
    simp only [List.length_cons, List.length_append, List.length_nil]
    omega
theorem size_deep : ∀ t : Tm, t.size + 1 ≤ 2 ^ t.deep
  | .bin _ a b => by
    have h1 := size_deep a
    have h2 := size_deep b
    have p1 : 2 ^ a.deep ≤ 2 ^ (max a.deep b.deep) := Nat.pow_le_pow_right (by decide) (by omega)
    have p2 : 2 ^ b.deep ≤ 2 ^ (max a.deep b.deep) := Nat.pow_le_pow_right (by decide) (by omega)
    unfold Tm.size Tm.deep
    rw [Nat.pow_succ]
    omega
  | .atom _ => Nat.le_refl _
  | .fls => Nat.le_refl _
  | .hole _ => Nat.le_refl _
  | .part _ => Nat.le_refl _
/-- what is told of a good and of a refused call -/
def told (good : Bool) (d v : D) : D := if good then .tup [.str (cp ""), d] else .tup [.str (cp "InvalidFormula"), .tup [v]]
theorem T_fields_eq {v : D} {R : D → Prop} {X : Xc → Prop} (h : R (.tup [v])) : T__law_fields [.dat (.exc cInvalidFormula [v, .str (cp "InvalidFormula")])] R X := by
  unfold T__law_fields
  have f1 : fXa excB clF "code" (.exc cInvalidFormula [v, .str (cp "InvalidFormula")]) = some (.str (cp "InvalidFormula")) := by rfl
  have f2 : fXa excB clF "value" (.exc cInvalidFormula [v, .str (cp "InvalidFormula")]) = some v := by rfl
  have i1 : fIn (.str (cp "InvalidFormula")) (.tup [.str (cp "InvalidName"), .str (cp "InvalidNumber"), .str (cp "InvalidFormula"), .str (cp "InvalidShape"), .str (cp "UnknownName")]) = some (.bl true) := by
    refine (fIn_S (ss := ["InvalidName", "InvalidNumber", "InvalidFormula", "InvalidShape", "UnknownName"])).trans ?_
    have q : (["InvalidName", "InvalidNumber", "InvalidFormula", "InvalidShape", "UnknownName"].any fun s => decide (cp s = cp "InvalidFormula")) = true := by decide +kernel
    rw [q]
  simp only [wipeE, fIx_0, fIx_1, fIx_2, fEq_str, fNe_str, fEq_int, fNe_int, fEq_bl, fNe_bl, isNon, decide_true, decide_false, eq_self, dSeq, dNext, dRet, dRetN, dDrop, dIfS, dNever, dAsg, dPar, dPar3, dName, dgTup, dgCons, dgNil, dFor, dForL, dVar, dC, dOp, dUn, dNil, dCons, dBagA, dStar, dCB, dTup, dLst, dB, dAnd, dOr, dNot, dIf, dAndV, dOrV, dNotV, dChain, dIsN, dNotN, dIsi, dIsi2, dSl, dPart, dNoPart, dLc, dYes, dCall, dCallN, dDef, dMeth, dMethK, dMethR, dMake, dMakeK, dOwn, dInit, dSetF, dFldO, itemsL, itemsT, itemsS, itemsR1, itemsR2, itemsZ, itemsE, dJoin, dJoined, dJs, dAug, dOwnL, dAppend, dExtend, dPop, starT, datL, ok_some, ok_none, List.length_cons, List.length_nil, List.replicate_succ, List.replicate_zero, List.cons_append, List.nil_append, List.append_nil, List.getElem?_cons_zero, List.getElem?_cons_succ, List.getElem?_nil, List.set_cons_zero, List.set_cons_succ, List.set_nil, List.map_cons, List.map_nil, Option.map_some, Option.map_none, Option.bind_some, Option.bind_none, if_true, if_false, true_and, and_true, Bool.not_true, Bool.not_false, reduceIte, Bool.false_eq_true, Bool.true_or, Bool.or_true, Bool.true_and, Bool.and_true, Bool.false_and, Bool.and_false, Bool.false_or, Bool.or_false, String.reduceBEq, Int.cast_ofNat_Int, Int.reduceEq, Int.reduceLE, Int.reduceLT, Int.reduceNeg, Int.reduceAdd, Int.reduceSub, Bool.not_eq_true, inB_S, fIn_S, fNotIn_S,  Nat.reduceAdd, List.take_succ_cons, List.take_zero, List.drop_succ_cons, List.drop_zero, Nat.reduceEqDiff, Nat.reduceLeDiff, Nat.zero_le, isIns, fFld, beq_self_eq_true, f1, f2, i1]
  exact h
theorem T_try_0 {t : Tm} {R : D → Prop} {X : Xc → Prop} (hg : t.good = true) (hd : t.deep < 20) (hl : (wr t).length ≤ 100000) (h : R (told (decide (t.deep ≤ 10)) (.str (wr t)) (encD t))) : T__law_try [.dat (.fn 0 [encD t])] R X := by
  refine ⟨0, [encD t], rfl, by simp [noFs, noF_enc], ?_⟩
  refine ⟨rfl, ?_⟩
  unfold tb_lam_0
  simp only [wipeE, fIx_0, fIx_1, fIx_2, fEq_str, fNe_str, fEq_int, fNe_int, fEq_bl, fNe_bl, isNon, decide_true, decide_false, eq_self, dSeq, dNext, dRet, dRetN, dDrop, dIfS, dNever, dAsg, dPar, dPar3, dName, dgTup, dgCons, dgNil, dFor, dForL, dVar, dC, dOp, dUn, dNil, dCons, dBagA, dStar, dCB, dTup, dLst, dB, dAnd, dOr, dNot, dIf, dAndV, dOrV, dNotV, dChain, dIsN, dNotN, dIsi, dIsi2, dSl, dPart, dNoPart, dLc, dYes, dCall, dCallN, dDef, dMeth, dMethK, dMethR, dMake, dMakeK, dOwn, dInit, dSetF, dFldO, itemsL, itemsT, itemsS, itemsR1, itemsR2, itemsZ, itemsE, dJoin, dJoined, dJs, dAug, dOwnL, dAppend, dExtend, dPop, starT, datL, ok_some, ok_none, List.length_cons, List.length_nil, List.replicate_succ, List.replicate_zero, List.cons_append, List.nil_append, List.append_nil, List.getElem?_cons_zero, List.getElem?_cons_succ, List.getElem?_nil, List.set_cons_zero, List.set_cons_succ, List.set_nil, List.map_cons, List.map_nil, Option.map_some, Option.map_none, Option.bind_some, Option.bind_none, if_true, if_false, true_and, and_true, Bool.not_true, Bool.not_false, reduceIte, Bool.false_eq_true, Bool.true_or, Bool.or_true, Bool.true_and, Bool.and_true, Bool.false_and, Bool.and_false, Bool.false_or, Bool.or_false, String.reduceBEq, Int.cast_ofNat_Int, Int.reduceEq, Int.reduceLE, Int.reduceLT, Int.reduceNeg, Int.reduceAdd, Int.reduceSub, Bool.not_eq_true, inB_S, fIn_S, fNotIn_S,  Nat.reduceAdd, List.take_succ_cons, List.take_zero, List.drop_succ_cons, List.drop_zero, Nat.reduceEqDiff, Nat.reduceLeDiff, Nat.zero_le, isIns, fFld, beq_self_eq_true]
  refine T_formula_text_eq hg hd hl (fun q => ?_) (fun q => ?_)
  · rw [decide_eq_true q] at h
    exact h
  · rw [decide_eq_false q] at h
    refine ⟨rfl, .str (cp "InvalidFormula"), rfl, rfl, T_fields_eq ⟨?_, h⟩⟩
    simp [noF, noFs, noF_enc]
theorem T_try_1 {t : Tm} {R : D → Prop} {X : Xc → Prop} (hg : t.good = true) (hd : t.deep < 20) (hl : (wr t).length ≤ 100000) (h : R (told (decide (t.deep ≤ 10)) (encD t) (.str (wr t)))) : T__law_try [.dat (.fn 1 [.str (wr t)])] R X := by
  refine ⟨1, [.str (wr t)], rfl, rfl, ?_⟩
  refine ⟨rfl, ?_⟩
  unfold tb_lam_1
  simp only [wipeE, fIx_0, fIx_1, fIx_2, fEq_str, fNe_str, fEq_int, fNe_int, fEq_bl, fNe_bl, isNon, decide_true, decide_false, eq_self, dSeq, dNext, dRet, dRetN, dDrop, dIfS, dNever, dAsg, dPar, dPar3, dName, dgTup, dgCons, dgNil, dFor, dForL, dVar, dC, dOp, dUn, dNil, dCons, dBagA, dStar, dCB, dTup, dLst, dB, dAnd, dOr, dNot, dIf, dAndV, dOrV, dNotV, dChain, dIsN, dNotN, dIsi, dIsi2, dSl, dPart, dNoPart, dLc, dYes, dCall, dCallN, dDef, dMeth, dMethK, dMethR, dMake, dMakeK, dOwn, dInit, dSetF, dFldO, itemsL, itemsT, itemsS, itemsR1, itemsR2, itemsZ, itemsE, dJoin, dJoined, dJs, dAug, dOwnL, dAppend, dExtend, dPop, starT, datL, ok_some, ok_none, List.length_cons, List.length_nil, List.replicate_succ, List.replicate_zero, List.cons_append, List.nil_append, List.append_nil, List.getElem?_cons_zero, List.getElem?_cons_succ, List.getElem?_nil, List.set_cons_zero, List.set_cons_succ, List.set_nil, List.map_cons, List.map_nil, Option.map_some, Option.map_none, Option.bind_some, Option.bind_none, if_true, if_false, true_and, and_true, Bool.not_true, Bool.not_false, reduceIte, Bool.false_eq_true, Bool.true_or, Bool.or_true, Bool.true_and, Bool.and_true, Bool.false_and, Bool.and_false, Bool.false_or, Bool.or_false, String.reduceBEq, Int.cast_ofNat_Int, Int.reduceEq, Int.reduceLE, Int.reduceLT, Int.reduceNeg, Int.reduceAdd, Int.reduceSub, Bool.not_eq_true, inB_S, fIn_S, fNotIn_S,  Nat.reduceAdd, List.take_succ_cons, List.take_zero, List.drop_succ_cons, List.drop_zero, Nat.reduceEqDiff, Nat.reduceLeDiff, Nat.zero_le, isIns, fFld, beq_self_eq_true]
  refine T_read_formula_eq hg hd hl (fun q => ?_) (fun q => ?_)
  · rw [decide_eq_true q] at h
    exact h
  · rw [decide_eq_false q] at h
    refine ⟨rfl, .str (cp "InvalidFormula"), rfl, rfl, T_fields_eq ⟨?_, h⟩⟩
    simp [noF, noFs]
theorem T_tries_eq {t : Tm} {R : D → Prop} {X : Xc → Prop} (hg : t.good = true) (hd : t.deep < 20) (hl : (wr t).length ≤ 100000) (h : R (.lst [told (decide (t.deep ≤ 10)) (.str (wr t)) (encD t), told (decide (t.deep ≤ 10)) (encD t) (.str (wr t))])) :
    T__law_tries [.dat (.lst [.fn 0 [encD t], .fn 1 [.str (wr t)]])] R X := by
  unfold T__law_tries
  simp only [wipeE, fIx_0, fIx_1, fIx_2, fEq_str, fNe_str, fEq_int, fNe_int, fEq_bl, fNe_bl, isNon, decide_true, decide_false, eq_self, dSeq, dNext, dRet, dRetN, dDrop, dIfS, dNever, dAsg, dPar, dPar3, dName, dgTup, dgCons, dgNil, dFor, dForL, dVar, dC, dOp, dUn, dNil, dCons, dBagA, dStar, dCB, dTup, dLst, dB, dAnd, dOr, dNot, dIf, dAndV, dOrV, dNotV, dChain, dIsN, dNotN, dIsi, dIsi2, dSl, dPart, dNoPart, dLc, dYes, dCall, dCallN, dDef, dMeth, dMethK, dMethR, dMake, dMakeK, dOwn, dInit, dSetF, dFldO, itemsL, itemsT, itemsS, itemsR1, itemsR2, itemsZ, itemsE, dJoin, dJoined, dJs, dAug, dOwnL, dAppend, dExtend, dPop, starT, datL, ok_some, ok_none, List.length_cons, List.length_nil, List.replicate_succ, List.replicate_zero, List.cons_append, List.nil_append, List.append_nil, List.getElem?_cons_zero, List.getElem?_cons_succ, List.getElem?_nil, List.set_cons_zero, List.set_cons_succ, List.set_nil, List.map_cons, List.map_nil, Option.map_some, Option.map_none, Option.bind_some, Option.bind_none, if_true, if_false, true_and, and_true, Bool.not_true, Bool.not_false, reduceIte, Bool.false_eq_true, Bool.true_or, Bool.or_true, Bool.true_and, Bool.and_true, Bool.false_and, Bool.and_false, Bool.false_or, Bool.or_false, String.reduceBEq, Int.cast_ofNat_Int, Int.reduceEq, Int.reduceLE, Int.reduceLT, Int.reduceNeg, Int.reduceAdd, Int.reduceSub, Bool.not_eq_true, inB_S, fIn_S, fNotIn_S,  Nat.reduceAdd, List.take_succ_cons, List.take_zero, List.drop_succ_cons, List.drop_zero, Nat.reduceEqDiff, Nat.reduceLeDiff, Nat.zero_le, isIns, fFld, beq_self_eq_true]
  simp only [lcL, wipeE, fIx_0, fIx_1, fIx_2, fEq_str, fNe_str, fEq_int, fNe_int, fEq_bl, fNe_bl, isNon, decide_true, decide_false, eq_self, dSeq, dNext, dRet, dRetN, dDrop, dIfS, dNever, dAsg, dPar, dPar3, dName, dgTup, dgCons, dgNil, dFor, dForL, dVar, dC, dOp, dUn, dNil, dCons, dBagA, dStar, dCB, dTup, dLst, dB, dAnd, dOr, dNot, dIf, dAndV, dOrV, dNotV, dChain, dIsN, dNotN, dIsi, dIsi2, dSl, dPart, dNoPart, dLc, dYes, dCall, dCallN, dDef, dMeth, dMethK, dMethR, dMake, dMakeK, dOwn, dInit, dSetF, dFldO, itemsL, itemsT, itemsS, itemsR1, itemsR2, itemsZ, itemsE, dJoin, dJoined, dJs, dAug, dOwnL, dAppend, dExtend, dPop, starT, datL, ok_some, ok_none, List.length_cons, List.length_nil, List.replicate_succ, List.replicate_zero, List.cons_append, List.nil_append, List.append_nil, List.getElem?_cons_zero, List.getElem?_cons_succ, List.getElem?_nil, List.set_cons_zero, List.set_cons_succ, List.set_nil, List.map_cons, List.map_nil, Option.map_some, Option.map_none, Option.bind_some, Option.bind_none, if_true, if_false, true_and, and_true, Bool.not_true, Bool.not_false, reduceIte, Bool.false_eq_true, Bool.true_or, Bool.or_true, Bool.true_and, Bool.and_true, Bool.false_and, Bool.and_false, Bool.false_or, Bool.or_false, String.reduceBEq, Int.cast_ofNat_Int, Int.reduceEq, Int.reduceLE, Int.reduceLT, Int.reduceNeg, Int.reduceAdd, Int.reduceSub, Bool.not_eq_true, inB_S, fIn_S, fNotIn_S,  Nat.reduceAdd, List.take_succ_cons, List.take_zero, List.drop_succ_cons, List.drop_zero, Nat.reduceEqDiff, Nat.reduceLeDiff, Nat.zero_le, isIns, fFld, beq_self_eq_true]
  refine T_try_0 hg hd hl ?_
  refine ⟨by decide, ?_⟩
  refine T_try_1 hg hd hl ?_
  refine ⟨by decide, ?_⟩
  exact h
theorem fit_enc {t : Tm} (h : t.deep ≤ 12) : fitD 13 (encD t) = true := fitD_mono (enc_fit t) (by omega)
theorem fit_told {t : Tm} {b : Bool} (h : t.deep ≤ 12) : fitD 16 (.lst [told b (.str (wr t)) (encD t), told b (encD t) (.str (wr t))]) = true := by
  have f1 : fitD 13 (encD t) = true := fit_enc h
  have f2 : fitD 14 (encD t) = true := fitD_mono f1 (by omega)
  cases b <;> simp [told, fitD, fitL, f1, f2]
def k3A : DS := dAsg (dTup (dCons (dCall (T__law_text 20) (dCons (dVar 4) dNil)) (dCons (dOp fLt (dCall (T__law_deep 20) (dCons (dVar 4) dNil)) (dC (.int 11))) dNil))) (dgTup 2 (dgCons (dName 6) (dgCons (dName 7) dgNil)))
def k3B : DS := dAsg (dCallL capsL T__law_tries (dCons (dLst (dCons (dLam 0) (dCons (dLam 1) dNil))) dNil)) (dName 8)
def k3C : DS := dAsg (dIf (dB (dVar 7)) (dLst (dCons (dTup (dCons (dC (.str (cp ""))) (dCons (dVar 6) dNil))) (dCons (dTup (dCons (dC (.str (cp ""))) (dCons (dVar 4) dNil))) dNil))) (dLst (dCons (dTup (dCons (dC (.str (cp "InvalidFormula"))) (dCons (dTup (dCons (dVar 4) dNil)) dNil))) (dCons (dTup (dCons (dC (.str (cp "InvalidFormula"))) (dCons (dTup (dCons (dVar 6) dNil)) dNil))) dNil)))) (dName 9)
def k3D : DS := dIfS (dOr (dB (dOp fNe (dCall T_is_formula (dCons (dVar 4) dNil)) (dVar 7))) (dNot (dB (dCall (T__law_like 20) (dCons (dVar 8) (dCons (dVar 9) dNil)))))) (dRet (dC (.bl false))) dNext
theorem k3A_eq {t : Tm} {a2 a3 a5 a6 a7 a8 a9 : SV} {G : DEn} (hg : t.good = true) (hd : t.deep ≤ 12) (hl : (wr t).length ≤ 100000) (hG : G.nx [.no, .bag, a2, a3, .dat (encD t), a5, .dat (.str (wr t)), .dat (.bl (decide (t.deep ≤ 10))), a8, a9, .no, .no, .no]) :
    k3A G [.no, .bag, a2, a3, .dat (encD t), a5, a6, a7, a8, a9, .no, .no, .no] := by
  have hb : decide (((t.deep : Nat) : Int) < 11) = decide (t.deep ≤ 10) := decide_eq_decide.mpr (by omega)
  unfold k3A
  simp only [wipeE, fIx_0, fIx_1, fIx_2, fEq_str, fNe_str, fEq_int, fNe_int, fEq_bl, fNe_bl, isNon, decide_true, decide_false, eq_self, dSeq, dNext, dRet, dRetN, dDrop, dIfS, dNever, dAsg, dPar, dPar3, dName, dgTup, dgCons, dgNil, dFor, dForL, dVar, dC, dOp, dUn, dNil, dCons, dBagA, dStar, dCB, dTup, dLst, dB, dAnd, dOr, dNot, dIf, dAndV, dOrV, dNotV, dChain, dIsN, dNotN, dIsi, dIsi2, dSl, dPart, dNoPart, dLc, dYes, dCall, dCallN, dDef, dMeth, dMethK, dMethR, dMake, dMakeK, dOwn, dInit, dSetF, dFldO, itemsL, itemsT, itemsS, itemsR1, itemsR2, itemsZ, itemsE, dJoin, dJoined, dJs, dAug, dOwnL, dAppend, dExtend, dPop, starT, datL, ok_some, ok_none, List.length_cons, List.length_nil, List.replicate_succ, List.replicate_zero, List.cons_append, List.nil_append, List.append_nil, List.getElem?_cons_zero, List.getElem?_cons_succ, List.getElem?_nil, List.set_cons_zero, List.set_cons_succ, List.set_nil, List.map_cons, List.map_nil, Option.map_some, Option.map_none, Option.bind_some, Option.bind_none, if_true, if_false, true_and, and_true, Bool.not_true, Bool.not_false, reduceIte, Bool.false_eq_true, Bool.true_or, Bool.or_true, Bool.true_and, Bool.and_true, Bool.false_and, Bool.and_false, Bool.false_or, Bool.or_false, String.reduceBEq, Int.cast_ofNat_Int, Int.reduceEq, Int.reduceLE, Int.reduceLT, Int.reduceNeg, Int.reduceAdd, Int.reduceSub, Bool.not_eq_true, inB_S, fIn_S, fNotIn_S,  Nat.reduceAdd, List.take_succ_cons, List.take_zero, List.drop_succ_cons, List.drop_zero, Nat.reduceEqDiff, Nat.reduceLeDiff, Nat.zero_le, isIns, fFld, beq_self_eq_true]
  refine T_lawtext_eq (good_tx hg) (by omega) hl ?_
  refine T_lawdeep_eq (by omega) ?_
  simp only [wipeE, fIx_0, fIx_1, fIx_2, fEq_str, fNe_str, fEq_int, fNe_int, fEq_bl, fNe_bl, isNon, decide_true, decide_false, eq_self, dSeq, dNext, dRet, dRetN, dDrop, dIfS, dNever, dAsg, dPar, dPar3, dName, dgTup, dgCons, dgNil, dFor, dForL, dVar, dC, dOp, dUn, dNil, dCons, dBagA, dStar, dCB, dTup, dLst, dB, dAnd, dOr, dNot, dIf, dAndV, dOrV, dNotV, dChain, dIsN, dNotN, dIsi, dIsi2, dSl, dPart, dNoPart, dLc, dYes, dCall, dCallN, dDef, dMeth, dMethK, dMethR, dMake, dMakeK, dOwn, dInit, dSetF, dFldO, itemsL, itemsT, itemsS, itemsR1, itemsR2, itemsZ, itemsE, dJoin, dJoined, dJs, dAug, dOwnL, dAppend, dExtend, dPop, starT, datL, ok_some, ok_none, List.length_cons, List.length_nil, List.replicate_succ, List.replicate_zero, List.cons_append, List.nil_append, List.append_nil, List.getElem?_cons_zero, List.getElem?_cons_succ, List.getElem?_nil, List.set_cons_zero, List.set_cons_succ, List.set_nil, List.map_cons, List.map_nil, Option.map_some, Option.map_none, Option.bind_some, Option.bind_none, if_true, if_false, true_and, and_true, Bool.not_true, Bool.not_false, reduceIte, Bool.false_eq_true, Bool.true_or, Bool.or_true, Bool.true_and, Bool.and_true, Bool.false_and, Bool.and_false, Bool.false_or, Bool.or_false, String.reduceBEq, Int.cast_ofNat_Int, Int.reduceEq, Int.reduceLE, Int.reduceLT, Int.reduceNeg, Int.reduceAdd, Int.reduceSub, Bool.not_eq_true, inB_S, fIn_S, fNotIn_S,  Nat.reduceAdd, List.take_succ_cons, List.take_zero, List.drop_succ_cons, List.drop_zero, Nat.reduceEqDiff, Nat.reduceLeDiff, Nat.zero_le, isIns, fFld, beq_self_eq_true, fLt, fInt, hb]
  exact hG
theorem k3B_eq {t : Tm} {a2 a3 a5 a8 a9 : SV} {G : DEn} (hg : t.good = true) (hd : t.deep ≤ 12) (hl : (wr t).length ≤ 100000) (hG : G.nx [.no, .bag, a2, a3, .dat (encD t), a5, .dat (.str (wr t)), .dat (.bl (decide (t.deep ≤ 10))), .dat (.lst [told (decide (t.deep ≤ 10)) (.str (wr t)) (encD t), told (decide (t.deep ≤ 10)) (encD t) (.str (wr t))]), a9, .no, .no, .no]) :
    k3B G [.no, .bag, a2, a3, .dat (encD t), a5, .dat (.str (wr t)), .dat (.bl (decide (t.deep ≤ 10))), a8, a9, .no, .no, .no] := by
  unfold k3B
  simp only [dCallL, dLam, wipeE, fIx_0, fIx_1, fIx_2, fEq_str, fNe_str, fEq_int, fNe_int, fEq_bl, fNe_bl, isNon, decide_true, decide_false, eq_self, dSeq, dNext, dRet, dRetN, dDrop, dIfS, dNever, dAsg, dPar, dPar3, dName, dgTup, dgCons, dgNil, dFor, dForL, dVar, dC, dOp, dUn, dNil, dCons, dBagA, dStar, dCB, dTup, dLst, dB, dAnd, dOr, dNot, dIf, dAndV, dOrV, dNotV, dChain, dIsN, dNotN, dIsi, dIsi2, dSl, dPart, dNoPart, dLc, dYes, dCall, dCallN, dDef, dMeth, dMethK, dMethR, dMake, dMakeK, dOwn, dInit, dSetF, dFldO, itemsL, itemsT, itemsS, itemsR1, itemsR2, itemsZ, itemsE, dJoin, dJoined, dJs, dAug, dOwnL, dAppend, dExtend, dPop, starT, datL, ok_some, ok_none, List.length_cons, List.length_nil, List.replicate_succ, List.replicate_zero, List.cons_append, List.nil_append, List.append_nil, List.getElem?_cons_zero, List.getElem?_cons_succ, List.getElem?_nil, List.set_cons_zero, List.set_cons_succ, List.set_nil, List.map_cons, List.map_nil, Option.map_some, Option.map_none, Option.bind_some, Option.bind_none, if_true, if_false, true_and, and_true, Bool.not_true, Bool.not_false, reduceIte, Bool.false_eq_true, Bool.true_or, Bool.or_true, Bool.true_and, Bool.and_true, Bool.false_and, Bool.and_false, Bool.false_or, Bool.or_false, String.reduceBEq, Int.cast_ofNat_Int, Int.reduceEq, Int.reduceLE, Int.reduceLT, Int.reduceNeg, Int.reduceAdd, Int.reduceSub, Bool.not_eq_true, inB_S, fIn_S, fNotIn_S,  Nat.reduceAdd, List.take_succ_cons, List.take_zero, List.drop_succ_cons, List.drop_zero, Nat.reduceEqDiff, Nat.reduceLeDiff, Nat.zero_le, isIns, fFld, beq_self_eq_true]
  refine ⟨_, .lst [.fn 0 [encD t], .fn 1 [.str (wr t)]], rfl, ?_, T_tries_eq hg (by omega) hl ⟨?_, ?_⟩⟩
  · simp [lendA, lendL, lend1, capD, capsL, noFs, noF_enc, noF]
  · cases decide (t.deep ≤ 10) <;> simp [told, noF, noFs, noF_enc]
  · exact hG
theorem k3C_eq {t : Tm} {b : Bool} {a2 a3 a5 a8 a9 : SV} {G : DEn} (hG : G.nx [.no, .bag, a2, a3, .dat (encD t), a5, .dat (.str (wr t)), .dat (.bl b), a8, .dat (.lst [told b (.str (wr t)) (encD t), told b (encD t) (.str (wr t))]), .no, .no, .no]) :
    k3C G [.no, .bag, a2, a3, .dat (encD t), a5, .dat (.str (wr t)), .dat (.bl b), a8, a9, .no, .no, .no] := by
  unfold k3C
  cases b with
  | true =>
    simp only [wipeE, fIx_0, fIx_1, fIx_2, fEq_str, fNe_str, fEq_int, fNe_int, fEq_bl, fNe_bl, isNon, decide_true, decide_false, eq_self, dSeq, dNext, dRet, dRetN, dDrop, dIfS, dNever, dAsg, dPar, dPar3, dName, dgTup, dgCons, dgNil, dFor, dForL, dVar, dC, dOp, dUn, dNil, dCons, dBagA, dStar, dCB, dTup, dLst, dB, dAnd, dOr, dNot, dIf, dAndV, dOrV, dNotV, dChain, dIsN, dNotN, dIsi, dIsi2, dSl, dPart, dNoPart, dLc, dYes, dCall, dCallN, dDef, dMeth, dMethK, dMethR, dMake, dMakeK, dOwn, dInit, dSetF, dFldO, itemsL, itemsT, itemsS, itemsR1, itemsR2, itemsZ, itemsE, dJoin, dJoined, dJs, dAug, dOwnL, dAppend, dExtend, dPop, starT, datL, ok_some, ok_none, List.length_cons, List.length_nil, List.replicate_succ, List.replicate_zero, List.cons_append, List.nil_append, List.append_nil, List.getElem?_cons_zero, List.getElem?_cons_succ, List.getElem?_nil, List.set_cons_zero, List.set_cons_succ, List.set_nil, List.map_cons, List.map_nil, Option.map_some, Option.map_none, Option.bind_some, Option.bind_none, if_true, if_false, true_and, and_true, Bool.not_true, Bool.not_false, reduceIte, Bool.false_eq_true, Bool.true_or, Bool.or_true, Bool.true_and, Bool.and_true, Bool.false_and, Bool.and_false, Bool.false_or, Bool.or_false, String.reduceBEq, Int.cast_ofNat_Int, Int.reduceEq, Int.reduceLE, Int.reduceLT, Int.reduceNeg, Int.reduceAdd, Int.reduceSub, Bool.not_eq_true, inB_S, fIn_S, fNotIn_S,  Nat.reduceAdd, List.take_succ_cons, List.take_zero, List.drop_succ_cons, List.drop_zero, Nat.reduceEqDiff, Nat.reduceLeDiff, Nat.zero_le, isIns, fFld, beq_self_eq_true]
    exact hG
  | false =>
    simp only [wipeE, fIx_0, fIx_1, fIx_2, fEq_str, fNe_str, fEq_int, fNe_int, fEq_bl, fNe_bl, isNon, decide_true, decide_false, eq_self, dSeq, dNext, dRet, dRetN, dDrop, dIfS, dNever, dAsg, dPar, dPar3, dName, dgTup, dgCons, dgNil, dFor, dForL, dVar, dC, dOp, dUn, dNil, dCons, dBagA, dStar, dCB, dTup, dLst, dB, dAnd, dOr, dNot, dIf, dAndV, dOrV, dNotV, dChain, dIsN, dNotN, dIsi, dIsi2, dSl, dPart, dNoPart, dLc, dYes, dCall, dCallN, dDef, dMeth, dMethK, dMethR, dMake, dMakeK, dOwn, dInit, dSetF, dFldO, itemsL, itemsT, itemsS, itemsR1, itemsR2, itemsZ, itemsE, dJoin, dJoined, dJs, dAug, dOwnL, dAppend, dExtend, dPop, starT, datL, ok_some, ok_none, List.length_cons, List.length_nil, List.replicate_succ, List.replicate_zero, List.cons_append, List.nil_append, List.append_nil, List.getElem?_cons_zero, List.getElem?_cons_succ, List.getElem?_nil, List.set_cons_zero, List.set_cons_succ, List.set_nil, List.map_cons, List.map_nil, Option.map_some, Option.map_none, Option.bind_some, Option.bind_none, if_true, if_false, true_and, and_true, Bool.not_true, Bool.not_false, reduceIte, Bool.false_eq_true, Bool.true_or, Bool.or_true, Bool.true_and, Bool.and_true, Bool.false_and, Bool.and_false, Bool.false_or, Bool.or_false, String.reduceBEq, Int.cast_ofNat_Int, Int.reduceEq, Int.reduceLE, Int.reduceLT, Int.reduceNeg, Int.reduceAdd, Int.reduceSub, Bool.not_eq_true, inB_S, fIn_S, fNotIn_S,  Nat.reduceAdd, List.take_succ_cons, List.take_zero, List.drop_succ_cons, List.drop_zero, Nat.reduceEqDiff, Nat.reduceLeDiff, Nat.zero_le, isIns, fFld, beq_self_eq_true]
    exact hG
theorem k3D_eq {t : Tm} {a2 a3 a5 a6 : SV} {d : D} {G : DEn} (hg : t.good = true) (hd : t.deep ≤ 12) (hf : fitD 20 d = true) (hG : G.nx [.no, .bag, a2, a3, .dat (encD t), a5, a6, .dat (.bl (decide (t.deep ≤ 10))), .dat d, .dat d, .no, .no, .no]) :
    k3D G [.no, .bag, a2, a3, .dat (encD t), a5, a6, .dat (.bl (decide (t.deep ≤ 10))), .dat d, .dat d, .no, .no, .no] := by
  unfold k3D
  simp only [wipeE, fIx_0, fIx_1, fIx_2, fEq_str, fNe_str, fEq_int, fNe_int, fEq_bl, fNe_bl, isNon, decide_true, decide_false, eq_self, dSeq, dNext, dRet, dRetN, dDrop, dIfS, dNever, dAsg, dPar, dPar3, dName, dgTup, dgCons, dgNil, dFor, dForL, dVar, dC, dOp, dUn, dNil, dCons, dBagA, dStar, dCB, dTup, dLst, dB, dAnd, dOr, dNot, dIf, dAndV, dOrV, dNotV, dChain, dIsN, dNotN, dIsi, dIsi2, dSl, dPart, dNoPart, dLc, dYes, dCall, dCallN, dDef, dMeth, dMethK, dMethR, dMake, dMakeK, dOwn, dInit, dSetF, dFldO, itemsL, itemsT, itemsS, itemsR1, itemsR2, itemsZ, itemsE, dJoin, dJoined, dJs, dAug, dOwnL, dAppend, dExtend, dPop, starT, datL, ok_some, ok_none, List.length_cons, List.length_nil, List.replicate_succ, List.replicate_zero, List.cons_append, List.nil_append, List.append_nil, List.getElem?_cons_zero, List.getElem?_cons_succ, List.getElem?_nil, List.set_cons_zero, List.set_cons_succ, List.set_nil, List.map_cons, List.map_nil, Option.map_some, Option.map_none, Option.bind_some, Option.bind_none, if_true, if_false, true_and, and_true, Bool.not_true, Bool.not_false, reduceIte, Bool.false_eq_true, Bool.true_or, Bool.or_true, Bool.true_and, Bool.and_true, Bool.false_and, Bool.and_false, Bool.false_or, Bool.or_false, String.reduceBEq, Int.cast_ofNat_Int, Int.reduceEq, Int.reduceLE, Int.reduceLT, Int.reduceNeg, Int.reduceAdd, Int.reduceSub, Bool.not_eq_true, inB_S, fIn_S, fNotIn_S,  Nat.reduceAdd, List.take_succ_cons, List.take_zero, List.drop_succ_cons, List.drop_zero, Nat.reduceEqDiff, Nat.reduceLeDiff, Nat.zero_le, isIns, fFld, beq_self_eq_true]
  refine T_is_formula_eq hg (by omega) ?_
  simp only [wipeE, fIx_0, fIx_1, fIx_2, fEq_str, fNe_str, fEq_int, fNe_int, fEq_bl, fNe_bl, isNon, decide_true, decide_false, eq_self, dSeq, dNext, dRet, dRetN, dDrop, dIfS, dNever, dAsg, dPar, dPar3, dName, dgTup, dgCons, dgNil, dFor, dForL, dVar, dC, dOp, dUn, dNil, dCons, dBagA, dStar, dCB, dTup, dLst, dB, dAnd, dOr, dNot, dIf, dAndV, dOrV, dNotV, dChain, dIsN, dNotN, dIsi, dIsi2, dSl, dPart, dNoPart, dLc, dYes, dCall, dCallN, dDef, dMeth, dMethK, dMethR, dMake, dMakeK, dOwn, dInit, dSetF, dFldO, itemsL, itemsT, itemsS, itemsR1, itemsR2, itemsZ, itemsE, dJoin, dJoined, dJs, dAug, dOwnL, dAppend, dExtend, dPop, starT, datL, ok_some, ok_none, List.length_cons, List.length_nil, List.replicate_succ, List.replicate_zero, List.cons_append, List.nil_append, List.append_nil, List.getElem?_cons_zero, List.getElem?_cons_succ, List.getElem?_nil, List.set_cons_zero, List.set_cons_succ, List.set_nil, List.map_cons, List.map_nil, Option.map_some, Option.map_none, Option.bind_some, Option.bind_none, if_true, if_false, true_and, and_true, Bool.not_true, Bool.not_false, reduceIte, Bool.false_eq_true, Bool.true_or, Bool.or_true, Bool.true_and, Bool.and_true, Bool.false_and, Bool.and_false, Bool.false_or, Bool.or_false, String.reduceBEq, Int.cast_ofNat_Int, Int.reduceEq, Int.reduceLE, Int.reduceLT, Int.reduceNeg, Int.reduceAdd, Int.reduceSub, Bool.not_eq_true, inB_S, fIn_S, fNotIn_S,  Nat.reduceAdd, List.take_succ_cons, List.take_zero, List.drop_succ_cons, List.drop_zero, Nat.reduceEqDiff, Nat.reduceLeDiff, Nat.zero_le, isIns, fFld, beq_self_eq_true]
  refine T_like_same hf ?_
  simp only [wipeE, fIx_0, fIx_1, fIx_2, fEq_str, fNe_str, fEq_int, fNe_int, fEq_bl, fNe_bl, isNon, decide_true, decide_false, eq_self, dSeq, dNext, dRet, dRetN, dDrop, dIfS, dNever, dAsg, dPar, dPar3, dName, dgTup, dgCons, dgNil, dFor, dForL, dVar, dC, dOp, dUn, dNil, dCons, dBagA, dStar, dCB, dTup, dLst, dB, dAnd, dOr, dNot, dIf, dAndV, dOrV, dNotV, dChain, dIsN, dNotN, dIsi, dIsi2, dSl, dPart, dNoPart, dLc, dYes, dCall, dCallN, dDef, dMeth, dMethK, dMethR, dMake, dMakeK, dOwn, dInit, dSetF, dFldO, itemsL, itemsT, itemsS, itemsR1, itemsR2, itemsZ, itemsE, dJoin, dJoined, dJs, dAug, dOwnL, dAppend, dExtend, dPop, starT, datL, ok_some, ok_none, List.length_cons, List.length_nil, List.replicate_succ, List.replicate_zero, List.cons_append, List.nil_append, List.append_nil, List.getElem?_cons_zero, List.getElem?_cons_succ, List.getElem?_nil, List.set_cons_zero, List.set_cons_succ, List.set_nil, List.map_cons, List.map_nil, Option.map_some, Option.map_none, Option.bind_some, Option.bind_none, if_true, if_false, true_and, and_true, Bool.not_true, Bool.not_false, reduceIte, Bool.false_eq_true, Bool.true_or, Bool.or_true, Bool.true_and, Bool.and_true, Bool.false_and, Bool.and_false, Bool.false_or, Bool.or_false, String.reduceBEq, Int.cast_ofNat_Int, Int.reduceEq, Int.reduceLE, Int.reduceLT, Int.reduceNeg, Int.reduceAdd, Int.reduceSub, Bool.not_eq_true, inB_S, fIn_S, fNotIn_S,  Nat.reduceAdd, List.take_succ_cons, List.take_zero, List.drop_succ_cons, List.drop_zero, Nat.reduceEqDiff, Nat.reduceLeDiff, Nat.zero_le, isIns, fFld, beq_self_eq_true]
  exact hG
theorem turn3 {t : Tm} {a2 a3 a5 a6 a7 a8 a9 : SV} {G : DEn} (hg : t.good = true) (hd : t.deep ≤ 12) (hs : t.size ≤ 100) (hG : ∀ b6 b7 b8 b9, G.nx [.no, .bag, a2, a3, .dat (encD t), a5, b6, b7, b8, b9, .no, .no, .no]) :
    dSeq k3A (dSeq k3B (dSeq k3C k3D)) G [.no, .bag, a2, a3, .dat (encD t), a5, a6, a7, a8, a9, .no, .no, .no] := by
  have hl : (wr t).length ≤ 100000 := by have := wr_len hg; omega
  simp only [dSeq]
  exact k3A_eq hg hd hl (k3B_eq hg hd hl (k3C_eq (k3D_eq hg hd (fitD_mono (fit_told hd) (by omega)) (hG _ _ _ _))))
theorem fIx_lst0 {ws : List (List Nat)} {z : List Nat} (h : ws[0]? = some z) : fIx (.lst (ws.map .str)) (.int 0) = some (.str z) := by
  cases ws with
  | nil => cases h
  | cons w ws =>
    simp at h
    subst h
    show L2.atI _ _ = _
    exact (fIx_0 (a := D.str w) (l := ws.map .str) : L2.atI _ _ = _)
/-- one more connective around a formula -/
def k3W : DS := dSeq (dAsg (dTup (dCons (dCall T__law_any (dBagA 1 (dCons (dLst (dCons (dC (.str (cp "then"))) (dCons (dC (.str (cp "and"))) (dCons (dC (.str (cp "or"))) dNil)))) dNil))) (dCons (dVar 4) (dCons (dTup (dCons (dC (.str (cp "atom"))) (dCons (dOp fIx (dVar 2) (dC (.int 0))) dNil))) dNil)))) (dName 4))
    (dIfS (dB (dOp fEq (dCall T__law_pull (dBagA 1 (dCons (dC (.int 2)) dNil))) (dC (.int 0)))) (dAsg (dTup (dCons (dOp fIx (dVar 4) (dC (.int 0))) (dCons (dOp fIx (dVar 4) (dC (.int 2))) (dCons (dOp fIx (dVar 4) (dC (.int 1))) dNil)))) (dName 4)) dNext)
theorem wrap3 {ws : List (List Nat)} {t : Tm} {a3 a5 a6 a7 a8 a9 : SV} {G : DEn} {z : List Nat} (hz : ws[0]? = some z) (hw : isNm z = true) (hg : t.good = true) (hG : ∀ t' : Tm, t'.good = true → t'.deep ≤ t.deep + 1 → t'.size ≤ t.size + 2 → G.nx [.no, .bag, .dat (.lst (ws.map .str)), a3, .dat (encD t'), a5, a6, a7, a8, a9, .no, .no, .no]) :
    k3W G [.no, .bag, .dat (.lst (ws.map .str)), a3, .dat (encD t), a5, a6, a7, a8, a9, .no, .no, .no] := by
  have i0 : fIx (.lst (ws.map .str)) (.int 0) = some (.str z) := fIx_lst0 hz
  have gz : (Tm.atom z).good = true := hw
  have main : ∀ o : Op, T__law_pull [.bag, .dat (.int 2)] (fun d => ok (fEq d (.int 0)) fun d => match d with | .bl b => if b = true then G.nx [.no, .bag, .dat (.lst (ws.map .str)), a3, .dat (encD (.bin o (.atom z) t)), a5, a6, a7, a8, a9, .no, .no, .no] else G.nx [.no, .bag, .dat (.lst (ws.map .str)), a3, .dat (encD (.bin o t (.atom z))), a5, a6, a7, a8, a9, .no, .no, .no] | _ => False) (fun x => G.ex x [.no, .bag, .dat (.lst (ws.map .str)), a3, .dat (encD (.bin o t (.atom z))), a5, a6, a7, a8, a9, .no, .no, .no]) := fun o => by
    have dp := t.deep_pos
    refine T_pull (by decide) (by decide) fun d hd => ?_
    rw [fEq_int, ok_some]
    by_cases h : ((d : Nat) : Int) = 0
    · simp only [h, decide_true, if_true]
      exact hG _ (by unfold Tm.good; rw [gz, hg]; rfl) (by show max 1 t.deep + 1 ≤ _; omega) (by show 1 + t.size + 1 ≤ _; omega)
    · simp only [h, decide_false, Bool.false_eq_true, if_false]
      exact hG _ (by unfold Tm.good; rw [gz, hg]; rfl) (by show max t.deep 1 + 1 ≤ _; omega) (by show t.size + 1 + 1 ≤ _; omega)
  unfold k3W
  simp only [wipeE, fIx_0, fIx_1, fIx_2, fEq_str, fNe_str, fEq_int, fNe_int, fEq_bl, fNe_bl, isNon, decide_true, decide_false, eq_self, dSeq, dNext, dRet, dRetN, dDrop, dIfS, dNever, dAsg, dPar, dPar3, dName, dgTup, dgCons, dgNil, dFor, dForL, dVar, dC, dOp, dUn, dNil, dCons, dBagA, dStar, dCB, dTup, dLst, dB, dAnd, dOr, dNot, dIf, dAndV, dOrV, dNotV, dChain, dIsN, dNotN, dIsi, dIsi2, dSl, dPart, dNoPart, dLc, dYes, dCall, dCallN, dDef, dMeth, dMethK, dMethR, dMake, dMakeK, dOwn, dInit, dSetF, dFldO, itemsL, itemsT, itemsS, itemsR1, itemsR2, itemsZ, itemsE, dJoin, dJoined, dJs, dAug, dOwnL, dAppend, dExtend, dPop, starT, datL, ok_some, ok_none, List.length_cons, List.length_nil, List.replicate_succ, List.replicate_zero, List.cons_append, List.nil_append, List.append_nil, List.getElem?_cons_zero, List.getElem?_cons_succ, List.getElem?_nil, List.set_cons_zero, List.set_cons_succ, List.set_nil, List.map_cons, List.map_nil, Option.map_some, Option.map_none, Option.bind_some, Option.bind_none, if_true, if_false, true_and, and_true, Bool.not_true, Bool.not_false, reduceIte, Bool.false_eq_true, Bool.true_or, Bool.or_true, Bool.true_and, Bool.and_true, Bool.false_and, Bool.and_false, Bool.false_or, Bool.or_false, String.reduceBEq, Int.cast_ofNat_Int, Int.reduceEq, Int.reduceLE, Int.reduceLT, Int.reduceNeg, Int.reduceAdd, Int.reduceSub, Bool.not_eq_true, inB_S, fIn_S, fNotIn_S,  Nat.reduceAdd, List.take_succ_cons, List.take_zero, List.drop_succ_cons, List.drop_zero, Nat.reduceEqDiff, Nat.reduceLeDiff, Nat.zero_le, isIns, fFld, beq_self_eq_true]
  refine T_any rfl (by simp) (by simp) fun x hx => ?_
  have hx' : ∃ o : Op, x = .str (opC o) := by
    simp at hx
    rcases hx with rfl | rfl | rfl
    · exact ⟨.th, rfl⟩
    · exact ⟨.an, rfl⟩
    · exact ⟨.or, rfl⟩
  obtain ⟨o, rfl⟩ := hx'
  simp only [wipeE, fIx_0, fIx_1, fIx_2, fEq_str, fNe_str, fEq_int, fNe_int, fEq_bl, fNe_bl, isNon, decide_true, decide_false, eq_self, dSeq, dNext, dRet, dRetN, dDrop, dIfS, dNever, dAsg, dPar, dPar3, dName, dgTup, dgCons, dgNil, dFor, dForL, dVar, dC, dOp, dUn, dNil, dCons, dBagA, dStar, dCB, dTup, dLst, dB, dAnd, dOr, dNot, dIf, dAndV, dOrV, dNotV, dChain, dIsN, dNotN, dIsi, dIsi2, dSl, dPart, dNoPart, dLc, dYes, dCall, dCallN, dDef, dMeth, dMethK, dMethR, dMake, dMakeK, dOwn, dInit, dSetF, dFldO, itemsL, itemsT, itemsS, itemsR1, itemsR2, itemsZ, itemsE, dJoin, dJoined, dJs, dAug, dOwnL, dAppend, dExtend, dPop, starT, datL, ok_some, ok_none, List.length_cons, List.length_nil, List.replicate_succ, List.replicate_zero, List.cons_append, List.nil_append, List.append_nil, List.getElem?_cons_zero, List.getElem?_cons_succ, List.getElem?_nil, List.set_cons_zero, List.set_cons_succ, List.set_nil, List.map_cons, List.map_nil, Option.map_some, Option.map_none, Option.bind_some, Option.bind_none, if_true, if_false, true_and, and_true, Bool.not_true, Bool.not_false, reduceIte, Bool.false_eq_true, Bool.true_or, Bool.or_true, Bool.true_and, Bool.and_true, Bool.false_and, Bool.and_false, Bool.false_or, Bool.or_false, String.reduceBEq, Int.cast_ofNat_Int, Int.reduceEq, Int.reduceLE, Int.reduceLT, Int.reduceNeg, Int.reduceAdd, Int.reduceSub, Bool.not_eq_true, inB_S, fIn_S, fNotIn_S,  Nat.reduceAdd, List.take_succ_cons, List.take_zero, List.drop_succ_cons, List.drop_zero, Nat.reduceEqDiff, Nat.reduceLeDiff, Nat.zero_le, isIns, fFld, beq_self_eq_true, i0]
  exact main o
theorem wraps3 {ws : List (List Nat)} {z : List Nat} {a3 a6 a7 a8 a9 : SV} {G : DEn} (hz : ws[0]? = some z) (hw : isNm z = true) : ∀ (ds : List D) (t : Tm) (a5 : SV), t.good = true → (∀ (t' : Tm) (b5 : SV), t'.good = true → t'.deep ≤ t.deep + ds.length → t'.size ≤ t.size + 2 * ds.length → G.nx [.no, .bag, .dat (.lst (ws.map .str)), a3, .dat (encD t'), b5, a6, a7, a8, a9, .no, .no, .no]) →
    dForL (dName 5) k3W ds G [.no, .bag, .dat (.lst (ws.map .str)), a3, .dat (encD t), a5, a6, a7, a8, a9, .no, .no, .no]
  | [], t, a5, hg, hG => by
    unfold dForL
    exact hG t a5 hg (by simp) (by simp)
  | d :: ds, t, a5, hg, hG => by
    unfold dForL
    simp only [wipeE, fIx_0, fIx_1, fIx_2, fEq_str, fNe_str, fEq_int, fNe_int, fEq_bl, fNe_bl, isNon, decide_true, decide_false, eq_self, dSeq, dNext, dRet, dRetN, dDrop, dIfS, dNever, dAsg, dPar, dPar3, dName, dgTup, dgCons, dgNil, dFor, dForL, dVar, dC, dOp, dUn, dNil, dCons, dBagA, dStar, dCB, dTup, dLst, dB, dAnd, dOr, dNot, dIf, dAndV, dOrV, dNotV, dChain, dIsN, dNotN, dIsi, dIsi2, dSl, dPart, dNoPart, dLc, dYes, dCall, dCallN, dDef, dMeth, dMethK, dMethR, dMake, dMakeK, dOwn, dInit, dSetF, dFldO, itemsL, itemsT, itemsS, itemsR1, itemsR2, itemsZ, itemsE, dJoin, dJoined, dJs, dAug, dOwnL, dAppend, dExtend, dPop, starT, datL, ok_some, ok_none, List.length_cons, List.length_nil, List.replicate_succ, List.replicate_zero, List.cons_append, List.nil_append, List.append_nil, List.getElem?_cons_zero, List.getElem?_cons_succ, List.getElem?_nil, List.set_cons_zero, List.set_cons_succ, List.set_nil, List.map_cons, List.map_nil, Option.map_some, Option.map_none, Option.bind_some, Option.bind_none, if_true, if_false, true_and, and_true, Bool.not_true, Bool.not_false, reduceIte, Bool.false_eq_true, Bool.true_or, Bool.or_true, Bool.true_and, Bool.and_true, Bool.false_and, Bool.and_false, Bool.false_or, Bool.or_false, String.reduceBEq, Int.cast_ofNat_Int, Int.reduceEq, Int.reduceLE, Int.reduceLT, Int.reduceNeg, Int.reduceAdd, Int.reduceSub, Bool.not_eq_true, inB_S, fIn_S, fNotIn_S,  Nat.reduceAdd, List.take_succ_cons, List.take_zero, List.drop_succ_cons, List.drop_zero, Nat.reduceEqDiff, Nat.reduceLeDiff, Nat.zero_le, isIns, fFld, beq_self_eq_true]
    refine wrap3 hz hw hg fun t' g' d' s' => ?_
    refine wraps3 hz hw ds t' _ g' fun t2 b5 g2 d2 s2 => hG t2 b5 g2 ?_ ?_
    · rw [List.length_cons]; omega
    · rw [List.length_cons]; omega
def k3L : DS := dSeq (dAsg (dCall (T__law_form 20) (dBagA 1 (dCons (dVar 2) (dCons (dC (.int 5)) dNil)))) (dName 4))
    (dSeq (dFor (itemsR1 (dCons (dCall T__law_pull (dBagA 1 (dCons (dC (.int 8)) dNil))) dNil)) (dName 5) k3W)
    (dSeq k3A (dSeq k3B (dSeq k3C k3D))))
theorem loop3 : tb_law_2 = dFor (itemsR1 (dCons (dC (.int 5)) dNil)) (dName 3) k3L := rfl
theorem turn3L {ws : List (List Nat)} {z : List Nat} {a3 a4 a5 a6 a7 a8 a9 : SV} {G : DEn} (hwl : ws.length = 3) (hw5 : ∀ w ∈ ws, nm5 w = true) (hz : ws[0]? = some z) (hG : ∀ b4 b5 b6 b7 b8 b9, G.nx [.no, .bag, .dat (.lst (ws.map .str)), a3, b4, b5, b6, b7, b8, b9, .no, .no, .no]) :
    k3L G [.no, .bag, .dat (.lst (ws.map .str)), a3, a4, a5, a6, a7, a8, a9, .no, .no, .no] := by
  have hz' : isNm z = true := nm5_isNm (hw5 z (List.mem_of_getElem? hz))
  unfold k3L
  simp only [wipeE, fIx_0, fIx_1, fIx_2, fEq_str, fNe_str, fEq_int, fNe_int, fEq_bl, fNe_bl, isNon, decide_true, decide_false, eq_self, dSeq, dNext, dRet, dRetN, dDrop, dIfS, dNever, dAsg, dPar, dPar3, dName, dgTup, dgCons, dgNil, dFor, dForL, dVar, dC, dOp, dUn, dNil, dCons, dBagA, dStar, dCB, dTup, dLst, dB, dAnd, dOr, dNot, dIf, dAndV, dOrV, dNotV, dChain, dIsN, dNotN, dIsi, dIsi2, dSl, dPart, dNoPart, dLc, dYes, dCall, dCallN, dDef, dMeth, dMethK, dMethR, dMake, dMakeK, dOwn, dInit, dSetF, dFldO, itemsL, itemsT, itemsS, itemsR1, itemsR2, itemsZ, itemsE, dJoin, dJoined, dJs, dAug, dOwnL, dAppend, dExtend, dPop, starT, datL, ok_some, ok_none, List.length_cons, List.length_nil, List.replicate_succ, List.replicate_zero, List.cons_append, List.nil_append, List.append_nil, List.getElem?_cons_zero, List.getElem?_cons_succ, List.getElem?_nil, List.set_cons_zero, List.set_cons_succ, List.set_nil, List.map_cons, List.map_nil, Option.map_some, Option.map_none, Option.bind_some, Option.bind_none, if_true, if_false, true_and, and_true, Bool.not_true, Bool.not_false, reduceIte, Bool.false_eq_true, Bool.true_or, Bool.or_true, Bool.true_and, Bool.and_true, Bool.false_and, Bool.and_false, Bool.false_or, Bool.or_false, String.reduceBEq, Int.cast_ofNat_Int, Int.reduceEq, Int.reduceLE, Int.reduceLT, Int.reduceNeg, Int.reduceAdd, Int.reduceSub, Bool.not_eq_true, inB_S, fIn_S, fNotIn_S,  Nat.reduceAdd, List.take_succ_cons, List.take_zero, List.drop_succ_cons, List.drop_zero, Nat.reduceEqDiff, Nat.reduceLeDiff, Nat.zero_le, isIns, fFld, beq_self_eq_true]
  refine T_form (by omega) (by omega) (k := 5) (by decide) (by decide) fun t ho hd => ?_
  have hg : t.good = true := Tm.over_good (fun s hs => nm5_isNm (hw5 s hs)) ho
  have hsz : t.size + 1 ≤ 2 ^ 5 := Nat.le_trans (size_deep t) (Nat.pow_le_pow_right (by decide) hd)
  refine T_pull (by decide) (by decide) fun m hm => ?_
  refine ⟨by omega, ?_⟩
  have em : ((List.range ((m : Nat) : Int).toNat).map fun k : Nat => D.int (k : Nat)).length = m := by simp
  refine wraps3 hz hz' _ t _ hg fun t' b5 g' d' s' => ?_
  rw [em] at d' s'
  exact turn3 g' (by omega) (by omega) fun b6 b7 b8 b9 => hG _ _ _ _ _ _
theorem law_true : tb_law { nx := fun _ => False, rt := fun d => d = .bl true } ((List.replicate 13 SV.no).set 1 .bag) := by
  unfold tb_law
  simp only [wipeE, fIx_0, fIx_1, fIx_2, fEq_str, fNe_str, fEq_int, fNe_int, fEq_bl, fNe_bl, isNon, decide_true, decide_false, eq_self, dSeq, dNext, dRet, dRetN, dDrop, dIfS, dNever, dAsg, dPar, dPar3, dName, dgTup, dgCons, dgNil, dFor, dForL, dVar, dC, dOp, dUn, dNil, dCons, dBagA, dStar, dCB, dTup, dLst, dB, dAnd, dOr, dNot, dIf, dAndV, dOrV, dNotV, dChain, dIsN, dNotN, dIsi, dIsi2, dSl, dPart, dNoPart, dLc, dYes, dCall, dCallN, dDef, dMeth, dMethK, dMethR, dMake, dMakeK, dOwn, dInit, dSetF, dFldO, itemsL, itemsT, itemsS, itemsR1, itemsR2, itemsZ, itemsE, dJoin, dJoined, dJs, dAug, dOwnL, dAppend, dExtend, dPop, starT, datL, ok_some, ok_none, List.length_cons, List.length_nil, List.replicate_succ, List.replicate_zero, List.cons_append, List.nil_append, List.append_nil, List.getElem?_cons_zero, List.getElem?_cons_succ, List.getElem?_nil, List.set_cons_zero, List.set_cons_succ, List.set_nil, List.map_cons, List.map_nil, Option.map_some, Option.map_none, Option.bind_some, Option.bind_none, if_true, if_false, true_and, and_true, Bool.not_true, Bool.not_false, reduceIte, Bool.false_eq_true, Bool.true_or, Bool.or_true, Bool.true_and, Bool.and_true, Bool.false_and, Bool.and_false, Bool.false_or, Bool.or_false, String.reduceBEq, Int.cast_ofNat_Int, Int.reduceEq, Int.reduceLE, Int.reduceLT, Int.reduceNeg, Int.reduceAdd, Int.reduceSub, Bool.not_eq_true, inB_S, fIn_S, fNotIn_S,  Nat.reduceAdd, List.take_succ_cons, List.take_zero, List.drop_succ_cons, List.drop_zero, Nat.reduceEqDiff, Nat.reduceLeDiff, Nat.zero_le, isIns, fFld, beq_self_eq_true, tb_law_1]
  refine T_names (n := 3) (by decide) fun ws hwl hw5 hwd => ?_
  obtain ⟨z, hz⟩ : ∃ z, ws[0]? = some z := ⟨ws[0], List.getElem?_eq_getElem (by omega)⟩
  have hz' : isNm z = true := nm5_isNm (hw5 z (List.mem_of_getElem? hz))
  have hzl := isNm_len hz'
  rw [loop3]
  simp only [dFor, itemsR1, dCons, dC, dNil]
  refine ⟨by omega, ?_⟩
  refine dForL_inv (fun ρ => ∃ a3 a4 a5 a6 a7 a8 a9 : SV, ρ = [.no, .bag, .dat (.lst (ws.map .str)), a3, a4, a5, a6, a7, a8, a9, .no, .no, .no]) _ _ ⟨_, _, _, _, _, _, _, rfl⟩ (fun d hd ρ hρ N hN => ?_) (fun ρ hρ => ?_)
  · obtain ⟨a3, a4, a5, a6, a7, a8, a9, rfl⟩ := hρ
    simp only [dName, List.set_cons_succ, List.set_cons_zero]
    exact turn3L hwl hw5 hz fun b4 b5 b6 b7 b8 b9 => hN _ ⟨_, _, _, _, _, _, _, rfl⟩
  · obtain ⟨a3, a4, a5, a6, a7, a8, a9, rfl⟩ := hρ
    have i0 : fIx (.lst (ws.map .str)) (.int 0) = some (.str z) := fIx_lst0 hz
    have ad1 : fAdd (.str (cp "\x28")) (.str z) = some (.str (cp "\x28" ++ z)) := fAdd_str (by rw [cp_lp]; simp; omega)
    have ad2 : fAdd (.str (cp "\x28" ++ z)) (.str (cp " > 0\x29")) = some (.str (wr (.bin .th (.atom z) .fls))) := by
      rw [fAdd_str (by rw [cp_lp, show cp " > 0\x29" = [32, 62, 32, 48, 41] from rfl]; simp; omega)]
      rw [cp_lp, show cp " > 0\x29" = [32, 62, 32, 48, 41] from rfl]
      rfl
    have g3 : (Tm.bin .th (.atom z) .fls).good = true := by unfold Tm.good; rw [show (Tm.atom z).good = true from hz']; rfl
    have l3 : (wr (.bin .th (.atom z) .fls)).length ≤ 100000 := by have := wr_len g3; unfold Tm.size Tm.size at this; omega
    have q0 : ∀ {R : D → Prop} {X : Xc → Prop}, R (encD .fls) → T_read_formula [.dat (.str (cp "0"))] R X := fun {R X} h => T_read_formula_eq (t := .fls) rfl (by decide) (by decide) (fun _ => h) (fun q => absurd (show Tm.fls.deep ≤ 10 by decide) q)
    have q1 : ∀ {R : D → Prop} {X : Xc → Prop}, R (encD (.atom z)) → T_read_formula [.dat (.str z)] R X := fun {R X} h => T_read_formula_eq (t := .atom z) hz' (by show 1 < 20; decide) (by show z.length ≤ 100000; omega) (fun _ => h) (fun q => absurd (show 1 ≤ 10 by decide) q)
    have q2 : ∀ {R : D → Prop} {X : Xc → Prop}, R (encD (.bin .th (.atom z) .fls)) → T_read_formula [.dat (.str (wr (.bin .th (.atom z) .fls)))] R X := fun {R X} h => T_read_formula_eq g3 (by show max 1 1 + 1 < 20; decide) l3 (fun _ => h) (fun q => absurd (show max 1 1 + 1 ≤ 10 by decide) q)
    have p0 : ∀ {R : D → Prop} {X : Xc → Prop}, R (.str (cp "0")) → T_formula_text [.dat (encD .fls)] R X := fun {R X} h => T_formula_text_eq (t := .fls) rfl (by decide) (by decide) (fun _ => h) (fun q => absurd (show Tm.fls.deep ≤ 10 by decide) q)
    have p1 : ∀ {R : D → Prop} {X : Xc → Prop}, R (.str z) → T_formula_text [.dat (encD (.atom z))] R X := fun {R X} h => T_formula_text_eq (t := .atom z) hz' (by show 1 < 20; decide) (by show z.length ≤ 100000; omega) (fun _ => h) (fun q => absurd (show 1 ≤ 10 by decide) q)
    have p2 : ∀ {R : D → Prop} {X : Xc → Prop}, R (.str (wr (.bin .th (.atom z) .fls))) → T_formula_text [.dat (encD (.bin .th (.atom z) .fls))] R X := fun {R X} h => T_formula_text_eq g3 (by show max 1 1 + 1 < 20; decide) l3 (fun _ => h) (fun q => absurd (show max 1 1 + 1 ≤ 10 by decide) q)
    generalize hW : wr (.bin .th (.atom z) .fls) = W at *
    have ef : D.lst [encD .fls, encD (.atom z), encD (.bin .th (.atom z) .fls)] = .lst [.tup [.str (cp "false")], .tup [.str (cp "atom"), .str z], .tup [.str (cp "then"), .tup [.str (cp "atom"), .str z], .tup [.str (cp "false")]]] := rfl
    have f1 : fitD 20 (.lst [encD .fls, encD (.atom z), encD (.bin .th (.atom z) .fls)]) = true := by rw [ef]; simp [fitD, fitL]
    have f2 : fitD 20 (.lst [.str (cp "0"), .str z, .str W]) = true := by simp [fitD, fitL]
    simp only [wipeE, fIx_0, fIx_1, fIx_2, fEq_str, fNe_str, fEq_int, fNe_int, fEq_bl, fNe_bl, isNon, decide_true, decide_false, eq_self, dSeq, dNext, dRet, dRetN, dDrop, dIfS, dNever, dAsg, dPar, dPar3, dName, dgTup, dgCons, dgNil, dFor, dForL, dVar, dC, dOp, dUn, dNil, dCons, dBagA, dStar, dCB, dTup, dLst, dB, dAnd, dOr, dNot, dIf, dAndV, dOrV, dNotV, dChain, dIsN, dNotN, dIsi, dIsi2, dSl, dPart, dNoPart, dLc, dYes, dCall, dCallN, dDef, dMeth, dMethK, dMethR, dMake, dMakeK, dOwn, dInit, dSetF, dFldO, itemsL, itemsT, itemsS, itemsR1, itemsR2, itemsZ, itemsE, dJoin, dJoined, dJs, dAug, dOwnL, dAppend, dExtend, dPop, starT, datL, ok_some, ok_none, List.length_cons, List.length_nil, List.replicate_succ, List.replicate_zero, List.cons_append, List.nil_append, List.append_nil, List.getElem?_cons_zero, List.getElem?_cons_succ, List.getElem?_nil, List.set_cons_zero, List.set_cons_succ, List.set_nil, List.map_cons, List.map_nil, Option.map_some, Option.map_none, Option.bind_some, Option.bind_none, if_true, if_false, true_and, and_true, Bool.not_true, Bool.not_false, reduceIte, Bool.false_eq_true, Bool.true_or, Bool.or_true, Bool.true_and, Bool.and_true, Bool.false_and, Bool.and_false, Bool.false_or, Bool.or_false, String.reduceBEq, Int.cast_ofNat_Int, Int.reduceEq, Int.reduceLE, Int.reduceLT, Int.reduceNeg, Int.reduceAdd, Int.reduceSub, Bool.not_eq_true, inB_S, fIn_S, fNotIn_S,  Nat.reduceAdd, List.take_succ_cons, List.take_zero, List.drop_succ_cons, List.drop_zero, Nat.reduceEqDiff, Nat.reduceLeDiff, Nat.zero_le, isIns, fFld, beq_self_eq_true, tb_law_3, i0]
    unfold tb_law_4
    simp only [wipeE, fIx_0, fIx_1, fIx_2, fEq_str, fNe_str, fEq_int, fNe_int, fEq_bl, fNe_bl, isNon, decide_true, decide_false, eq_self, dSeq, dNext, dRet, dRetN, dDrop, dIfS, dNever, dAsg, dPar, dPar3, dName, dgTup, dgCons, dgNil, dFor, dForL, dVar, dC, dOp, dUn, dNil, dCons, dBagA, dStar, dCB, dTup, dLst, dB, dAnd, dOr, dNot, dIf, dAndV, dOrV, dNotV, dChain, dIsN, dNotN, dIsi, dIsi2, dSl, dPart, dNoPart, dLc, dYes, dCall, dCallN, dDef, dMeth, dMethK, dMethR, dMake, dMakeK, dOwn, dInit, dSetF, dFldO, itemsL, itemsT, itemsS, itemsR1, itemsR2, itemsZ, itemsE, dJoin, dJoined, dJs, dAug, dOwnL, dAppend, dExtend, dPop, starT, datL, ok_some, ok_none, List.length_cons, List.length_nil, List.replicate_succ, List.replicate_zero, List.cons_append, List.nil_append, List.append_nil, List.getElem?_cons_zero, List.getElem?_cons_succ, List.getElem?_nil, List.set_cons_zero, List.set_cons_succ, List.set_nil, List.map_cons, List.map_nil, Option.map_some, Option.map_none, Option.bind_some, Option.bind_none, if_true, if_false, true_and, and_true, Bool.not_true, Bool.not_false, reduceIte, Bool.false_eq_true, Bool.true_or, Bool.or_true, Bool.true_and, Bool.and_true, Bool.false_and, Bool.and_false, Bool.false_or, Bool.or_false, String.reduceBEq, Int.cast_ofNat_Int, Int.reduceEq, Int.reduceLE, Int.reduceLT, Int.reduceNeg, Int.reduceAdd, Int.reduceSub, Bool.not_eq_true, inB_S, fIn_S, fNotIn_S,  Nat.reduceAdd, List.take_succ_cons, List.take_zero, List.drop_succ_cons, List.drop_zero, Nat.reduceEqDiff, Nat.reduceLeDiff, Nat.zero_le, isIns, fFld, beq_self_eq_true, ad1, ad2]
    refine q0 (q1 (q2 ?_))
    unfold tb_law_5 tb_law_6
    simp only [wipeE, fIx_0, fIx_1, fIx_2, fEq_str, fNe_str, fEq_int, fNe_int, fEq_bl, fNe_bl, isNon, decide_true, decide_false, eq_self, dSeq, dNext, dRet, dRetN, dDrop, dIfS, dNever, dAsg, dPar, dPar3, dName, dgTup, dgCons, dgNil, dFor, dForL, dVar, dC, dOp, dUn, dNil, dCons, dBagA, dStar, dCB, dTup, dLst, dB, dAnd, dOr, dNot, dIf, dAndV, dOrV, dNotV, dChain, dIsN, dNotN, dIsi, dIsi2, dSl, dPart, dNoPart, dLc, dYes, dCall, dCallN, dDef, dMeth, dMethK, dMethR, dMake, dMakeK, dOwn, dInit, dSetF, dFldO, itemsL, itemsT, itemsS, itemsR1, itemsR2, itemsZ, itemsE, dJoin, dJoined, dJs, dAug, dOwnL, dAppend, dExtend, dPop, starT, datL, ok_some, ok_none, List.length_cons, List.length_nil, List.replicate_succ, List.replicate_zero, List.cons_append, List.nil_append, List.append_nil, List.getElem?_cons_zero, List.getElem?_cons_succ, List.getElem?_nil, List.set_cons_zero, List.set_cons_succ, List.set_nil, List.map_cons, List.map_nil, Option.map_some, Option.map_none, Option.bind_some, Option.bind_none, if_true, if_false, true_and, and_true, Bool.not_true, Bool.not_false, reduceIte, Bool.false_eq_true, Bool.true_or, Bool.or_true, Bool.true_and, Bool.and_true, Bool.false_and, Bool.and_false, Bool.false_or, Bool.or_false, String.reduceBEq, Int.cast_ofNat_Int, Int.reduceEq, Int.reduceLE, Int.reduceLT, Int.reduceNeg, Int.reduceAdd, Int.reduceSub, Bool.not_eq_true, inB_S, fIn_S, fNotIn_S,  Nat.reduceAdd, List.take_succ_cons, List.take_zero, List.drop_succ_cons, List.drop_zero, Nat.reduceEqDiff, Nat.reduceLeDiff, Nat.zero_le, isIns, fFld, beq_self_eq_true, ad1, ad2]
    rw [← ef]
    refine T_like_same f1 ?_
    simp only [wipeE, fIx_0, fIx_1, fIx_2, fEq_str, fNe_str, fEq_int, fNe_int, fEq_bl, fNe_bl, isNon, decide_true, decide_false, eq_self, dSeq, dNext, dRet, dRetN, dDrop, dIfS, dNever, dAsg, dPar, dPar3, dName, dgTup, dgCons, dgNil, dFor, dForL, dVar, dC, dOp, dUn, dNil, dCons, dBagA, dStar, dCB, dTup, dLst, dB, dAnd, dOr, dNot, dIf, dAndV, dOrV, dNotV, dChain, dIsN, dNotN, dIsi, dIsi2, dSl, dPart, dNoPart, dLc, dYes, dCall, dCallN, dDef, dMeth, dMethK, dMethR, dMake, dMakeK, dOwn, dInit, dSetF, dFldO, itemsL, itemsT, itemsS, itemsR1, itemsR2, itemsZ, itemsE, dJoin, dJoined, dJs, dAug, dOwnL, dAppend, dExtend, dPop, starT, datL, ok_some, ok_none, List.length_cons, List.length_nil, List.replicate_succ, List.replicate_zero, List.cons_append, List.nil_append, List.append_nil, List.getElem?_cons_zero, List.getElem?_cons_succ, List.getElem?_nil, List.set_cons_zero, List.set_cons_succ, List.set_nil, List.map_cons, List.map_nil, Option.map_some, Option.map_none, Option.bind_some, Option.bind_none, if_true, if_false, true_and, and_true, Bool.not_true, Bool.not_false, reduceIte, Bool.false_eq_true, Bool.true_or, Bool.or_true, Bool.true_and, Bool.and_true, Bool.false_and, Bool.and_false, Bool.false_or, Bool.or_false, String.reduceBEq, Int.cast_ofNat_Int, Int.reduceEq, Int.reduceLE, Int.reduceLT, Int.reduceNeg, Int.reduceAdd, Int.reduceSub, Bool.not_eq_true, inB_S, fIn_S, fNotIn_S,  Nat.reduceAdd, List.take_succ_cons, List.take_zero, List.drop_succ_cons, List.drop_zero, Nat.reduceEqDiff, Nat.reduceLeDiff, Nat.zero_le, isIns, fFld, beq_self_eq_true]
    simp only [lcL, wipeE, fIx_0, fIx_1, fIx_2, fEq_str, fNe_str, fEq_int, fNe_int, fEq_bl, fNe_bl, isNon, decide_true, decide_false, eq_self, dSeq, dNext, dRet, dRetN, dDrop, dIfS, dNever, dAsg, dPar, dPar3, dName, dgTup, dgCons, dgNil, dFor, dForL, dVar, dC, dOp, dUn, dNil, dCons, dBagA, dStar, dCB, dTup, dLst, dB, dAnd, dOr, dNot, dIf, dAndV, dOrV, dNotV, dChain, dIsN, dNotN, dIsi, dIsi2, dSl, dPart, dNoPart, dLc, dYes, dCall, dCallN, dDef, dMeth, dMethK, dMethR, dMake, dMakeK, dOwn, dInit, dSetF, dFldO, itemsL, itemsT, itemsS, itemsR1, itemsR2, itemsZ, itemsE, dJoin, dJoined, dJs, dAug, dOwnL, dAppend, dExtend, dPop, starT, datL, ok_some, ok_none, List.length_cons, List.length_nil, List.replicate_succ, List.replicate_zero, List.cons_append, List.nil_append, List.append_nil, List.getElem?_cons_zero, List.getElem?_cons_succ, List.getElem?_nil, List.set_cons_zero, List.set_cons_succ, List.set_nil, List.map_cons, List.map_nil, Option.map_some, Option.map_none, Option.bind_some, Option.bind_none, if_true, if_false, true_and, and_true, Bool.not_true, Bool.not_false, reduceIte, Bool.false_eq_true, Bool.true_or, Bool.or_true, Bool.true_and, Bool.and_true, Bool.false_and, Bool.and_false, Bool.false_or, Bool.or_false, String.reduceBEq, Int.cast_ofNat_Int, Int.reduceEq, Int.reduceLE, Int.reduceLT, Int.reduceNeg, Int.reduceAdd, Int.reduceSub, Bool.not_eq_true, inB_S, fIn_S, fNotIn_S,  Nat.reduceAdd, List.take_succ_cons, List.take_zero, List.drop_succ_cons, List.drop_zero, Nat.reduceEqDiff, Nat.reduceLeDiff, Nat.zero_le, isIns, fFld, beq_self_eq_true]
    refine p0 ⟨by decide, p1 ⟨by decide, p2 ⟨by decide, ?_⟩⟩⟩
    rw [ad1, ok_some, ad2, ok_some]
    exact T_like_same f2 rfl

end
end Ag
namespace Ag
open PySem L2
theorem txt_mk {K : PySem.W.Frag} {w : World} {P : Program} {h : Heap} {mg : Str → Option Value} {t_LETTERS : Tok}
    {t_MOST_LETTERS : Tok}
    {t_MOST_DEEP : Tok}
    {t_SHAPE_DEEP : Tok}
    {r_FALSE : Addr} {dd_FALSE : Option Addr} {nn_FALSE : Nat} {ss_FALSE : Array (Option Value)} {t0_FALSE : Tok}
    {r_PAIRS : Addr} {dd_PAIRS : Option Addr} {nn_PAIRS : Nat} {ss_PAIRS : Array (Option Value)} {t0_PAIRS t1_PAIRS t2_PAIRS : Tok}
    {r_SIGNS : Addr} {es_SIGNS : Array DictEntry} {nn_SIGNS : Nat}
    {r_WORDS : Addr} {es_WORDS : Array DictEntry} {nn_WORDS : Nat}
    {f_is_number : Addr} {od_is_number an_is_number : Option Addr} {sl_is_number : Array (Option Value)} {oc_is_number kV_is_number dc_is_number pm_is_number cd_is_number ct_is_number : Value}
    {f_is_name : Addr} {od_is_name an_is_name : Option Addr} {sl_is_name : Array (Option Value)} {oc_is_name kV_is_name dc_is_name pm_is_name cd_is_name ct_is_name : Value}
    {f_is_leaf : Addr} {od_is_leaf an_is_leaf : Option Addr} {sl_is_leaf : Array (Option Value)} {oc_is_leaf kV_is_leaf dc_is_leaf pm_is_leaf cd_is_leaf ct_is_leaf : Value}
    {f_is_form : Addr} {od_is_form an_is_form : Option Addr} {sl_is_form : Array (Option Value)} {oc_is_form kV_is_form dc_is_form pm_is_form cd_is_form ct_is_form : Value}
    {f_is_formula : Addr} {od_is_formula an_is_formula : Option Addr} {sl_is_formula : Array (Option Value)} {oc_is_formula kV_is_formula dc_is_formula pm_is_formula cd_is_formula ct_is_formula : Value}
    {f_is_shape : Addr} {od_is_shape an_is_shape : Option Addr} {sl_is_shape : Array (Option Value)} {oc_is_shape kV_is_shape dc_is_shape pm_is_shape cd_is_shape ct_is_shape : Value}
    {f_written : Addr} {od_written an_written : Option Addr} {sl_written : Array (Option Value)} {oc_written kV_written dc_written pm_written cd_written ct_written : Value}
    {f_formula_text : Addr} {od_formula_text an_formula_text : Option Addr} {sl_formula_text : Array (Option Value)} {oc_formula_text kV_formula_text dc_formula_text pm_formula_text cd_formula_text ct_formula_text : Value}
    {f_split_pair : Addr} {od_split_pair an_split_pair : Option Addr} {sl_split_pair : Array (Option Value)} {oc_split_pair kV_split_pair dc_split_pair pm_split_pair cd_split_pair ct_split_pair : Value}
    {f_form_in : Addr} {od_form_in an_form_in : Option Addr} {sl_form_in : Array (Option Value)} {oc_form_in kV_form_in dc_form_in pm_form_in cd_form_in ct_form_in : Value}
    {f_read_formula : Addr} {od_read_formula an_read_formula : Option Addr} {sl_read_formula : Array (Option Value)} {oc_read_formula kV_read_formula dc_read_formula pm_read_formula cd_read_formula ct_read_formula : Value}
    {f__law_bag : Addr} {od__law_bag an__law_bag : Option Addr} {sl__law_bag : Array (Option Value)} {oc__law_bag kV__law_bag dc__law_bag pm__law_bag cd__law_bag ct__law_bag : Value}
    {f__law_pull : Addr} {od__law_pull an__law_pull : Option Addr} {sl__law_pull : Array (Option Value)} {oc__law_pull kV__law_pull dc__law_pull pm__law_pull cd__law_pull ct__law_pull : Value}
    {f__law_any : Addr} {od__law_any an__law_any : Option Addr} {sl__law_any : Array (Option Value)} {oc__law_any kV__law_any dc__law_any pm__law_any cd__law_any ct__law_any : Value}
    {f__law_like : Addr} {od__law_like an__law_like : Option Addr} {sl__law_like : Array (Option Value)} {oc__law_like kV__law_like dc__law_like pm__law_like cd__law_like ct__law_like : Value}
    {f__law_fields : Addr} {od__law_fields an__law_fields : Option Addr} {sl__law_fields : Array (Option Value)} {oc__law_fields kV__law_fields dc__law_fields pm__law_fields cd__law_fields ct__law_fields : Value}
    {f__law_try : Addr} {od__law_try an__law_try : Option Addr} {sl__law_try : Array (Option Value)} {oc__law_try kV__law_try dc__law_try pm__law_try cd__law_try ct__law_try : Value}
    {f__law_tries : Addr} {od__law_tries an__law_tries : Option Addr} {sl__law_tries : Array (Option Value)} {oc__law_tries kV__law_tries dc__law_tries pm__law_tries cd__law_tries ct__law_tries : Value}
    {f__law_names : Addr} {od__law_names an__law_names : Option Addr} {sl__law_names : Array (Option Value)} {oc__law_names kV__law_names dc__law_names pm__law_names cd__law_names ct__law_names : Value}
    {f__law_form : Addr} {od__law_form an__law_form : Option Addr} {sl__law_form : Array (Option Value)} {oc__law_form kV__law_form dc__law_form pm__law_form cd__law_form ct__law_form : Value}
    {f__law_text : Addr} {od__law_text an__law_text : Option Addr} {sl__law_text : Array (Option Value)} {oc__law_text kV__law_text dc__law_text pm__law_text cd__law_text ct__law_text : Value}
    {f__law_deep : Addr} {od__law_deep an__law_deep : Option Addr} {sl__law_deep : Array (Option Value)} {oc__law_deep kV__law_deep dc__law_deep pm__law_deep cd__law_deep ct__law_deep : Value}
    {f_law : Addr} {od_law an_law : Option Addr} {sl_law : Array (Option Value)} {oc_law kV_law dc_law pm_law ct_law : Value} {cc_law tt_law : Addr} {re_law : List Value}
    {C_GroundError : Addr}
    {C_Missing : Addr}
    {C_InvalidFormula : Addr}
    {C_NothingLeft : Addr}
    {f_InvalidFormula___init__ cc_InvalidFormula cd_InvalidFormula N_InvalidFormula : Addr} {oc_InvalidFormula dc_InvalidFormula pm_InvalidFormula ct_InvalidFormula oo_InvalidFormula o1_InvalidFormula : Value} {od_InvalidFormula dx_InvalidFormula d1_InvalidFormula dd_InvalidFormula : Option Addr} {sl_InvalidFormula sx_InvalidFormula s1_InvalidFormula : Array (Option Value)} {vc_InvalidFormula : Array Value} {fi_InvalidFormula nm_InvalidFormula qn_InvalidFormula : Str} {tf_InvalidFormula : Tok} {bs_InvalidFormula bm_InvalidFormula sub_InvalidFormula : List Value} {sn_InvalidFormula : List Str} {ab_InvalidFormula : Bool} {col_InvalidFormula : Option Bool} {k0_InvalidFormula k1_InvalidFormula k2_InvalidFormula k3_InvalidFormula k5_InvalidFormula : Option Value}
    (X : K.In h) (G : h.Ns mainGlobals mg)
    (z_IndexError : PySem.W.nsIn K mainGlobals "IndexError" = some none)
    (z_LookupError : PySem.W.nsIn K mainGlobals "LookupError" = some none)
    (z_ValueError : PySem.W.nsIn K mainGlobals "ValueError" = some none)
    (z_all : PySem.W.nsIn K mainGlobals "all" = some none)
    (z_bool : PySem.W.nsIn K mainGlobals "bool" = some none)
    (z_dict : PySem.W.nsIn K mainGlobals "dict" = some none)
    (z_enumerate : PySem.W.nsIn K mainGlobals "enumerate" = some none)
    (z_int : PySem.W.nsIn K mainGlobals "int" = some none)
    (z_isinstance : PySem.W.nsIn K mainGlobals "isinstance" = some none)
    (z_len : PySem.W.nsIn K mainGlobals "len" = some none)
    (z_list : PySem.W.nsIn K mainGlobals "list" = some none)
    (z_max : PySem.W.nsIn K mainGlobals "max" = some none)
    (z_range : PySem.W.nsIn K mainGlobals "range" = some none)
    (z_sorted : PySem.W.nsIn K mainGlobals "sorted" = some none)
    (z_str : PySem.W.nsIn K mainGlobals "str" = some none)
    (z_tuple : PySem.W.nsIn K mainGlobals "tuple" = some none)
    (z_zip : PySem.W.nsIn K mainGlobals "zip" = some none)
    (a_LETTERS : PySem.W.nsIn K mainGlobals "LETTERS" = some (some (.str "abcdefghijklmnopqrstuvwxyz" t_LETTERS)))
    (a_MOST_LETTERS : PySem.W.nsIn K mainGlobals "MOST_LETTERS" = some (some (.int 6 t_MOST_LETTERS)))
    (a_MOST_DEEP : PySem.W.nsIn K mainGlobals "MOST_DEEP" = some (some (.int 10 t_MOST_DEEP)))
    (a_SHAPE_DEEP : PySem.W.nsIn K mainGlobals "SHAPE_DEEP" = some (some (.int 5 t_SHAPE_DEEP)))
    (a_FALSE : PySem.W.nsIn K mainGlobals "FALSE" = some (some (.ref r_FALSE)))
    (l_FALSE : K.lookup r_FALSE = some ⟨.type "tuple", dd_FALSE, .seq #[.str "false" t0_FALSE] nn_FALSE, ss_FALSE⟩)
    (a_PAIRS : PySem.W.nsIn K mainGlobals "PAIRS" = some (some (.ref r_PAIRS)))
    (l_PAIRS : K.lookup r_PAIRS = some ⟨.type "tuple", dd_PAIRS, .seq #[.str "then" t0_PAIRS, .str "and" t1_PAIRS, .str "or" t2_PAIRS] nn_PAIRS, ss_PAIRS⟩)
    (a_SIGNS : PySem.W.nsIn K mainGlobals "SIGNS" = some (some (.ref r_SIGNS)))
    (l_SIGNS : K.lookup r_SIGNS = some ⟨.type "dict", none, .dict es_SIGNS nn_SIGNS, #[]⟩)
    (kl_SIGNS : PySem.W.KeysLit w.params es_SIGNS.toList) (kt_SIGNS : es_SIGNS.toList.map kvOf = kvT [("then", ">"), ("and", "&"), ("or", "|")]) (lo_SIGNS : (r_SIGNS == sysModules) = false)
    (a_WORDS : PySem.W.nsIn K mainGlobals "WORDS" = some (some (.ref r_WORDS)))
    (l_WORDS : K.lookup r_WORDS = some ⟨.type "dict", none, .dict es_WORDS nn_WORDS, #[]⟩)
    (kl_WORDS : PySem.W.KeysLit w.params es_WORDS.toList) (kt_WORDS : es_WORDS.toList.map kvOf = kvT [(">", "then"), ("&", "and"), ("|", "or")]) (lo_WORDS : (r_WORDS == sysModules) = false)
    (a_is_number : PySem.W.nsIn K mainGlobals "is_number" = some (some (.ref f_is_number)))
    (l_is_number : K.lookup f_is_number = some ⟨oc_is_number, od_is_number, .func (PySem.W.fnOf "is_number" "is_number" (defArgs s_is_number) (defBody s_is_number) (defScope s_is_number) .none kV_is_number dc_is_number pm_is_number an_is_number cd_is_number ct_is_number), sl_is_number⟩)
    (c_is_number : PySem.W.codeIn K cd_is_number "is_number" = true) (k_is_number : PySem.W.keepIn K (.ref f_is_number) = true)
    (a_is_name : PySem.W.nsIn K mainGlobals "is_name" = some (some (.ref f_is_name)))
    (l_is_name : K.lookup f_is_name = some ⟨oc_is_name, od_is_name, .func (PySem.W.fnOf "is_name" "is_name" (defArgs s_is_name) (defBody s_is_name) (defScope s_is_name) .none kV_is_name dc_is_name pm_is_name an_is_name cd_is_name ct_is_name), sl_is_name⟩)
    (c_is_name : PySem.W.codeIn K cd_is_name "is_name" = true) (k_is_name : PySem.W.keepIn K (.ref f_is_name) = true)
    (a_is_leaf : PySem.W.nsIn K mainGlobals "is_leaf" = some (some (.ref f_is_leaf)))
    (l_is_leaf : K.lookup f_is_leaf = some ⟨oc_is_leaf, od_is_leaf, .func (PySem.W.fnOf "is_leaf" "is_leaf" (defArgs s_is_leaf) (defBody s_is_leaf) (defScope s_is_leaf) .none kV_is_leaf dc_is_leaf pm_is_leaf an_is_leaf cd_is_leaf ct_is_leaf), sl_is_leaf⟩)
    (c_is_leaf : PySem.W.codeIn K cd_is_leaf "is_leaf" = true) (k_is_leaf : PySem.W.keepIn K (.ref f_is_leaf) = true)
    (a_is_form : PySem.W.nsIn K mainGlobals "is_form" = some (some (.ref f_is_form)))
    (l_is_form : K.lookup f_is_form = some ⟨oc_is_form, od_is_form, .func (PySem.W.fnOf "is_form" "is_form" (defArgs s_is_form) (defBody s_is_form) (defScope s_is_form) .none kV_is_form dc_is_form pm_is_form an_is_form cd_is_form ct_is_form), sl_is_form⟩)
    (c_is_form : PySem.W.codeIn K cd_is_form "is_form" = true) (k_is_form : PySem.W.keepIn K (.ref f_is_form) = true)
    (a_is_formula : PySem.W.nsIn K mainGlobals "is_formula" = some (some (.ref f_is_formula)))
    (l_is_formula : K.lookup f_is_formula = some ⟨oc_is_formula, od_is_formula, .func (PySem.W.fnOf "is_formula" "is_formula" (defArgs s_is_formula) (defBody s_is_formula) (defScope s_is_formula) .none kV_is_formula dc_is_formula pm_is_formula an_is_formula cd_is_formula ct_is_formula), sl_is_formula⟩)
    (c_is_formula : PySem.W.codeIn K cd_is_formula "is_formula" = true) (k_is_formula : PySem.W.keepIn K (.ref f_is_formula) = true)
    (a_is_shape : PySem.W.nsIn K mainGlobals "is_shape" = some (some (.ref f_is_shape)))
    (l_is_shape : K.lookup f_is_shape = some ⟨oc_is_shape, od_is_shape, .func (PySem.W.fnOf "is_shape" "is_shape" (defArgs s_is_shape) (defBody s_is_shape) (defScope s_is_shape) .none kV_is_shape dc_is_shape pm_is_shape an_is_shape cd_is_shape ct_is_shape), sl_is_shape⟩)
    (c_is_shape : PySem.W.codeIn K cd_is_shape "is_shape" = true) (k_is_shape : PySem.W.keepIn K (.ref f_is_shape) = true)
    (a_written : PySem.W.nsIn K mainGlobals "written" = some (some (.ref f_written)))
    (l_written : K.lookup f_written = some ⟨oc_written, od_written, .func (PySem.W.fnOf "written" "written" (defArgs s_written) (defBody s_written) (defScope s_written) .none kV_written dc_written pm_written an_written cd_written ct_written), sl_written⟩)
    (c_written : PySem.W.codeIn K cd_written "written" = true) (k_written : PySem.W.keepIn K (.ref f_written) = true)
    (a_formula_text : PySem.W.nsIn K mainGlobals "formula_text" = some (some (.ref f_formula_text)))
    (l_formula_text : K.lookup f_formula_text = some ⟨oc_formula_text, od_formula_text, .func (PySem.W.fnOf "formula_text" "formula_text" (defArgs s_formula_text) (defBody s_formula_text) (defScope s_formula_text) .none kV_formula_text dc_formula_text pm_formula_text an_formula_text cd_formula_text ct_formula_text), sl_formula_text⟩)
    (c_formula_text : PySem.W.codeIn K cd_formula_text "formula_text" = true) (k_formula_text : PySem.W.keepIn K (.ref f_formula_text) = true)
    (a_split_pair : PySem.W.nsIn K mainGlobals "split_pair" = some (some (.ref f_split_pair)))
    (l_split_pair : K.lookup f_split_pair = some ⟨oc_split_pair, od_split_pair, .func (PySem.W.fnOf "split_pair" "split_pair" (defArgs s_split_pair) (defBody s_split_pair) (defScope s_split_pair) .none kV_split_pair dc_split_pair pm_split_pair an_split_pair cd_split_pair ct_split_pair), sl_split_pair⟩)
    (c_split_pair : PySem.W.codeIn K cd_split_pair "split_pair" = true) (k_split_pair : PySem.W.keepIn K (.ref f_split_pair) = true)
    (a_form_in : PySem.W.nsIn K mainGlobals "form_in" = some (some (.ref f_form_in)))
    (l_form_in : K.lookup f_form_in = some ⟨oc_form_in, od_form_in, .func (PySem.W.fnOf "form_in" "form_in" (defArgs s_form_in) (defBody s_form_in) (defScope s_form_in) .none kV_form_in dc_form_in pm_form_in an_form_in cd_form_in ct_form_in), sl_form_in⟩)
    (c_form_in : PySem.W.codeIn K cd_form_in "form_in" = true) (k_form_in : PySem.W.keepIn K (.ref f_form_in) = true)
    (a_read_formula : PySem.W.nsIn K mainGlobals "read_formula" = some (some (.ref f_read_formula)))
    (l_read_formula : K.lookup f_read_formula = some ⟨oc_read_formula, od_read_formula, .func (PySem.W.fnOf "read_formula" "read_formula" (defArgs s_read_formula) (defBody s_read_formula) (defScope s_read_formula) .none kV_read_formula dc_read_formula pm_read_formula an_read_formula cd_read_formula ct_read_formula), sl_read_formula⟩)
    (c_read_formula : PySem.W.codeIn K cd_read_formula "read_formula" = true) (k_read_formula : PySem.W.keepIn K (.ref f_read_formula) = true)
    (a__law_bag : PySem.W.nsIn K mainGlobals "_law_bag" = some (some (.ref f__law_bag)))
    (l__law_bag : K.lookup f__law_bag = some ⟨oc__law_bag, od__law_bag, .func (PySem.W.fnOf "_law_bag" "_law_bag" (defArgs s__law_bag) (defBody s__law_bag) (defScope s__law_bag) .none kV__law_bag dc__law_bag pm__law_bag an__law_bag cd__law_bag ct__law_bag), sl__law_bag⟩)
    (c__law_bag : PySem.W.codeIn K cd__law_bag "_law_bag" = true) (k__law_bag : PySem.W.keepIn K (.ref f__law_bag) = true)
    (a__law_pull : PySem.W.nsIn K mainGlobals "_law_pull" = some (some (.ref f__law_pull)))
    (l__law_pull : K.lookup f__law_pull = some ⟨oc__law_pull, od__law_pull, .func (PySem.W.fnOf "_law_pull" "_law_pull" (defArgs s__law_pull) (defBody s__law_pull) (defScope s__law_pull) .none kV__law_pull dc__law_pull pm__law_pull an__law_pull cd__law_pull ct__law_pull), sl__law_pull⟩)
    (c__law_pull : PySem.W.codeIn K cd__law_pull "_law_pull" = true) (k__law_pull : PySem.W.keepIn K (.ref f__law_pull) = true)
    (a__law_any : PySem.W.nsIn K mainGlobals "_law_any" = some (some (.ref f__law_any)))
    (l__law_any : K.lookup f__law_any = some ⟨oc__law_any, od__law_any, .func (PySem.W.fnOf "_law_any" "_law_any" (defArgs s__law_any) (defBody s__law_any) (defScope s__law_any) .none kV__law_any dc__law_any pm__law_any an__law_any cd__law_any ct__law_any), sl__law_any⟩)
    (c__law_any : PySem.W.codeIn K cd__law_any "_law_any" = true) (k__law_any : PySem.W.keepIn K (.ref f__law_any) = true)
    (a__law_like : PySem.W.nsIn K mainGlobals "_law_like" = some (some (.ref f__law_like)))
    (l__law_like : K.lookup f__law_like = some ⟨oc__law_like, od__law_like, .func (PySem.W.fnOf "_law_like" "_law_like" (defArgs s__law_like) (defBody s__law_like) (defScope s__law_like) .none kV__law_like dc__law_like pm__law_like an__law_like cd__law_like ct__law_like), sl__law_like⟩)
    (c__law_like : PySem.W.codeIn K cd__law_like "_law_like" = true) (k__law_like : PySem.W.keepIn K (.ref f__law_like) = true)
    (a__law_fields : PySem.W.nsIn K mainGlobals "_law_fields" = some (some (.ref f__law_fields)))
    (l__law_fields : K.lookup f__law_fields = some ⟨oc__law_fields, od__law_fields, .func (PySem.W.fnOf "_law_fields" "_law_fields" (defArgs s__law_fields) (defBody s__law_fields) (defScope s__law_fields) .none kV__law_fields dc__law_fields pm__law_fields an__law_fields cd__law_fields ct__law_fields), sl__law_fields⟩)
    (c__law_fields : PySem.W.codeIn K cd__law_fields "_law_fields" = true) (k__law_fields : PySem.W.keepIn K (.ref f__law_fields) = true)
    (a__law_try : PySem.W.nsIn K mainGlobals "_law_try" = some (some (.ref f__law_try)))
    (l__law_try : K.lookup f__law_try = some ⟨oc__law_try, od__law_try, .func (PySem.W.fnOf "_law_try" "_law_try" (defArgs s__law_try) (defBody s__law_try) (defScope s__law_try) .none kV__law_try dc__law_try pm__law_try an__law_try cd__law_try ct__law_try), sl__law_try⟩)
    (c__law_try : PySem.W.codeIn K cd__law_try "_law_try" = true) (k__law_try : PySem.W.keepIn K (.ref f__law_try) = true)
    (a__law_tries : PySem.W.nsIn K mainGlobals "_law_tries" = some (some (.ref f__law_tries)))
    (l__law_tries : K.lookup f__law_tries = some ⟨oc__law_tries, od__law_tries, .func (PySem.W.fnOf "_law_tries" "_law_tries" (defArgs s__law_tries) (defBody s__law_tries) (defScope s__law_tries) .none kV__law_tries dc__law_tries pm__law_tries an__law_tries cd__law_tries ct__law_tries), sl__law_tries⟩)
    (c__law_tries : PySem.W.codeIn K cd__law_tries "_law_tries" = true) (k__law_tries : PySem.W.keepIn K (.ref f__law_tries) = true)
    (a__law_names : PySem.W.nsIn K mainGlobals "_law_names" = some (some (.ref f__law_names)))
    (l__law_names : K.lookup f__law_names = some ⟨oc__law_names, od__law_names, .func (PySem.W.fnOf "_law_names" "_law_names" (defArgs s__law_names) (defBody s__law_names) (defScope s__law_names) .none kV__law_names dc__law_names pm__law_names an__law_names cd__law_names ct__law_names), sl__law_names⟩)
    (c__law_names : PySem.W.codeIn K cd__law_names "_law_names" = true) (k__law_names : PySem.W.keepIn K (.ref f__law_names) = true)
    (a__law_form : PySem.W.nsIn K mainGlobals "_law_form" = some (some (.ref f__law_form)))
    (l__law_form : K.lookup f__law_form = some ⟨oc__law_form, od__law_form, .func (PySem.W.fnOf "_law_form" "_law_form" (defArgs s__law_form) (defBody s__law_form) (defScope s__law_form) .none kV__law_form dc__law_form pm__law_form an__law_form cd__law_form ct__law_form), sl__law_form⟩)
    (c__law_form : PySem.W.codeIn K cd__law_form "_law_form" = true) (k__law_form : PySem.W.keepIn K (.ref f__law_form) = true)
    (a__law_text : PySem.W.nsIn K mainGlobals "_law_text" = some (some (.ref f__law_text)))
    (l__law_text : K.lookup f__law_text = some ⟨oc__law_text, od__law_text, .func (PySem.W.fnOf "_law_text" "_law_text" (defArgs s__law_text) (defBody s__law_text) (defScope s__law_text) .none kV__law_text dc__law_text pm__law_text an__law_text cd__law_text ct__law_text), sl__law_text⟩)
    (c__law_text : PySem.W.codeIn K cd__law_text "_law_text" = true) (k__law_text : PySem.W.keepIn K (.ref f__law_text) = true)
    (a__law_deep : PySem.W.nsIn K mainGlobals "_law_deep" = some (some (.ref f__law_deep)))
    (l__law_deep : K.lookup f__law_deep = some ⟨oc__law_deep, od__law_deep, .func (PySem.W.fnOf "_law_deep" "_law_deep" (defArgs s__law_deep) (defBody s__law_deep) (defScope s__law_deep) .none kV__law_deep dc__law_deep pm__law_deep an__law_deep cd__law_deep ct__law_deep), sl__law_deep⟩)
    (c__law_deep : PySem.W.codeIn K cd__law_deep "_law_deep" = true) (k__law_deep : PySem.W.keepIn K (.ref f__law_deep) = true)
    (a_law : PySem.W.nsIn K mainGlobals "law" = some (some (.ref f_law)))
    (l_law : K.lookup f_law = some ⟨oc_law, od_law, .func (PySem.W.fnOf "law" "law" (defArgs s_law) (defBody s_law) (defScope s_law) .none kV_law dc_law pm_law an_law (.ref cc_law) ct_law), sl_law⟩)
    (c_law : PySem.W.codeIn K (.ref cc_law) "law" = true) (k_law : PySem.W.keepIn K (.ref f_law) = true)
    (r_law : PySem.W.recIn K cc_law "code" = some re_law) (p_law : re_law.getD 11 .none = .ref tt_law) (nt_law : K.lookup tt_law = none) (ch_law : PySem.W.codeHdIn K cc_law tt_law = true) (tb_law : h.get? tt_law = some (PySem.W.tabObj #[]))
    (z_super : PySem.W.nsIn K mainGlobals "super" = some none)
    (opq : PySem.W.nsIn K cStatics "thirdparty.any" = some none)
    (tops : (P.main.scope.names.lookup ("super" : Str)).isSome = false)
    (a_GroundError : PySem.W.nsIn K mainGlobals "GroundError" = some (some (.ref C_GroundError)))
    (a_Missing : PySem.W.nsIn K mainGlobals "Missing" = some (some (.ref C_Missing)))
    (a_InvalidFormula : PySem.W.nsIn K mainGlobals "InvalidFormula" = some (some (.ref C_InvalidFormula)))
    (a_NothingLeft : PySem.W.nsIn K mainGlobals "NothingLeft" = some (some (.ref C_NothingLeft)))
    (i_InvalidFormula___init__ : PySem.W.findIn K (.ref C_InvalidFormula) "__init__" = some (some (.ref f_InvalidFormula___init__)))
    (l_InvalidFormula___init__ : K.lookup f_InvalidFormula___init__ = some ⟨oc_InvalidFormula, od_InvalidFormula, .func (NdefX.NF.fd (ExN s_InvalidFormula___init__ "InvalidFormula.__init__" cc_InvalidFormula cd_InvalidFormula) dc_InvalidFormula pm_InvalidFormula ct_InvalidFormula), sl_InvalidFormula⟩)
    (c_InvalidFormula___init__ : PySem.W.codeIn K (.ref cd_InvalidFormula) "InvalidFormula.__init__" = true)
    (y_InvalidFormula___init__ : PySem.W.typeIn K (.ref f_InvalidFormula___init__) = some (.type "function"))
    (lc_InvalidFormula : K.lookup cd_InvalidFormula = some ⟨oo_InvalidFormula, dx_InvalidFormula, .fields vc_InvalidFormula, sx_InvalidFormula⟩)
    (fc_InvalidFormula : vc_InvalidFormula[2]? = some (.str fi_InvalidFormula tf_InvalidFormula))
    (eq_InvalidFormula : ((P.main.file : Str) == fi_InvalidFormula) = true)
    (ce_InvalidFormula : K.lookup cc_InvalidFormula = some ⟨o1_InvalidFormula, d1_InvalidFormula, .cell (some (.ref C_InvalidFormula)), s1_InvalidFormula⟩)
    (cl_InvalidFormula : K.lookup C_InvalidFormula = some (excClassObj nm_InvalidFormula qn_InvalidFormula C_InvalidFormula N_InvalidFormula bs_InvalidFormula bm_InvalidFormula true sn_InvalidFormula sub_InvalidFormula ab_InvalidFormula col_InvalidFormula dd_InvalidFormula k0_InvalidFormula k1_InvalidFormula k2_InvalidFormula k3_InvalidFormula k5_InvalidFormula "ValueError.__new__"))
    (rv_InvalidFormula : PySem.HandSPX.refsVE bm_InvalidFormula = true)
    (mr_InvalidFormula : PySem.W.mroIn K C_InvalidFormula (.ref C_InvalidFormula) = some true)
    (is_InvalidFormula : PySem.W.subIn K (.ref C_InvalidFormula) (.type "ValueError") = some true)
    (su_InvalidFormula : PySem.W.ks_superIn K C_InvalidFormula C_InvalidFormula "__init__" = some (some (.builtin "ValueError.__init__")))
    (sa_InvalidFormula : PySem.W.findIn K (.ref C_InvalidFormula) "__setattr__" = some (some (.builtin "object.__setattr__")))
    (ex_InvalidFormula : PySem.W.subIn K (.ref C_InvalidFormula) (.type "BaseException") = some true)
    (ty_InvalidFormula : PySem.W.typeIn K (.ref C_InvalidFormula) = some (.type "type"))
    (kc_InvalidFormula : PySem.W.keepIn K (.ref C_InvalidFormula) = true)
    (co_InvalidFormula : PySem.W.findIn K (.ref C_InvalidFormula) "code" = some none)
    (fl_InvalidFormula : PySem.W.findIn K (.ref C_InvalidFormula) "value" = some none)
    (ga_InvalidFormula : PySem.W.findIn K (.ref C_InvalidFormula) "__getattribute__" = some (some (.builtin "BaseException.__getattribute__")))
    (gg_InvalidFormula : PySem.W.findIn K (.ref C_InvalidFormula) "__getattr__" = some none)
    (hd_InvalidFormula : PySem.W.hasDictIn K C_InvalidFormula = true)
    (em_InvalidFormula : PySem.W.exmAny K (.ref C_InvalidFormula) [.ref C_GroundError, .ref C_Missing, .ref C_NothingLeft] = some true) : ∃ T : Txt K mg w P, h.get? T.tp_law = some (PySem.W.tabObj #[]) :=
  ⟨{ n_IndexError := PySem.W.mg_none_of X G z_IndexError,
     n_LookupError := PySem.W.mg_none_of X G z_LookupError,
     n_ValueError := PySem.W.mg_none_of X G z_ValueError,
     n_all := PySem.W.mg_none_of X G z_all,
     n_bool := PySem.W.mg_none_of X G z_bool,
     n_dict := PySem.W.mg_none_of X G z_dict,
     n_enumerate := PySem.W.mg_none_of X G z_enumerate,
     n_int := PySem.W.mg_none_of X G z_int,
     n_isinstance := PySem.W.mg_none_of X G z_isinstance,
     n_len := PySem.W.mg_none_of X G z_len,
     n_list := PySem.W.mg_none_of X G z_list,
     n_max := PySem.W.mg_none_of X G z_max,
     n_range := PySem.W.mg_none_of X G z_range,
     n_sorted := PySem.W.mg_none_of X G z_sorted,
     n_str := PySem.W.mg_none_of X G z_str,
     n_tuple := PySem.W.mg_none_of X G z_tuple,
     n_zip := PySem.W.mg_none_of X G z_zip,
     k_LETTERS := t_LETTERS,
     g_LETTERS := PySem.W.mg_of X G a_LETTERS,
     k_MOST_LETTERS := t_MOST_LETTERS,
     g_MOST_LETTERS := PySem.W.mg_of X G a_MOST_LETTERS,
     k_MOST_DEEP := t_MOST_DEEP,
     g_MOST_DEEP := PySem.W.mg_of X G a_MOST_DEEP,
     k_SHAPE_DEEP := t_SHAPE_DEEP,
     g_SHAPE_DEEP := PySem.W.mg_of X G a_SHAPE_DEEP,
     a_FALSE := r_FALSE,
     g_FALSE := PySem.W.mg_of X G a_FALSE,
     q_FALSE := fun _ => .inr ⟨_, _, _, l_FALSE, rfl, rfl, (show 1 ≤ sizeLine by decide), (.cons ⟨_, rfl⟩ .nil)⟩,
     a_PAIRS := r_PAIRS,
     g_PAIRS := PySem.W.mg_of X G a_PAIRS,
     q_PAIRS := fun _ => .inr ⟨_, _, _, l_PAIRS, rfl, rfl, (show 3 ≤ sizeLine by decide), (.cons ⟨_, rfl⟩ (.cons ⟨_, rfl⟩ (.cons ⟨_, rfl⟩ .nil)))⟩,
     a_SIGNS := r_SIGNS,
     g_SIGNS := PySem.W.mg_of X G a_SIGNS,
     kd_SIGNS := ⟨_, _, ⟨l_SIGNS, kl_SIGNS, lo_SIGNS⟩, kt_SIGNS⟩,
     a_WORDS := r_WORDS,
     g_WORDS := PySem.W.mg_of X G a_WORDS,
     kd_WORDS := ⟨_, _, ⟨l_WORDS, kl_WORDS, lo_WORDS⟩, kt_WORDS⟩,
     f_is_number := f_is_number,
     fd_is_number := _,
     F_is_number := fun_mk (st := s_is_number) l_is_number c_is_number k_is_number,
     g_is_number := PySem.W.mg_of X G a_is_number,
     b_is_number := (fun_mk (st := s_is_number) l_is_number c_is_number k_is_number).binds (ps := ["value"]) fun _ _ _ _ _ _ us hl => match us, hl with | [_], _ => rfl,
     f_is_name := f_is_name,
     fd_is_name := _,
     F_is_name := fun_mk (st := s_is_name) l_is_name c_is_name k_is_name,
     g_is_name := PySem.W.mg_of X G a_is_name,
     b_is_name := (fun_mk (st := s_is_name) l_is_name c_is_name k_is_name).binds (ps := ["value"]) fun _ _ _ _ _ _ us hl => match us, hl with | [_], _ => rfl,
     f_is_leaf := f_is_leaf,
     fd_is_leaf := _,
     F_is_leaf := fun_mk (st := s_is_leaf) l_is_leaf c_is_leaf k_is_leaf,
     g_is_leaf := PySem.W.mg_of X G a_is_leaf,
     b_is_leaf := (fun_mk (st := s_is_leaf) l_is_leaf c_is_leaf k_is_leaf).binds (ps := ["value", "leaf"]) fun _ _ _ _ _ _ us hl => match us, hl with | [_, _], _ => rfl,
     f_is_form := f_is_form,
     fd_is_form := _,
     F_is_form := fun_mk (st := s_is_form) l_is_form c_is_form k_is_form,
     g_is_form := PySem.W.mg_of X G a_is_form,
     b_is_form := (fun_mk (st := s_is_form) l_is_form c_is_form k_is_form).binds (ps := ["value", "deep", "leaf"]) fun _ _ _ _ _ _ us hl => match us, hl with | [_, _, _], _ => rfl,
     f_is_formula := f_is_formula,
     fd_is_formula := _,
     F_is_formula := fun_mk (st := s_is_formula) l_is_formula c_is_formula k_is_formula,
     g_is_formula := PySem.W.mg_of X G a_is_formula,
     b_is_formula := (fun_mk (st := s_is_formula) l_is_formula c_is_formula k_is_formula).binds (ps := ["value"]) fun _ _ _ _ _ _ us hl => match us, hl with | [_], _ => rfl,
     f_is_shape := f_is_shape,
     fd_is_shape := _,
     F_is_shape := fun_mk (st := s_is_shape) l_is_shape c_is_shape k_is_shape,
     g_is_shape := PySem.W.mg_of X G a_is_shape,
     b_is_shape := (fun_mk (st := s_is_shape) l_is_shape c_is_shape k_is_shape).binds (ps := ["value"]) fun _ _ _ _ _ _ us hl => match us, hl with | [_], _ => rfl,
     f_written := f_written,
     fd_written := _,
     F_written := fun_mk (st := s_written) l_written c_written k_written,
     g_written := PySem.W.mg_of X G a_written,
     b_written := (fun_mk (st := s_written) l_written c_written k_written).binds (ps := ["term"]) fun _ _ _ _ _ _ us hl => match us, hl with | [_], _ => rfl,
     f_formula_text := f_formula_text,
     fd_formula_text := _,
     F_formula_text := fun_mk (st := s_formula_text) l_formula_text c_formula_text k_formula_text,
     g_formula_text := PySem.W.mg_of X G a_formula_text,
     b_formula_text := (fun_mk (st := s_formula_text) l_formula_text c_formula_text k_formula_text).binds (ps := ["formula"]) fun _ _ _ _ _ _ us hl => match us, hl with | [_], _ => rfl,
     f_split_pair := f_split_pair,
     fd_split_pair := _,
     F_split_pair := fun_mk (st := s_split_pair) l_split_pair c_split_pair k_split_pair,
     g_split_pair := PySem.W.mg_of X G a_split_pair,
     b_split_pair := (fun_mk (st := s_split_pair) l_split_pair c_split_pair k_split_pair).binds (ps := ["text"]) fun _ _ _ _ _ _ us hl => match us, hl with | [_], _ => rfl,
     f_form_in := f_form_in,
     fd_form_in := _,
     F_form_in := fun_mk (st := s_form_in) l_form_in c_form_in k_form_in,
     g_form_in := PySem.W.mg_of X G a_form_in,
     b_form_in := (fun_mk (st := s_form_in) l_form_in c_form_in k_form_in).binds (ps := ["text", "deep"]) fun _ _ _ _ _ _ us hl => match us, hl with | [_, _], _ => rfl,
     f_read_formula := f_read_formula,
     fd_read_formula := _,
     F_read_formula := fun_mk (st := s_read_formula) l_read_formula c_read_formula k_read_formula,
     g_read_formula := PySem.W.mg_of X G a_read_formula,
     b_read_formula := (fun_mk (st := s_read_formula) l_read_formula c_read_formula k_read_formula).binds (ps := ["text"]) fun _ _ _ _ _ _ us hl => match us, hl with | [_], _ => rfl,
     f__law_bag := f__law_bag,
     fd__law_bag := _,
     F__law_bag := fun_mk (st := s__law_bag) l__law_bag c__law_bag k__law_bag,
     g__law_bag := PySem.W.mg_of X G a__law_bag,
     b__law_bag := (fun_mk (st := s__law_bag) l__law_bag c__law_bag k__law_bag).binds (ps := ["_law_script"]) fun _ _ _ _ _ _ us hl => match us, hl with | [_], _ => rfl,
     f__law_pull := f__law_pull,
     fd__law_pull := _,
     F__law_pull := fun_mk (st := s__law_pull) l__law_pull c__law_pull k__law_pull,
     g__law_pull := PySem.W.mg_of X G a__law_pull,
     b__law_pull := (fun_mk (st := s__law_pull) l__law_pull c__law_pull k__law_pull).binds (ps := ["_law_bag_here", "_law_many"]) fun _ _ _ _ _ _ us hl => match us, hl with | [_, _], _ => rfl,
     f__law_any := f__law_any,
     fd__law_any := _,
     F__law_any := fun_mk (st := s__law_any) l__law_any c__law_any k__law_any,
     g__law_any := PySem.W.mg_of X G a__law_any,
     b__law_any := (fun_mk (st := s__law_any) l__law_any c__law_any k__law_any).binds (ps := ["_law_bag_here", "_law_things"]) fun _ _ _ _ _ _ us hl => match us, hl with | [_, _], _ => rfl,
     f__law_like := f__law_like,
     fd__law_like := _,
     F__law_like := fun_mk (st := s__law_like) l__law_like c__law_like k__law_like,
     g__law_like := PySem.W.mg_of X G a__law_like,
     b__law_like := (fun_mk (st := s__law_like) l__law_like c__law_like k__law_like).binds (ps := ["_law_found", "_law_due"]) fun _ _ _ _ _ _ us hl => match us, hl with | [_, _], _ => rfl,
     f__law_fields := f__law_fields,
     fd__law_fields := _,
     F__law_fields := fun_mk (st := s__law_fields) l__law_fields c__law_fields k__law_fields,
     g__law_fields := PySem.W.mg_of X G a__law_fields,
     b__law_fields := (fun_mk (st := s__law_fields) l__law_fields c__law_fields k__law_fields).binds (ps := ["_law_e"]) fun _ _ _ _ _ _ us hl => match us, hl with | [_], _ => rfl,
     f__law_try := f__law_try,
     fd__law_try := _,
     F__law_try := fun_mk (st := s__law_try) l__law_try c__law_try k__law_try,
     g__law_try := PySem.W.mg_of X G a__law_try,
     b__law_try := (fun_mk (st := s__law_try) l__law_try c__law_try k__law_try).binds (ps := ["_law_ask"]) fun _ _ _ _ _ _ us hl => match us, hl with | [_], _ => rfl,
     f__law_tries := f__law_tries,
     fd__law_tries := _,
     F__law_tries := fun_mk (st := s__law_tries) l__law_tries c__law_tries k__law_tries,
     g__law_tries := PySem.W.mg_of X G a__law_tries,
     b__law_tries := (fun_mk (st := s__law_tries) l__law_tries c__law_tries k__law_tries).binds (ps := ["_law_asks"]) fun _ _ _ _ _ _ us hl => match us, hl with | [_], _ => rfl,
     f__law_names := f__law_names,
     fd__law_names := _,
     F__law_names := fun_mk (st := s__law_names) l__law_names c__law_names k__law_names,
     g__law_names := PySem.W.mg_of X G a__law_names,
     b__law_names := (fun_mk (st := s__law_names) l__law_names c__law_names k__law_names).binds (ps := ["_law_bag_here", "_law_many"]) fun _ _ _ _ _ _ us hl => match us, hl with | [_, _], _ => rfl,
     f__law_form := f__law_form,
     fd__law_form := _,
     F__law_form := fun_mk (st := s__law_form) l__law_form c__law_form k__law_form,
     g__law_form := PySem.W.mg_of X G a__law_form,
     b__law_form := (fun_mk (st := s__law_form) l__law_form c__law_form k__law_form).binds (ps := ["_law_bag_here", "_law_words", "_law_deep_here"]) fun _ _ _ _ _ _ us hl => match us, hl with | [_, _, _], _ => rfl,
     f__law_text := f__law_text,
     fd__law_text := _,
     F__law_text := fun_mk (st := s__law_text) l__law_text c__law_text k__law_text,
     g__law_text := PySem.W.mg_of X G a__law_text,
     b__law_text := (fun_mk (st := s__law_text) l__law_text c__law_text k__law_text).binds (ps := ["_law_term"]) fun _ _ _ _ _ _ us hl => match us, hl with | [_], _ => rfl,
     f__law_deep := f__law_deep,
     fd__law_deep := _,
     F__law_deep := fun_mk (st := s__law_deep) l__law_deep c__law_deep k__law_deep,
     g__law_deep := PySem.W.mg_of X G a__law_deep,
     b__law_deep := (fun_mk (st := s__law_deep) l__law_deep c__law_deep k__law_deep).binds (ps := ["_law_term"]) fun _ _ _ _ _ _ us hl => match us, hl with | [_], _ => rfl,
     f_law := f_law,
     fd_law := _,
     F_law := fun_mk (st := s_law) l_law c_law k_law,
     g_law := PySem.W.mg_of X G a_law,
     cd_law := cc_law,
     tp_law := tt_law,
     L_law := ⟨_, _, _, _, _, _, _, _, rfl, l_law⟩,
     cdk_law := c_law,
     nt_law := nt_law,
     ch_law := ch_law,
     b_law := (fun_mk (st := s_law) l_law c_law k_law).binds (ps := ["_law_script"]) fun _ _ _ _ _ _ us hl => match us, hl with | [_], _ => rfl,
     n_super := PySem.W.mg_none_of X G z_super,
     C_GroundError := C_GroundError,
     g_GroundError := PySem.W.mg_of X G a_GroundError,
     C_Missing := C_Missing,
     g_Missing := PySem.W.mg_of X G a_Missing,
     C_InvalidFormula := C_InvalidFormula,
     g_InvalidFormula := PySem.W.mg_of X G a_InvalidFormula,
     C_NothingLeft := C_NothingLeft,
     g_NothingLeft := PySem.W.mg_of X G a_NothingLeft,
     f_InvalidFormula___init__ := f_InvalidFormula___init__,
     fd_InvalidFormula___init__ := _,
     cc_InvalidFormula := cc_InvalidFormula,
     cd_InvalidFormula := cd_InvalidFormula,
     X_InvalidFormula := ⟨⟨⟨_, _, _, l_InvalidFormula___init__, rfl, rfl, rfl⟩, ⟨_, _, _, _, lc_InvalidFormula, rfl, fc_InvalidFormula, eq_InvalidFormula⟩, ⟨_, ce_InvalidFormula, rfl⟩, ⟨_, _, cl_InvalidFormula, rfl⟩, mr_InvalidFormula, is_InvalidFormula, su_InvalidFormula, opq, tops, ⟨⟨_, _, _, _, _, _, _, _, _, _, _, _, _, _, _, cl_InvalidFormula, rv_InvalidFormula⟩, sa_InvalidFormula, ex_InvalidFormula, ty_InvalidFormula, kc_InvalidFormula⟩⟩, ⟨_, _, _, _, _, _, rfl, l_InvalidFormula___init__⟩, c_InvalidFormula___init__, i_InvalidFormula___init__, y_InvalidFormula___init__, co_InvalidFormula, fl_InvalidFormula⟩,
     b_InvalidFormula___init__ := Binds.all fun us hl => match us, hl with | [_, _], _ => rfl,
     xf_InvalidFormula := ⟨ga_InvalidFormula, gg_InvalidFormula, ex_InvalidFormula, hd_InvalidFormula⟩,
     em_InvalidFormula := em_InvalidFormula,
     b_law_all := fun s v => .of_eq rfl }, tb_law⟩
theorem law_walk {l : PySem.W.OpenLaw} {q : Program} {loose : List Str} {XP : (Str → Option Value) → Heap → Prop} {YP : World → Heap → Prop} {d : DefRec} {K : Params → PySem.W.Frag}
    (hn : l.most = some 63) (hdf : d.params.defaults = []) (hd : d.name = "law") (hY : ∀ (w : World) (h : Heap), YP w h → (K w.params).In h)
    (F : ∀ (w : World) (mg : Str → Option Value) (h : Heap), YP w h → (K w.params).In h → h.Ns mainGlobals mg → ∃ T : Txt (K w.params) mg w l.prog, h.get? T.tp_law = some (PySem.W.tabObj #[])) :
    PySem.W.WalkO q loose XP YP l.row.toRowW d [] (fun f vs => PySem.call f vs) := by
  refine LamX.walk_ofTs (n := 63) (k := 29) (x := "_law_script") (CX := fun _ => CX0) hn (by decide) hdf ⟨rfl, by decide, by decide⟩ hY ?_ fun _ _ _ _ _ z => z
  intro w mg fa h Y KX G hfa
  obtain ⟨T, hT⟩ := F w mg h Y KX G
  have e := hfa.symm.trans (hd ▸ T.g_law)
  cases e
  refine ⟨T.fd_law, [(T.cd_law, T.tp_law)], spLawT (K w.params) [T.tp_law], fun p hp => ?_, fun p hp => ?_, fun p hp => ?_, fun s v => T.b_law_all s v, fun H a ns hl _ hH hS => ⟨a, ns, rfl, hS, hl, fun p hp => ?_, fun _ => rfl⟩, fun base _ _ TB => ok_law T (TB _ List.mem_cons_self) law_true⟩
  · obtain rfl := List.mem_singleton.mp hp
    exact hT
  · obtain rfl := List.mem_singleton.mp hp
    exact T.nt_law
  · obtain rfl := List.mem_singleton.mp hp
    exact PySem.W.codeHd_of_K KX T.ch_law
  · obtain rfl := List.mem_singleton.mp hp
    exact hH _ List.mem_cons_self
end Ag

open PySem PySem.W PyProof.Rows in
set_option maxRecDepth 100000 in
set_option maxHeartbeats 0 in
theorem PySem.Challenge.cw_addedgrounds_k03_formulas_and_their_text_holds : PySem.Challenge.rw_addedgrounds_k03_formulas_and_their_text.Holds := by
  w_on; o_law; k_head; (case hw => w_witness2)
  k_fill
  refine Ag.law_walk (l := PySem.Challenge.rw_addedgrounds_k03_formulas_and_their_text) rfl rfl rfl (fun w h Y => PySem.W.km_in_of Y) ?F
  case F =>
    intro w mg h Y KX G
    refine' Ag.txt_mk KX G ?z_IndexError ?z_LookupError ?z_ValueError ?z_all ?z_bool ?z_dict ?z_enumerate ?z_int ?z_isinstance ?z_len ?z_list ?z_max ?z_range ?z_sorted ?z_str ?z_tuple ?z_zip ?a_LETTERS ?a_MOST_LETTERS ?a_MOST_DEEP ?a_SHAPE_DEEP ?a_FALSE ?l_FALSE ?a_PAIRS ?l_PAIRS ?a_SIGNS ?l_SIGNS ?kl_SIGNS ?kt_SIGNS ?lo_SIGNS ?a_WORDS ?l_WORDS ?kl_WORDS ?kt_WORDS ?lo_WORDS ?a_is_number ?l_is_number ?c_is_number ?k_is_number ?a_is_name ?l_is_name ?c_is_name ?k_is_name ?a_is_leaf ?l_is_leaf ?c_is_leaf ?k_is_leaf ?a_is_form ?l_is_form ?c_is_form ?k_is_form ?a_is_formula ?l_is_formula ?c_is_formula ?k_is_formula ?a_is_shape ?l_is_shape ?c_is_shape ?k_is_shape ?a_written ?l_written ?c_written ?k_written ?a_formula_text ?l_formula_text ?c_formula_text ?k_formula_text ?a_split_pair ?l_split_pair ?c_split_pair ?k_split_pair ?a_form_in ?l_form_in ?c_form_in ?k_form_in ?a_read_formula ?l_read_formula ?c_read_formula ?k_read_formula ?a__law_bag ?l__law_bag ?c__law_bag ?k__law_bag ?a__law_pull ?l__law_pull ?c__law_pull ?k__law_pull ?a__law_any ?l__law_any ?c__law_any ?k__law_any ?a__law_like ?l__law_like ?c__law_like ?k__law_like ?a__law_fields ?l__law_fields ?c__law_fields ?k__law_fields ?a__law_try ?l__law_try ?c__law_try ?k__law_try ?a__law_tries ?l__law_tries ?c__law_tries ?k__law_tries ?a__law_names ?l__law_names ?c__law_names ?k__law_names ?a__law_form ?l__law_form ?c__law_form ?k__law_form ?a__law_text ?l__law_text ?c__law_text ?k__law_text ?a__law_deep ?l__law_deep ?c__law_deep ?k__law_deep ?a_law ?l_law ?c_law ?k_law ?r_law ?p_law ?nt_law ?ch_law ?tb_law ?z_super ?opq ?tops ?a_GroundError ?a_Missing ?a_InvalidFormula ?a_NothingLeft ?i_InvalidFormula___init__ ?l_InvalidFormula___init__ ?c_InvalidFormula___init__ ?y_InvalidFormula___init__ ?lc_InvalidFormula ?fc_InvalidFormula ?eq_InvalidFormula ?ce_InvalidFormula ?cl_InvalidFormula ?rv_InvalidFormula ?mr_InvalidFormula ?is_InvalidFormula ?su_InvalidFormula ?sa_InvalidFormula ?ex_InvalidFormula ?ty_InvalidFormula ?kc_InvalidFormula ?co_InvalidFormula ?fl_InvalidFormula ?ga_InvalidFormula ?gg_InvalidFormula ?hd_InvalidFormula ?em_InvalidFormula
    (case z_IndexError => k_is)
    (case z_LookupError => k_is)
    (case z_ValueError => k_is)
    (case z_all => k_is)
    (case z_bool => k_is)
    (case z_dict => k_is)
    (case z_enumerate => k_is)
    (case z_int => k_is)
    (case z_isinstance => k_is)
    (case z_len => k_is)
    (case z_list => k_is)
    (case z_max => k_is)
    (case z_range => k_is)
    (case z_sorted => k_is)
    (case z_str => k_is)
    (case z_tuple => k_is)
    (case z_zip => k_is)
    (case a_LETTERS => k_is)
    (case a_MOST_LETTERS => k_is)
    (case a_MOST_DEEP => k_is)
    (case a_SHAPE_DEEP => k_is)
    (case a_FALSE => k_is)
    (case l_FALSE => k_is)
    (case a_PAIRS => k_is)
    (case l_PAIRS => k_is)
    (case a_SIGNS => k_is)
    (case l_SIGNS => k_is)
    (case kl_SIGNS => exact ⟨⟨_, _, rfl, rfl⟩, ⟨⟨_, _, rfl, rfl⟩, ⟨⟨_, _, rfl, rfl⟩, trivial⟩⟩⟩)
    (case kt_SIGNS => rfl)
    (case lo_SIGNS => rfl)
    (case a_WORDS => k_is)
    (case l_WORDS => k_is)
    (case kl_WORDS => exact ⟨⟨_, _, rfl, rfl⟩, ⟨⟨_, _, rfl, rfl⟩, ⟨⟨_, _, rfl, rfl⟩, trivial⟩⟩⟩)
    (case kt_WORDS => rfl)
    (case lo_WORDS => rfl)
    (case a_is_number => k_is)
    (case l_is_number => k_is)
    (case c_is_number => k_is)
    (case k_is_number => k_is)
    (case a_is_name => k_is)
    (case l_is_name => k_is)
    (case c_is_name => k_is)
    (case k_is_name => k_is)
    (case a_is_leaf => k_is)
    (case l_is_leaf => k_is)
    (case c_is_leaf => k_is)
    (case k_is_leaf => k_is)
    (case a_is_form => k_is)
    (case l_is_form => k_is)
    (case c_is_form => k_is)
    (case k_is_form => k_is)
    (case a_is_formula => k_is)
    (case l_is_formula => k_is)
    (case c_is_formula => k_is)
    (case k_is_formula => k_is)
    (case a_is_shape => k_is)
    (case l_is_shape => k_is)
    (case c_is_shape => k_is)
    (case k_is_shape => k_is)
    (case a_written => k_is)
    (case l_written => k_is)
    (case c_written => k_is)
    (case k_written => k_is)
    (case a_formula_text => k_is)
    (case l_formula_text => k_is)
    (case c_formula_text => k_is)
    (case k_formula_text => k_is)
    (case a_split_pair => k_is)
    (case l_split_pair => k_is)
    (case c_split_pair => k_is)
    (case k_split_pair => k_is)
    (case a_form_in => k_is)
    (case l_form_in => k_is)
    (case c_form_in => k_is)
    (case k_form_in => k_is)
    (case a_read_formula => k_is)
    (case l_read_formula => k_is)
    (case c_read_formula => k_is)
    (case k_read_formula => k_is)
    (case a__law_bag => k_is)
    (case l__law_bag => k_is)
    (case c__law_bag => k_is)
    (case k__law_bag => k_is)
    (case a__law_pull => k_is)
    (case l__law_pull => k_is)
    (case c__law_pull => k_is)
    (case k__law_pull => k_is)
    (case a__law_any => k_is)
    (case l__law_any => k_is)
    (case c__law_any => k_is)
    (case k__law_any => k_is)
    (case a__law_like => k_is)
    (case l__law_like => k_is)
    (case c__law_like => k_is)
    (case k__law_like => k_is)
    (case a__law_fields => k_is)
    (case l__law_fields => k_is)
    (case c__law_fields => k_is)
    (case k__law_fields => k_is)
    (case a__law_try => k_is)
    (case l__law_try => k_is)
    (case c__law_try => k_is)
    (case k__law_try => k_is)
    (case a__law_tries => k_is)
    (case l__law_tries => k_is)
    (case c__law_tries => k_is)
    (case k__law_tries => k_is)
    (case a__law_names => k_is)
    (case l__law_names => k_is)
    (case c__law_names => k_is)
    (case k__law_names => k_is)
    (case a__law_form => k_is)
    (case l__law_form => k_is)
    (case c__law_form => k_is)
    (case k__law_form => k_is)
    (case a__law_text => k_is)
    (case l__law_text => k_is)
    (case c__law_text => k_is)
    (case k__law_text => k_is)
    (case a__law_deep => k_is)
    (case l__law_deep => k_is)
    (case c__law_deep => k_is)
    (case k__law_deep => k_is)
    (case a_law => k_is)
    (case l_law => k_is)
    (case c_law => k_is)
    (case k_law => k_is)
    (case r_law => k_is)
    (case p_law => exact rfl)
    (case nt_law => kernel_rfl)
    (case ch_law => kernel_rfl)
    (case tb_law => exact PySem.W.km_tabs_of Y _ (by decide))
    (case z_super => k_is)
    (case opq => k_is)
    (case tops => kernel_rfl)
    (case a_GroundError => k_is)
    (case a_Missing => k_is)
    (case a_InvalidFormula => k_is)
    (case a_NothingLeft => k_is)
    (case i_InvalidFormula___init__ => k_is)
    (case l_InvalidFormula___init__ => k_is)
    (case c_InvalidFormula___init__ => k_is)
    (case y_InvalidFormula___init__ => k_is)
    (case lc_InvalidFormula => k_is)
    (case fc_InvalidFormula => exact rfl)
    (case eq_InvalidFormula => kernel_rfl)
    (case ce_InvalidFormula => k_is)
    (case cl_InvalidFormula => k_is)
    (case rv_InvalidFormula => kernel_rfl)
    (case mr_InvalidFormula => k_is)
    (case is_InvalidFormula => k_is)
    (case su_InvalidFormula => kernel_rfl)
    (case sa_InvalidFormula => k_is)
    (case ex_InvalidFormula => k_is)
    (case ty_InvalidFormula => k_is)
    (case kc_InvalidFormula => k_is)
    (case co_InvalidFormula => k_is)
    (case fl_InvalidFormula => k_is)
    (case ga_InvalidFormula => k_is)
    (case gg_InvalidFormula => k_is)
    (case hd_InvalidFormula => k_is)
    (case em_InvalidFormula => kernel_rfl)

