import PyProof.Rows.All
import Wide.All
import OpenK.AllK
import Wide.FinOn
import PyProof.DictRoadsH
import KE.DataEq
import HandS.ForMost
import HandS.ForSpec
import HandS.Comp
import HandS.Iter
import HandS.Walk
import HandS.Text
import HandS.TupAny
import HandS.TupMul
import HandS.Style
import HandS.IsInst
import HandS.Conv
import HandS.Rev
import HandS.CallSlots
import HandS.AnyAll
import HandS.RevRange
import HandS.Flow
import HandS.Star
import KE.DataMinMax
import KE.DataCmp
import KE.SortData
import HandS.More
import KE.SortCalls
import HandS.Zip
import HandS.Words
import HandS.WordsExc
import HandS.GenList
import HandS.Dict
import HandS.Head0
import HandS.Head1
import HandS.Head2
import HandS.HeadEnd
import HandS.HeadHook1
import HandS.HeadHook2
import HandS.HeadHook3
import HandS.HeadHook4
import HandS.HeadWalk
import HandS.EndTab
import HandS.Remove
import HandS.SetFor
import HandS.NoneIn
import KE.SortKeyHeap
import KE.KLam
import HandS.ExcValue
import HandS.SortKw
import PySem.Challenge.RW_plantkept_k70_whole_ovens
import KE.KStateDown
section
set_option Elab.async false
set_option linter.all false
set_option maxRecDepth 100000
/-! Dicts by any keys, part a: data as keys (ints, bools, texts, tuples of these, nested). -/
namespace DK
open PySem PySem.Spec PyProof.Rows PySem.SeqAt
open Sem (wp)
mutual
/-- what can be a key here -/
def kOk : PyData → Bool
  | .bool _ => true
  | .int _ => true
  | .str _ => true
  | .tuple xs => kOkAll xs
  | _ => false
def kOkAll : List PyData → Bool
  | [] => true
  | x :: xs => kOk x && kOkAll xs
end
mutual
/-- as keys, bools are numbers -/
def norm : PyData → PyData
  | .bool b => .int (if b then 1 else 0)
  | .tuple xs => .tuple (normAll xs)
  | d => d
def normAll : List PyData → List PyData
  | [] => []
  | x :: xs => norm x :: normAll xs
end
mutual
theorem norm_eqv : ∀ x y : PyData, kOk x = true → kOk y = true → (PyData.eqv x y = true ↔ norm x = norm y)
  | .bool a, y, _, hy => by
    cases y with
    | bool b => cases a <;> cases b <;> simp [PyData.eqv, norm]
    | int j => simp [PyData.eqv, norm]
    | str z => simp [PyData.eqv, norm]
    | tuple zs => simp [PyData.eqv, norm]
    | _ => cases hy
  | .int i, y, _, hy => by
    cases y with
    | bool b => simp [PyData.eqv, norm]
    | int j => simp [PyData.eqv, norm]
    | str z => simp [PyData.eqv, norm]
    | tuple zs => simp [PyData.eqv, norm]
    | _ => cases hy
  | .str i, y, _, hy => by
    cases y with
    | bool b => simp [PyData.eqv, norm]
    | int j => simp [PyData.eqv, norm]
    | str z => simp [PyData.eqv, norm]
    | tuple zs => simp [PyData.eqv, norm]
    | _ => cases hy
  | .tuple xs, y, hx, hy => by
    cases y with
    | bool b => simp [PyData.eqv, norm]
    | int j => simp [PyData.eqv, norm]
    | str z => simp [PyData.eqv, norm]
    | tuple zs =>
      have := normAll_eqv xs zs (by simpa [kOk] using hx) (by simpa [kOk] using hy)
      simp [PyData.eqv, norm, this]
    | _ => cases hy
  | .none, _, hx, _ => by cases hx
  | .list _, _, hx, _ => by cases hx
  | .dict _, _, hx, _ => by cases hx
theorem normAll_eqv : ∀ xs ys : List PyData, kOkAll xs = true → kOkAll ys = true → (PyData.eqvAll xs ys = true ↔ normAll xs = normAll ys)
  | [], [], _, _ => by simp [PyData.eqvAll, normAll]
  | [], _ :: _, _, _ => by simp [PyData.eqvAll, normAll]
  | _ :: _, [], _, _ => by simp [PyData.eqvAll, normAll]
  | x :: xs, y :: ys, hx, hy => by
    simp only [kOkAll, Bool.and_eq_true] at hx hy
    simp [PyData.eqvAll, normAll, norm_eqv x y hx.1 hy.1, normAll_eqv xs ys hx.2 hy.2]
end
theorem slot_bool_hash : Slot "bool" "__hash__" "int.__hash__" :=
  .of (owner := "int") (n := "__hash__") (by rw [typeLookup_type, builtinLookup_eq_fast]; kernel_rfl) (by decide +kernel) (by decide +kernel) (by decide +kernel)
    (by first | exact .inl (by decide +kernel) | exact .inr (by decide +kernel)) (by rw [isSubtype_type]; kernel_rfl)
section
variable {prog : Program} {w : World} {A : Around} {E : Value → Shared → Prop} {s : Shared}
theorem wpAny_pyHash_bool {b : Bool} {Q : Int → Shared → Prop} (h : Q (hashInt (if b then 1 else 0)) { s with toks := s.toks + 1 }) :
    wpAny (model prog w) A (pyHash (.bool b)) Q E s := by
  have hr := rawHash_range (if b then 1 else 0)
  have hT : s.TypeIs (.bool b) "bool" := rfl
  unfold pyHash
  have hv : [Value.bool b].any Value.onHeap = false := rfl
  refine wpAny_bind ?_
  rw [cRoomFor, if_neg (by rw [hv]; exact Bool.false_ne_true)]; refine wpAny_pure ?_
  refine wpAny_bind (wpAny_specialOf hT slot_bool_hash.lookup ?_)
  show wpAny _ _ (if (some (Value.builtin "int.__hash__") == some Value.none) = true then _ else _) Q E s
  rw [if_neg (by rw [beq_builtin_none]; exact Bool.false_ne_true)]
  refine wpAny_bind (wpAny_specialOf hT slot_bool_hash.lookup ?_)
  show wpAny _ _ (callSpecialIfBoundUnlessNone? (.bool b) "__hash__" _ >>= _) Q E s
  refine wpAny_bind (wpAny_callSpecialIfBoundUnlessNone?_slot hT slot_bool_hash
    (wpAny_call_entry slot_bool_hash hT entry_int_hash
      (show wpAny _ _ (do ret (← mkInt (rawHash (if b then 1 else 0)))) _ _ s from wpAny_ret_mkInt ?_) (args_int_hash _)))
  show wpAny _ _ (if (decide (-(2 : Int) ^ 63 ≤ rawHash (if b then 1 else 0)) && decide (rawHash (if b then 1 else 0) < 2 ^ 63)) = true then _ else _) Q E _
  rw [if_pos (by rw [decide_eq_true hr.1, decide_eq_true hr.2]; rfl)]
  exact wpAny_pure h
end
mutual
def hashD (w : World) : PyData → Int
  | .bool b => hashInt (if b then 1 else 0)
  | .int i => hashInt i
  | .str x => hashStr w x
  | .tuple xs => reduceHash (Builtin.Tuple.tupleHashOf (hashAll w xs))
  | _ => 0
def hashAll (w : World) : List PyData → List Int
  | [] => []
  | x :: xs => hashD w x :: hashAll w xs
end
mutual
theorem hash_norm (w : World) : ∀ x : PyData, hashD w (norm x) = hashD w x
  | .bool _ => by simp [norm, hashD]
  | .int _ => rfl
  | .str _ => rfl
  | .tuple xs => by simp [norm, hashD, hashAll_norm w xs]
  | .none => rfl
  | .list _ => rfl
  | .dict _ => rfl
theorem hashAll_norm (w : World) : ∀ xs : List PyData, hashAll w (normAll xs) = hashAll w xs
  | [] => rfl
  | x :: xs => by simp [normAll, hashAll, hash_norm w x, hashAll_norm w xs]
end
mutual
def drawD : PyData → Nat
  | .tuple xs => drawAll xs + 1
  | _ => 1
def drawAll : List PyData → Nat
  | [] => 0
  | x :: xs => drawD x + drawAll xs
end
mutual
theorem draw_norm : ∀ x : PyData, drawD (norm x) = drawD x
  | .bool _ => rfl
  | .int _ => rfl
  | .str _ => rfl
  | .tuple xs => by simp [norm, drawD, drawAll_norm xs]
  | .none => rfl
  | .list _ => rfl
  | .dict _ => rfl
theorem drawAll_norm : ∀ xs : List PyData, drawAll (normAll xs) = drawAll xs
  | [] => rfl
  | x :: xs => by simp [normAll, drawAll, draw_norm x, drawAll_norm xs]
end
theorem hashAll_append (w : World) : ∀ xs ys : List PyData, hashAll w (xs ++ ys) = hashAll w xs ++ hashAll w ys
  | [], _ => rfl
  | x :: xs, ys => by simp [hashAll, hashAll_append w xs ys]
theorem drawAll_append : ∀ xs ys : List PyData, drawAll (xs ++ ys) = drawAll xs + drawAll ys
  | [], _ => by simp [drawAll]
  | x :: xs, ys => by simp [drawAll, drawAll_append xs ys, Nat.add_assoc]
theorem kOkAll_mem : ∀ {xs : List PyData} {x : PyData}, kOkAll xs = true → x ∈ xs → kOk x = true
  | y :: ys, x, h, hm => by
    simp only [kOkAll, Bool.and_eq_true] at h
    rcases List.mem_cons.mp hm with e | hm
    · rw [e]; exact h.1
    · exact kOkAll_mem h.2 hm
theorem depth_mem : ∀ {xs : List PyData} {x : PyData}, x ∈ xs → x.depth ≤ PyData.depthAll xs
  | y :: ys, x, hm => by
    rw [PyData.depthAll]
    rcases List.mem_cons.mp hm with e | hm
    · rw [e]; exact Nat.le_max_left _ _
    · exact Nat.le_trans (depth_mem hm) (Nat.le_max_right _ _)
theorem Reads.toks {h : Heap} {v : Value} {d : PyData} {as : List Addr} (r : Reads h v d as) : Reads h v d as := r
section
variable {prog : Program} {w : World}
theorem hash_data : ∀ (n : Nat) (d : PyData) (v : Value) (as : List Addr) (A : Around) (E : Value → Shared → Prop) (s : Shared) (Q : Int → Shared → Prop), d.depth ≤ n → kOk d = true → Reads s.heap v d as → A.units + d.depth < cLine →
    Q (hashD w d) { s with toks := s.toks + drawD d } → wpAny (model prog w) A (pyHash v) Q E s
  | _, .bool b, v, as, A, E, s, Q, _, hk, r, hu, h => by
    cases r
    exact wpAny_pyHash_bool h
  | _, .int i, v, as, A, E, s, Q, _, hk, r, hu, h => by
    cases r
    exact wpAny_pyHash_int h
  | _, .str x, v, as, A, E, s, Q, _, hk, r, hu, h => by
    cases r
    exact wpAny_pyHash_str h
  | 0, .tuple xs, v, as, A, E, s, Q, hn, hk, r, hu, h => by simp [PyData.depth] at hn
  | n + 1, .tuple xs, v, as, A, E, s, Q, hn, hk, r, hu, h => by
    cases r with
    | tuple ho hc hd hi =>
      rename_i a o vs m
      have hT : s.TypeIs (.ref a) "tuple" := ⟨o, ho, hc⟩
      simp only [PyData.depth] at hu hn
      simp only [kOk] at hk
      unfold pyHash
      first | unfold pyHashByItsType | skip
      first | refine wpAny_bind (wpAny_cRoomFor_or (.inr (by omega)) ?_) | skip
      refine wpAny_bind (wpAny_specialOf hT F.slot_tuple_hash.lookup ?_)
      show wpAny _ _ (if (some (Value.builtin "tuple.__hash__") == some Value.none) = true then _ else _) Q E s
      rw [if_neg (by rw [beq_builtin_none]; exact Bool.false_ne_true)]
      refine wpAny_bind (wpAny_specialOf hT F.slot_tuple_hash.lookup ?_)
      show wpAny _ _ (callSpecialIfBoundUnlessNone? (.ref a) "__hash__" _ >>= _) Q E s
      refine wpAny_bind (wpAny_callSpecialIfBoundUnlessNone?_slot hT F.slot_tuple_hash (wpAny_call_entry F.slot_tuple_hash hT F.entry_tuple_hash ?_ (F.args_tuple_hash_1 _)))
      show wpAny _ _ (Builtin.Tuple.tupleItemsOf (.ref a) >>= _) _ _ s
      refine wpAny_bind (wpAny_tupleItemsOf ho hd ?_)
      refine wpAny_bind ?_
      rw [← Array.forIn_toList]
      refine wpAny_forIn_list _
        (fun rest (b : Array Int) s' => ∃ done left bs, xs = done ++ left ∧ ReadsAll s.heap rest left bs ∧ b.toList = hashAll w done ∧ s' = { s with toks := s.toks + drawAll done })
        _ ?_ ?_ _ _ ⟨[], xs, _, rfl, hi, rfl, rfl⟩
      · rintro x rest b s' ⟨done, left, bs, exs, hl, hb, rfl⟩
        cases hl with
        | cons h1 hl' =>
          rename_i d1 ds1 as1 bs1
          have hm : d1 ∈ xs := by rw [exs]; simp
          have hdm := depth_mem hm
          have hA : A.in1.units = A.units + 1 := rfl
          refine wpAny_bind (hash_data n d1 x _ _ _ _ _ (by omega) (kOkAll_mem hk hm) h1 (by show A.in1.units + _ < _; rw [hA]; omega) ?_)
          have hres : ∃ done left bs, xs = done ++ left ∧ ReadsAll s.heap rest left bs ∧ (b.push (hashD w d1)).toList = hashAll w done ∧ ({ { s with toks := s.toks + drawAll done } with toks := s.toks + drawAll done } : Shared) = { s with toks := s.toks + drawAll done } := by
            refine ⟨done ++ [d1], ds1, _, by rw [exs]; simp, hl', ?_, rfl⟩
            rw [hashAll_append, ← hb]
            simp [hashAll]
          have hst : ({ { s with toks := s.toks + drawAll done } with toks := { s with toks := s.toks + drawAll done }.toks + drawD d1 } : Shared) = { s with toks := s.toks + drawAll (done ++ [d1]) } := by
            rw [drawAll_append]
            simp [drawAll, Nat.add_assoc]
          rw [hst]
          first
            | exact wpAny_pure ⟨done ++ [d1], ds1, _, by rw [exs]; simp, hl', by rw [hashAll_append, ← hb]; simp [hashAll], rfl⟩
            | exact wpAny_bind (wpAny_pure (wpAny_pure ⟨done ++ [d1], ds1, _, by rw [exs]; simp, hl', by rw [hashAll_append, ← hb]; simp [hashAll], rfl⟩))
      · rintro b s' ⟨done, left, bs, exs, hl, hb, rfl⟩
        cases hl
        rw [List.append_nil] at exs
        subst exs
        show wpAny _ _ (retInt (Builtin.Tuple.tupleHashOf b.toList)) _ _ _
        rw [hb]
        refine wpAny_ret_mkInt ?_
        show wpAny _ _ (if (decide (-(2 : Int) ^ 63 ≤ Builtin.Tuple.tupleHashOf (hashAll w xs)) && decide (Builtin.Tuple.tupleHashOf (hashAll w xs) < 2 ^ 63)) = true then _ else _) Q E _
        simp only [hashD, reduceHash, drawD] at h
        by_cases hr : (decide (-(2 : Int) ^ 63 ≤ Builtin.Tuple.tupleHashOf (hashAll w xs)) && decide (Builtin.Tuple.tupleHashOf (hashAll w xs) < 2 ^ 63)) = true
        · rw [if_pos hr]
          rw [if_pos hr] at h
          exact wpAny_pure (by simpa [Nat.add_assoc] using h)
        · rw [if_neg hr]
          rw [if_neg hr] at h
          exact wpAny_bind (wpAny_rule (wpAny_pure (by simpa [Nat.add_assoc] using h)))
  | _, .none, _, _, _, _, _, _, _, hk, _, _, _ => by cases hk
  | _, .list _, _, _, _, _, _, _, _, hk, _, _, _ => by cases hk
  | _, .dict _, _, _, _, _, _, _, _, hk, _, _, _ => by cases hk
end
mutual
theorem kOk_plain : ∀ d : PyData, kOk d = true → d.plain = true
  | .bool _, _ => rfl
  | .int _, _ => rfl
  | .str _, _ => rfl
  | .tuple xs, h => by
    rw [PyData.plain]
    exact kOkAll_plain xs (by simpa [kOk] using h)
  | .none, h => by cases h
  | .list _, h => by cases h
  | .dict _, h => by cases h
theorem kOkAll_plain : ∀ xs : List PyData, kOkAll xs = true → PyData.plainAll xs = true
  | [], _ => rfl
  | x :: xs, h => by
    simp only [kOkAll, Bool.and_eq_true] at h
    rw [PyData.plainAll, kOk_plain x h.1, kOkAll_plain xs h.2]; rfl
end
mutual
/-- a dict is changed: what keys are stays -/
theorem reads_but {h h' : Heap} {a : Addr} {o : Obj} {es : Array DictEntry} {ep : Nat} (ho : h.get? a = some o) (hd : o.data = .dict es ep) (hs : Heap.SameBut a h h') : ∀ (d : PyData) (v : Value) (as : List Addr), kOk d = true → Reads h v d as → Reads h' v d as
  | .bool _, _, _, _, r => by cases r; exact .bool _
  | .int _, _, _, _, r => by cases r; exact .int _ _
  | .str _, _, _, _, r => by cases r; exact .str _ _
  | .tuple xs, _, _, hk, r => by
    cases r with
    | @tuple b o' vs n _ _ h1 h2 h3 h4 =>
      have hb : b ≠ a := by
        rintro rfl
        rw [ho] at h1
        cases h1
        rw [hd] at h3
        cases h3
      exact .tuple ((hs.2 b hb).trans h1) h2 h3 (readsAll_but ho hd hs xs _ _ (by simpa [kOk] using hk) h4)
  | .none, _, _, h, _ => by cases h
  | .list _, _, _, h, _ => by cases h
  | .dict _, _, _, h, _ => by cases h
theorem readsAll_but {h h' : Heap} {a : Addr} {o : Obj} {es : Array DictEntry} {ep : Nat} (ho : h.get? a = some o) (hd : o.data = .dict es ep) (hs : Heap.SameBut a h h') : ∀ (xs : List PyData) (vs : List Value) (as : List Addr), kOkAll xs = true → ReadsAll h vs xs as → ReadsAll h' vs xs as
  | [], _, _, _, r => by cases r; exact .nil
  | x :: xs, _, _, hk, r => by
    simp only [kOkAll, Bool.and_eq_true] at hk
    cases r with
    | cons r1 r2 => exact .cons (reads_but ho hd hs x _ _ hk.1 r1) (readsAll_but ho hd hs xs _ _ hk.2 r2)
end
/-- a ref that is a key -/
def IsK (h : Heap) (k : PyData) (a : Addr) : Prop := ∃ d as, Reads h (.ref a) d as ∧ kOk d = true ∧ d.depth ≤ 7 ∧ norm d = k
theorem reads_ref {h : Heap} {a : Addr} {d : PyData} {as : List Addr} (r : Reads h (.ref a) d as) (hk : kOk d = true) : ∃ xs o vs n, d = .tuple xs ∧ h.get? a = some o ∧ o.cls = .type "tuple" ∧ o.data = .seq vs n ∧ ReadsAll h vs.toList xs as := by
  cases r with
  | tuple h1 h2 h3 h4 => exact ⟨_, _, _, _, rfl, h1, h2, h3, h4⟩
  | list h1 h2 h3 h4 => cases hk
  | dict h1 h2 h3 h4 h5 => cases hk
section
variable {prog : Program} {w : World}
theorem quiet_data : ∀ (n : Nat) (d : PyData) (v : Value) (as : List Addr) (A : Around) (E : Value → Shared → Prop) (s : Shared) (Q : Bool → Shared → Prop), d.depth ≤ n → kOk d = true → Reads s.heap v d as → Q true s → wpAny (model prog w) A (eqIsQuiet n v) Q E s
  | n, .bool b, v, as, A, E, s, Q, _, hk, r, h => by
    cases r
    rw [eqIsQuiet_byValue n rfl]; exact wpAny_pure h
  | n, .int b, v, as, A, E, s, Q, _, hk, r, h => by
    cases r
    rw [eqIsQuiet_byValue n rfl]; exact wpAny_pure h
  | n, .str b, v, as, A, E, s, Q, _, hk, r, h => by
    cases r
    rw [eqIsQuiet_byValue n rfl]; exact wpAny_pure h
  | 0, .tuple xs, v, as, A, E, s, Q, hn, hk, r, h => by simp [PyData.depth] at hn
  | n + 1, .tuple xs, v, as, A, E, s, Q, hn, hk, r, h => by
    cases r with
    | tuple ho hc hd hi =>
      rename_i a o vs m
      have hT : s.TypeIs (.ref a) "tuple" := ⟨o, ho, hc⟩
      simp only [PyData.depth] at hn
      simp only [kOk] at hk
      unfold eqIsQuiet
      refine wpAny_bind (wpAny_specialOf hT F.slot_tuple_eq.lookup ?_)
      show wpAny _ _ (isInstance (.ref a) (.type "tuple") >>= _) _ _ s
      refine wpAny_bind (wpAny_isInstance hT isSubtype_tuple_tuple ?_)
      simp only [Bool.not_true, Bool.false_eq_true, if_false]
      refine wpAny_bind (wpAny_seqItems ho hd ?_)
      refine wpAny_bind ?_
      show wpAny _ _ (forIn vs _ _) _ _ s
      rw [← Array.forIn_toList]
      refine wpAny_forIn_list _ (fun rest r s' => r.1 = none ∧ s' = s ∧ ∃ left bs, ReadsAll s.heap rest left bs ∧ ∀ x ∈ left, x ∈ xs) _ ?_ ?_ _ _ ⟨rfl, rfl, xs, _, hi, fun _ h => h⟩
      · rintro v rest r s' ⟨hr, rfl, left, bs, hl, hsub⟩
        cases hl with
        | cons h1 hl' =>
          rename_i d1 ds1 as1 bs1
          have hm : d1 ∈ xs := hsub d1 List.mem_cons_self
          have hdm := depth_mem hm
          refine wpAny_bind (quiet_data n d1 v _ _ _ _ _ (by omega) (kOkAll_mem hk hm) h1 ?_)
          simp only [Bool.not_true, Bool.false_eq_true, if_false]
          exact wpAny_pure ⟨rfl, rfl, ds1, _, hl', fun x hx => hsub x (List.mem_cons_of_mem _ hx)⟩
      · rintro ⟨r1, r2⟩ s' ⟨hr, rfl, _⟩
        simp only at hr
        subst hr
        exact wpAny_pure h
  | _, .none, _, _, _, _, _, _, _, hk, _, _ => by cases hk
  | _, .list _, _, _, _, _, _, _, _, hk, _, _ => by cases hk
  | _, .dict _, _, _, _, _, _, _, _, hk, _, _ => by cases hk
theorem quiet_up : ∀ (n : Nat) (v : Value) (d : PyData) (as : List Addr) (A : Around) (E : Value → Shared → Prop) (s : Shared) (Q : Bool → Shared → Prop), n ≤ 8 → d.depth ≤ n → kOk d = true → Reads s.heap v d as → Q true s → wpAny (model prog w) A (eqIsQuiet 8 v) Q E s :=
  fun n v d as A E s Q h8 hd hk r h => quiet_data 8 d v as A E s Q (by omega) hk r h
noncomputable local instance pdEq : DecidableEq PyData := fun a b => Classical.propDecidable (a = b)
/-- data as keys: tuples, nested -/
noncomputable def dataKind : HeapKind prog w PyData where
  is := IsK
  hash := hashD w
  draws := drawD
  room := fun A => A.units + 48 < cLine
  inj := by
    rintro h a x y ⟨d, as, r, hk, _, rfl⟩ ⟨d', as', r', hk', _, rfl⟩
    rw [plain_unique d d' _ as as' (kOk_plain d hk) r r']
  keeps := by
    rintro h h' k a d o es ep ⟨x, as, r, hk, hdep, rfl⟩ ho hd hs
    exact ⟨x, as, reads_but ho hd hs x _ as hk r, hk, hdep, rfl⟩
  pyHash := by
    rintro A E s k a Q hu ⟨d, as, r, hk, hdep, rfl⟩ h
    refine hash_data 7 d _ as A E s Q hdep hk r (by omega) ?_
    rw [hash_norm, draw_norm] at h
    exact h
  eqBool := by
    rintro A E s x y a b Q hu ⟨d, as, r, hk, hdep, rfl⟩ ⟨d', as', r', hk', hdep', rfl⟩ h
    refine eqAt_plain d d' A s _ _ as as' r r' (kOk_plain d hk) (kOk_plain d' hk') (by omega) prog w E Q ?_
    have : PyData.eqv d d' = decide (norm d = norm d') := by
      rw [Bool.eq_iff_iff, decide_eq_true_iff]
      exact norm_eqv d d' hk hk'
    rw [this]
    exact h
  quiet := by
    rintro A E s k a Q ⟨d, as, r, hk, hdep, rfl⟩ h
    exact quiet_data 8 d _ as A E s Q (by omega) hk r h
end
end DK
end
section
set_option Elab.async false
set_option linter.all false
set_option maxRecDepth 100000
/-! The data layer, part a: data as values, what lives and what is frozen, states. -/
namespace DL
open PySem PySem.Spec PyProof.Rows L2

/-- what a slot holds: data, or an own object -/
inductive SV where
  | pure (d : PyData)
  | scr (ds : List PyData)
  | obj (i : Nat)
/-- an own object: it may be changed -/
inductive O where
  | lst (ds : List PyData)
  | dK (kvs : List (Key × PyData))
  /-- a dict whose keys are tuples (of ints, bools, texts, tuples) -/
  | dM (kvs : List (PyData × PyData))
  | dead
abbrev Sto := List O
structure S where
  env : List (Option SV)
  st : Sto
inductive Res (α : Type) where
  | ok (a : α)
  | exc (c : Str) (s : S)
  | stuck
namespace Res
variable {α β : Type}
def bind : Res α → (α → Res β) → Res β
  | .ok a, f => f a
  | .exc c s, _ => .exc c s
  | .stuck, _ => .stuck
@[simp] theorem bind_ok (a : α) (f : α → Res β) : (Res.ok a).bind f = f a := rfl
@[simp] theorem bind_exc (c : Str) (s : S) (f : α → Res β) : (Res.exc c s : Res α).bind f = .exc c s := rfl
@[simp] theorem bind_stuck (f : α → Res β) : (Res.stuck : Res α).bind f = .stuck := rfl
end Res

/-! ### data in the abstract heap -/
/-- a tuple that is read; av: addresses that it must not lie at -/
def TupAt (K : PySem.W.Frag) (av : List Addr) (H : Hp) (a : Addr) (xs : List V) : Prop :=
  (Rd H a (.tup xs) ∧ a ∉ av) ∨
    ∃ (o : Obj) (its : Array Value) (n : Nat), K.lookup a = some o ∧ o.cls = .type "tuple" ∧ o.data = .seq its n ∧ its.size ≤ sizeLine ∧ Vals xs its.toList
def LstAt (K : PySem.W.Frag) (av : List Addr) (H : Hp) (a : Addr) (xs : List V) : Prop := H a = some (.lst xs) ∧ a ∉ av
/-- a list that is read and never written (the script) -/
def ScrAt (K : PySem.W.Frag) (av : List Addr) (H : Hp) (a : Addr) (xs : List V) : Prop :=
  (Rd H a (.lst xs) ∧ a ∉ av) ∨
    ∃ (o : Obj) (its : Array Value) (n : Nat), K.lookup a = some o ∧ o.cls = .type "list" ∧ o.dict = none ∧ o.data = .seq its n ∧ its.size ≤ sizeLine ∧ Vals xs its.toList
theorem ScrAt.sq {K : PySem.W.Frag} {av : List Addr} {H : Hp} {a : Addr} {xs : List V} (h : ScrAt K av H a xs) : SqL K H a xs := by
  rcases h with h | h
  · exact .inl h.1
  · exact .inr h
theorem TupAt.sq {K : PySem.W.Frag} {av : List Addr} {H : Hp} {a : Addr} {xs : List V} (h : TupAt K av H a xs) : SqT K H a xs := by
  rcases h with h | h
  · exact .inl h.1
  · exact .inr h
theorem LstAt.sq {K : PySem.W.Frag} {av : List Addr} {H : Hp} {a : Addr} {xs : List V} (h : LstAt K av H a xs) : SqL K H a xs := .inl (.inl h.1)

mutual
/-- v is the datum, in H; its lists and tuples lie at none of av -/
def Rep (K : PySem.W.Frag) (av : List Addr) (H : Hp) : PyData → V → Prop
  | .none, v => v = .non
  | .bool b, v => v = .bl b
  | .int i, v => v = .int i
  | .str x, v => v = .str x
  | .list ds, v => ∃ a vs, v = .ref a ∧ LstAt K av H a vs ∧ RepA K av H ds vs
  | .tuple ds, v => ∃ a vs, v = .ref a ∧ TupAt K av H a vs ∧ RepA K av H ds vs
  | .dict _, _ => False
def RepA (K : PySem.W.Frag) (av : List Addr) (H : Hp) : List PyData → List V → Prop
  | [], vs => vs = []
  | d :: ds, vs => ∃ v r, vs = v :: r ∧ Rep K av H d v ∧ RepA K av H ds r
end

/-- a code object at c, its table at P -/
def CodeN (h : Heap) (c : Addr) : Prop := ∃ (oc : Obj) (vs : Array Value) (q : Str) (t : Tok), h.get? c = some oc ∧ oc.data = .fields vs ∧ vs[1]? = some (.str q t)
def CodeT (c P : Addr) : HO := .ext fun h => PySem.W.CodeHd h c P ∧ CodeN h c
/-- tracked tables: each code object that one of them tells is tracked, and so is its table -/
def Tr (S : Addr → Prop) (H : Hp) : Prop := ∀ P, S P → ∃ ps : Array Value, H P = some (.tbl ps) ∧ TriplesOk ps.toList ∧ ∀ (pos : Pos) (cv : Value), codeAmong pos ps.toList = some cv → ∃ c' P', cv = .ref c' ∧ H c' = some (CodeT c' P') ∧ S P'
def TabT (H : Hp) (P : Addr) : Prop := ∃ S : Addr → Prop, S P ∧ Tr S H
theorem TabT.kept {H H' : Hp} {P : Addr} (h : TabT H P) (ht : ∀ a ps, H a = some (.tbl ps) → H' a = some (.tbl ps)) (he : ∀ a c Q, H a = some (CodeT c Q) → H' a = some (CodeT c Q)) : TabT H' P := by
  obtain ⟨S, h1, h2⟩ := h
  refine ⟨S, h1, fun P hP => ?_⟩
  obtain ⟨ps, q1, q2, q3⟩ := h2 P hP
  refine ⟨ps, ht P ps q1, q2, fun pos cv e => ?_⟩
  obtain ⟨c', P', r1, r2, r3⟩ := q3 pos cv e
  exact ⟨c', P', r1, he _ _ _ r2, r3⟩
theorem TabT.g {H : Hp} {P : Addr} (h : TabT H P) : GxR.TabG H P := by
  obtain ⟨S, h1, h2⟩ := h
  obtain ⟨ps, q1, q2, _⟩ := h2 P h1
  exact ⟨ps, q1, q2⟩
theorem TabT.out {H : Hp} {P : Addr} {ps : Array Value} (h : TabT H P) (hP : H P = some (.tbl ps)) {pos : Pos} {cv : Value} (e : codeAmong pos ps.toList = some cv) : ∃ c' P', cv = .ref c' ∧ H c' = some (CodeT c' P') ∧ TabT H P' := by
  obtain ⟨S, h1, h2⟩ := h
  obtain ⟨qs, q1, q2, q3⟩ := h2 P h1
  rw [hP] at q1
  cases q1
  obtain ⟨c', P', r1, r2, r3⟩ := q3 pos cv e
  exact ⟨c', P', r1, r2, S, r3, h2⟩
/-- neither a table nor a thing of its own kind -/
def Mut (o : HO) : Prop := (∀ ps, o ≠ .tbl ps) ∧ ∀ c P, o ≠ CodeT c P
/-- what is left as it was: all that is tracked, but at W; tables may grow -/
structure Evo (W : List Addr) (H H' : Hp) : Prop where
  keep : ∀ a o, H a = some o → a ∉ W → (∀ ps, o ≠ .tbl ps) → H' a = some o
  ext : ∀ a c P, H a = some (CodeT c P) → H' a = some (CodeT c P)
  tbl : ∀ a ps, H a = some (.tbl ps) → ∃ more, H' a = some (.tbl (ps ++ more))
  tab : ∀ P, TabT H P → TabT H' P
section
variable {W W' W2 : List Addr} {H H1 H2 : Hp} {K : PySem.W.Frag} {av : List Addr}
theorem Evo.refl : Evo W H H := ⟨fun _ _ h _ _ => h, fun _ _ _ h => h, fun a ps h => ⟨#[], by rw [h]; simp⟩, fun _ h => h⟩
theorem Evo.mono (e : Evo W H H1) (h : ∀ a ∈ W, a ∈ W') : Evo W' H H1 := ⟨fun a o q n t => e.keep a o q (fun z => n (h a z)) t, e.ext, e.tbl, e.tab⟩
theorem Evo.wide (e : Evo [] H H1) : Evo W H H1 := e.mono fun _ h => by cases h
theorem Evo.there (e : Evo W H H1) {a : Addr} {o : HO} (h : H a = some o) (n : a ∉ W) : ∃ o', H1 a = some o' := by
  cases o with
  | tbl ps => obtain ⟨m, q⟩ := e.tbl a ps h; exact ⟨_, q⟩
  | _ => exact ⟨_, e.keep a _ h n (fun _ z => by cases z)⟩
theorem Evo.trans (a : Evo W H H1) (b : Evo W2 H1 H2) (h : ∀ x ∈ W2, x ∈ W ∨ H x = none) : Evo W H H2 :=
  ⟨fun x o q n t => b.keep x o (a.keep x o q n t) (fun z => (h x z).elim n fun y => by rw [q] at y; cases y) t,
   fun x c P q => b.ext x c P (a.ext x c P q),
   fun x ps q => by
    obtain ⟨m1, q1⟩ := a.tbl x ps q
    obtain ⟨m2, q2⟩ := b.tbl x _ q1
    exact ⟨m1 ++ m2, by rw [q2, Array.append_assoc]⟩,
   fun P t => b.tab P (a.tab P t)⟩
theorem Evo.trans' (a : Evo W H H1) (b : Evo W H1 H2) : Evo W H H2 := a.trans b fun _ h => .inl h
theorem Evo.free (e : Evo W H H1) {a : Addr} (h : H1 a = none) : a ∈ W ∨ H a = none := by
  by_cases n : a ∈ W
  · exact .inl n
  · cases q : H a with
    | none => exact .inr rfl
    | some o => obtain ⟨o', q'⟩ := e.there q n; rw [h] at q'; cases q'
/-- a new object -/
theorem Evo.new {p : Addr} {o : HO} (h : H p = none) : Evo W H (upd H p o) :=
  ⟨fun a u q _ _ => by rw [upd_ne (ne_of_none q h)]; exact q, fun a c P q => by rw [upd_ne (ne_of_none q h)]; exact q, fun a ps q => ⟨#[], by rw [upd_ne (ne_of_none q h), q]; simp⟩,
   fun P t => t.kept (fun a ps q => by rw [upd_ne (ne_of_none q h)]; exact q) fun a c P q => by rw [upd_ne (ne_of_none q h)]; exact q⟩
/-- an own object is changed -/
theorem Evo.at {p : Addr} {o o' : HO} (h : H p = some o') (ht : Mut o') (hp : p ∈ W) : Evo W H (upd H p o) :=
  have e1 : ∀ a c P, H a = some (CodeT c P) → upd H p o a = some (CodeT c P) := fun a c P q => by rw [upd_ne (fun z => by rw [z, h] at q; exact ht.2 c P (Option.some.inj q))]; exact q
  have e2 : ∀ a ps, H a = some (.tbl ps) → upd H p o a = some (.tbl ps) := fun a ps q => by rw [upd_ne (fun z => by rw [z, h] at q; exact ht.1 ps (Option.some.inj q))]; exact q
  ⟨fun a u q n _ => by rw [upd_ne (fun z => n (by rw [z]; exact hp))]; exact q, e1,
   fun a ps q => ⟨#[], by rw [e2 a ps q]; simp⟩,
   fun P t => t.kept e2 e1⟩
theorem Evo.rd (e : Evo W H H1) {a : Addr} {u : HO} (h : Rd H a u) (n : a ∉ W) (ht : ∀ ps, u ≠ .tbl ps) : Rd H1 a u := by
  rcases h with h | ⟨o, h⟩
  · exact .inl (e.keep a u h n ht)
  · exact .inr ⟨o, e.keep a _ h n (fun _ z => by cases z)⟩
theorem rd_ne {a : Addr} {u : HO} (h : Rd H a u) : H a ≠ none := by
  rcases h with h | ⟨o, h⟩ <;> rw [h] <;> simp
theorem TupAt.evo {a : Addr} {xs : List V} (h : TupAt K av H a xs) (e : Evo W H H1) (hw : ∀ x ∈ W, x ∈ av) : TupAt K av H1 a xs := by
  rcases h with ⟨h, n⟩ | h
  · exact .inl ⟨e.rd h (fun z => n (hw a z)) (fun _ z => by cases z), n⟩
  · exact .inr h
theorem ScrAt.evo {a : Addr} {xs : List V} (h : ScrAt K av H a xs) (e : Evo W H H1) (hw : ∀ x ∈ W, x ∈ av) : ScrAt K av H1 a xs := by
  rcases h with ⟨h, n⟩ | h
  · exact .inl ⟨e.rd h (fun z => n (hw a z)) (fun _ z => by cases z), n⟩
  · exact .inr h
theorem ScrAt.avoid {av' : List Addr} (hw : ∀ x ∈ av', x ∈ av ∨ H x = none) {a : Addr} {xs : List V} (l : ScrAt K av H a xs) : ScrAt K av' H a xs := by
  rcases l with l | l
  · exact .inl ⟨l.1, fun z => (hw a z).elim l.2 (rd_ne l.1)⟩
  · exact .inr l
theorem sql_evo0 {a : Addr} {xs : List V} (h : SqL K H a xs) (e : Evo [] H H1) : SqL K H1 a xs := by
  rcases h with h | h
  · exact .inl (e.rd h (by simp) (fun _ z => by cases z))
  · exact .inr h
theorem LstAt.evo {a : Addr} {xs : List V} (h : LstAt K av H a xs) (e : Evo W H H1) (hw : ∀ x ∈ W, x ∈ av) : LstAt K av H1 a xs :=
  ⟨e.keep a _ h.1 (fun z => h.2 (hw a z)) (fun _ z => by cases z), h.2⟩

mutual
theorem Rep.evo (e : Evo W H H1) (hw : ∀ x ∈ W, x ∈ av) : ∀ (d : PyData) (v : V), Rep K av H d v → Rep K av H1 d v
  | .none, _, h => h
  | .bool _, _, h => h
  | .int _, _, h => h
  | .str _, _, h => h
  | .list ds, v, h => by
    simp only [Rep] at h ⊢
    obtain ⟨a, vs, r, l, rs⟩ := h
    exact ⟨a, vs, r, l.evo e hw, RepA.evo e hw ds vs rs⟩
  | .tuple ds, v, h => by
    simp only [Rep] at h ⊢
    obtain ⟨a, vs, r, l, rs⟩ := h
    exact ⟨a, vs, r, l.evo e hw, RepA.evo e hw ds vs rs⟩
  | .dict _, _, h => h
theorem RepA.evo (e : Evo W H H1) (hw : ∀ x ∈ W, x ∈ av) : ∀ (ds : List PyData) (vs : List V), RepA K av H ds vs → RepA K av H1 ds vs
  | [], _, h => h
  | d :: ds, vs, h => by
    simp only [RepA] at h ⊢
    obtain ⟨v, r, z, h1, h2⟩ := h
    exact ⟨v, r, z, Rep.evo e hw d v h1, RepA.evo e hw ds r h2⟩
end
mutual
/-- other addresses to be avoided: fewer, or new ones -/
theorem Rep.avoid {av' : List Addr} (hw : ∀ x ∈ av', x ∈ av ∨ H x = none) : ∀ (d : PyData) (v : V), Rep K av H d v → Rep K av' H d v
  | .none, _, h => h
  | .bool _, _, h => h
  | .int _, _, h => h
  | .str _, _, h => h
  | .list ds, v, h => by
    simp only [Rep] at h ⊢
    obtain ⟨a, vs, r, l, rs⟩ := h
    exact ⟨a, vs, r, ⟨l.1, fun z => (hw a z).elim l.2 (rd_ne (.inl l.1))⟩, RepA.avoid hw ds vs rs⟩
  | .tuple ds, v, h => by
    simp only [Rep] at h ⊢
    obtain ⟨a, vs, r, l, rs⟩ := h
    refine ⟨a, vs, r, ?_, RepA.avoid hw ds vs rs⟩
    rcases l with l | l
    · exact .inl ⟨l.1, fun z => (hw a z).elim l.2 (rd_ne l.1)⟩
    · exact .inr l
  | .dict _, _, h => h
theorem RepA.avoid {av' : List Addr} (hw : ∀ x ∈ av', x ∈ av ∨ H x = none) : ∀ (ds : List PyData) (vs : List V), RepA K av H ds vs → RepA K av' H ds vs
  | [], _, h => h
  | d :: ds, vs, h => by
    simp only [RepA] at h ⊢
    obtain ⟨v, r, z, h1, h2⟩ := h
    exact ⟨v, r, z, Rep.avoid hw d v h1, RepA.avoid hw ds r h2⟩
end
theorem RepA.length : ∀ {ds : List PyData} {vs : List V}, RepA K av H ds vs → vs.length = ds.length
  | [], _, h => by simp only [RepA] at h; subst h; rfl
  | d :: ds, vs, h => by
    simp only [RepA] at h
    obtain ⟨v, r, z, _, h2⟩ := h
    subst z
    simp [RepA.length h2]
theorem RepA.get : ∀ {ds : List PyData} {vs : List V} {i : Nat} {d : PyData}, RepA K av H ds vs → ds[i]? = some d → ∃ v, vs[i]? = some v ∧ Rep K av H d v
  | [], _, _, _, _, e => by simp at e
  | d :: ds, vs, 0, x, h, e => by
    simp only [RepA] at h
    obtain ⟨v, r, z, h1, h2⟩ := h
    subst z
    simp only [List.getElem?_cons_zero, Option.some.injEq] at e
    subst e
    exact ⟨v, rfl, h1⟩
  | d :: ds, vs, i + 1, x, h, e => by
    simp only [RepA] at h
    obtain ⟨v, r, z, h1, h2⟩ := h
    subst z
    simpa using RepA.get (i := i) h2 (by simpa using e)
theorem RepA.nil : RepA K av H [] [] := by simp [RepA]
theorem RepA.cons {d : PyData} {ds : List PyData} {v : V} {vs : List V} (h : Rep K av H d v) (r : RepA K av H ds vs) : RepA K av H (d :: ds) (v :: vs) := by
  simp only [RepA]; exact ⟨v, vs, rfl, h, r⟩
theorem RepA.append : ∀ {ds es : List PyData} {vs ws : List V}, RepA K av H ds vs → RepA K av H es ws → RepA K av H (ds ++ es) (vs ++ ws)
  | [], _, _, _, h, r => by simp only [RepA] at h; subst h; exact r
  | d :: ds, es, vs, ws, h, r => by
    simp only [RepA] at h
    obtain ⟨v, q, z, h1, h2⟩ := h
    subst z
    exact .cons h1 (RepA.append h2 r)
theorem RepA.set : ∀ {ds : List PyData} {vs : List V} (i : Nat) {d : PyData} {v : V}, RepA K av H ds vs → Rep K av H d v → RepA K av H (ds.set i d) (vs.set i v)
  | [], _, _, _, _, h, _ => by simp only [RepA] at h; subst h; exact .nil
  | d :: ds, vs, 0, x, y, h, r => by
    simp only [RepA] at h
    obtain ⟨v, q, z, h1, h2⟩ := h
    subst z
    exact .cons r h2
  | d :: ds, vs, i + 1, x, y, h, r => by
    simp only [RepA] at h
    obtain ⟨v, q, z, h1, h2⟩ := h
    subst z
    exact .cons h1 (RepA.set i h2 r)
theorem RepA.take : ∀ {ds : List PyData} {vs : List V} (n : Nat), RepA K av H ds vs → RepA K av H (ds.take n) (vs.take n)
  | _, _, 0, _ => by simp [RepA]
  | [], _, _ + 1, h => by simp only [RepA] at h; subst h; exact .nil
  | d :: ds, vs, n + 1, h => by
    simp only [RepA] at h
    obtain ⟨v, q, z, h1, h2⟩ := h
    subst z
    exact .cons h1 (RepA.take n h2)
theorem RepA.drop : ∀ {ds : List PyData} {vs : List V} (n : Nat), RepA K av H ds vs → RepA K av H (ds.drop n) (vs.drop n)
  | _, _, 0, h => h
  | [], _, _ + 1, h => by simp only [RepA] at h; subst h; exact .nil
  | d :: ds, vs, n + 1, h => by
    simp only [RepA] at h
    obtain ⟨v, q, z, h1, h2⟩ := h
    subst z
    exact RepA.drop n h2
theorem RepA.reverse : ∀ {ds : List PyData} {vs : List V}, RepA K av H ds vs → RepA K av H ds.reverse vs.reverse
  | [], _, h => by simp only [RepA] at h; subst h; exact .nil
  | d :: ds, vs, h => by
    simp only [RepA] at h
    obtain ⟨v, q, z, h1, h2⟩ := h
    subst z
    rw [List.reverse_cons, List.reverse_cons]
    exact (RepA.reverse h2).append (.cons h1 .nil)
theorem RepA.dropLast {ds : List PyData} {vs : List V} (h : RepA K av H ds vs) : RepA K av H ds.dropLast vs.dropLast := by
  rw [List.dropLast_eq_take, List.dropLast_eq_take, h.length]; exact h.take _
theorem RepA.flat {ds : List PyData} {vs : List V} (h : RepA K av H ds vs) : ∀ k : Nat, RepA K av H (List.replicate k ds).flatten (List.replicate k vs).flatten
  | 0 => .nil
  | k + 1 => by
    rw [List.replicate_succ, List.replicate_succ, List.flatten_cons, List.flatten_cons]
    exact h.append (RepA.flat h k)
theorem RepA.split : ∀ {ds es : List PyData} {vs : List V}, RepA K av H (ds ++ es) vs → ∃ v1 v2, vs = v1 ++ v2 ∧ RepA K av H ds v1 ∧ RepA K av H es v2
  | [], _, vs, h => ⟨[], vs, rfl, .nil, h⟩
  | d :: ds, es, vs, h => by
    rw [List.cons_append] at h
    simp only [RepA] at h
    obtain ⟨v, r, z, h1, h2⟩ := h
    obtain ⟨v1, v2, e, q1, q2⟩ := RepA.split h2
    subst z e
    exact ⟨v :: v1, v2, rfl, .cons h1 q1, q2⟩

/-- data that may be an own list itself (its items are frozen) -/
def RepT (K : PySem.W.Frag) (av : List Addr) (H : Hp) (d : PyData) (v : V) : Prop :=
  Rep K av H d v ∨ ∃ a ds vs, d = .list ds ∧ v = .ref a ∧ SqL K H a vs ∧ RepA K av H ds vs
theorem Rep.t {d : PyData} {v : V} (h : Rep K av H d v) : RepT K av H d v := .inl h
def RepX (tr : Bool) (K : PySem.W.Frag) (av : List Addr) (H : Hp) (d : PyData) (v : V) : Prop := if tr = true then RepT K av H d v else Rep K av H d v
theorem RepX.t {tr : Bool} {d : PyData} {v : V} (h : RepX tr K av H d v) : RepT K av H d v := by
  cases tr with
  | true => exact h
  | false => exact Or.inl h
theorem RepT.evo0 {d : PyData} {v : V} (h : RepT K av H d v) (e : Evo [] H H1) : RepT K av H1 d v := by
  rcases h with h | ⟨a, ds, vs, z1, z2, q, r⟩
  · exact .inl (h.evo e (fun _ z => by cases z) d v)
  · exact .inr ⟨a, ds, vs, z1, z2, sql_evo0 q e, RepA.evo e (fun _ z => by cases z) ds vs r⟩
theorem RepX.evo {tr : Bool} {d : PyData} {v : V} (h : RepX tr K av H d v) (e : Evo W H H1) (hw : ∀ x ∈ W, x ∈ av) (ht : tr = true → W = []) : RepX tr K av H1 d v := by
  cases tr with
  | true => rw [ht rfl] at e; exact RepT.evo0 h e
  | false => exact Rep.evo e hw d v h
/-- a list, read -/
theorem RepT.list {ds : List PyData} {v : V} (h : RepT K av H (.list ds) v) : ∃ a vs, v = .ref a ∧ SqL K H a vs ∧ RepA K av H ds vs := by
  rcases h with h | ⟨a, ds', vs, z1, z2, q, r⟩
  · simp only [Rep] at h
    obtain ⟨a, vs, r, l, rs⟩ := h
    exact ⟨a, vs, r, l.sq, rs⟩
  · cases z1
    exact ⟨a, vs, z2, q, r⟩
theorem RepT.tuple {ds : List PyData} {v : V} (h : RepT K av H (.tuple ds) v) : ∃ a vs, v = .ref a ∧ TupAt K av H a vs ∧ RepA K av H ds vs := by
  rcases h with h | ⟨a, ds', vs, z1, _⟩
  · simpa only [Rep] using h
  · cases z1
theorem RepT.int {i : Int} {v : V} (h : RepT K av H (.int i) v) : v = .int i := by
  rcases h with h | ⟨a, ds', vs, z1, _⟩
  · simpa only [Rep] using h
  · cases z1
theorem RepT.bool {i : Bool} {v : V} (h : RepT K av H (.bool i) v) : v = .bl i := by
  rcases h with h | ⟨a, ds', vs, z1, _⟩
  · simpa only [Rep] using h
  · cases z1
theorem RepT.str {i : Str} {v : V} (h : RepT K av H (.str i) v) : v = .str i := by
  rcases h with h | ⟨a, ds', vs, z1, _⟩
  · simpa only [Rep] using h
  · cases z1
theorem RepT.none {v : V} (h : RepT K av H .none v) : v = .non := by
  rcases h with h | ⟨a, ds', vs, z1, _⟩
  · simpa only [Rep] using h
  · cases z1
theorem Rep.newTup {ds : List PyData} {vs : List V} {p : Addr} (h : RepA K av H ds vs) (hp : H p = Option.none) (hn : p ∉ av) : Rep K av (upd H p (.tup vs)) (.tuple ds) (.ref p) := by
  simp only [Rep]
  exact ⟨p, vs, rfl, .inl ⟨.inl upd_same, hn⟩, RepA.evo (W := []) (Evo.new hp) (fun _ z => by cases z) ds vs h⟩
theorem Rep.newLst {ds : List PyData} {vs : List V} {p : Addr} (h : RepA K av H ds vs) (hp : H p = Option.none) (hn : p ∉ av) : Rep K av (upd H p (.lst vs)) (.list ds) (.ref p) := by
  simp only [Rep]
  exact ⟨p, vs, rfl, ⟨upd_same, hn⟩, RepA.evo (W := []) (Evo.new hp) (fun _ z => by cases z) ds vs h⟩
end

/-! ### states -/
/-- facts of the text: the tables of the defs that have generator expressions, the classes of errors -/
structure Cfg where
  TT : List Addr
  CC : List (Addr × Addr)
  cls : Str → Value
  /-- what keys hash to -/
  hs : PyData → Int
def RepS (K : PySem.W.Frag) (av as : List Addr) (H : Hp) : SV → V → Prop
  | .pure d, v => Rep K av H d v
  | .scr ds, v => ∃ a vs, v = .ref a ∧ ScrAt K av H a vs ∧ RepA K av H ds vs
  | .obj i, v => ∃ a, as[i]? = some a ∧ v = .ref a
def KRep (K : PySem.W.Frag) (av : List Addr) (H : Hp) : List (Key × PyData) → List (Key × V) → Prop := Paired fun p q => p.1 = q.1 ∧ Rep K av H p.2 q.2
/-- a dict's object, by its entries -/
def DictAt (hs : PyData → Int) (a : Addr) (xs : List (PyData × Addr × V)) : Heap → Prop := fun h => (a == sysModules) = false ∧ (xs.map (·.1)).Nodup ∧
  ∃ ys : List (PyData × Addr × Value), Paired (fun (p : PyData × Addr × V) (q : PyData × Addr × Value) => p.1 = q.1 ∧ p.2.1 = q.2.1 ∧ RelV p.2.2 q.2.2) xs ys ∧
    ∃ o es ep, h.get? a = some o ∧ o.ExactDict ∧ o.data = .dict es ep ∧ es.toList = ys.map (fun x => (⟨hs x.1, .ref x.2.1, x.2.2⟩ : DictEntry))
def DictT (hs : PyData → Int) (a : Addr) (xs : List (PyData × Addr × V)) : HO := .ext (DictAt hs a xs)
def MRep (K : PySem.W.Frag) (av : List Addr) (H : Hp) : List (PyData × PyData) → List (PyData × Addr × V) → Prop := Paired fun p q => DK.norm p.1 = q.1 ∧ DK.kOk p.1 = true ∧ p.1.depth ≤ 7 ∧ Rep K av H p.1 (.ref q.2.1) ∧ Rep K av H p.2 q.2.2
def ORep (K : PySem.W.Frag) (hs : PyData → Int) (av : List Addr) (H : Hp) (a : Addr) : O → Prop
  | .lst ds => ∃ vs, H a = some (.lst vs) ∧ RepA K av H ds vs
  | .dK kvs => ∃ kvv, H a = some (.dK kvv) ∧ KRep K av H kvs kvv
  | .dM kvs => ∃ xs, H a = some (DictT hs a xs) ∧ Mut (DictT hs a xs) ∧ kvs.length ≤ sizeLine ∧ MRep K av H kvs xs
  | .dead => ∃ o, H a = some o ∧ Mut o
/-- the tables of the defs; the code objects that are known -/
structure TabsOk (c : Cfg) (H : Hp) : Prop where
  tab : ∀ P ∈ c.TT, TabT H P
  code : ∀ p ∈ c.CC, H p.1 = some (CodeT p.1 p.2) ∧ TabT H p.2
theorem TabsOk.evo {c : Cfg} {W : List Addr} {H H' : Hp} (t : TabsOk c H) (e : Evo W H H') : TabsOk c H' :=
  ⟨fun P h => e.tab P (t.tab P h), fun p h => ⟨e.ext _ _ _ (t.code p h).1, e.tab _ (t.code p h).2⟩⟩
/-- the state s is held: B: what lives outside, as: where the own objects stand -/
structure SR (K : PySem.W.Frag) (c : Cfg) (B as : List Addr) (H : Hp) (σ : L2.St) (s : S) : Prop where
  len : σ.length = s.env.length
  slot : ∀ (i : Nat) (sv : SV), s.env[i]? = some (some sv) → ∃ v, σ[i]? = some (some v) ∧ RepS K (B ++ as) as H sv v
  nd : as.Nodup
  aslen : as.length = s.st.length
  objs : ∀ (i : Nat) (o : O) (a : Addr), s.st[i]? = some o → as[i]? = some a → ORep K c.hs (B ++ as) H a o
  out : ∀ a ∈ B, H a ≠ none
  tabs : TabsOk c H
section
variable {K : PySem.W.Frag} {c : Cfg} {B as W : List Addr} {H H1 : Hp} {σ : L2.St} {s : S}
theorem KRep.evo {av : List Addr} (e : Evo W H H1) (hw : ∀ x ∈ W, x ∈ av) {kvs : List (Key × PyData)} {kvv : List (Key × V)} (h : KRep K av H kvs kvv) : KRep K av H1 kvs kvv :=
  Paired.mapP h fun _ _ r => ⟨r.1, r.2.evo e hw⟩
theorem ORep.there {hs : PyData → Int} {av : List Addr} {a : Addr} {o : O} (h : ORep K hs av H a o) : ∃ u, H a = some u ∧ Mut u := by
  cases o with
  | lst ds => obtain ⟨vs, q, _⟩ := h; exact ⟨_, q, ⟨(fun _ z => by cases z), (fun _ _ z => by cases z)⟩⟩
  | dK ds => obtain ⟨vs, q, _⟩ := h; exact ⟨_, q, ⟨(fun _ z => by cases z), (fun _ _ z => by cases z)⟩⟩
  | dM ds => obtain ⟨xs, q, m, _⟩ := h; exact ⟨_, q, m⟩
  | dead => exact h
theorem MRep.evo {av : List Addr} (e : Evo W H H1) (hw : ∀ x ∈ W, x ∈ av) {kvs : List (PyData × PyData)} {xs : List (PyData × Addr × V)} (h : MRep K av H kvs xs) : MRep K av H1 kvs xs :=
  Paired.mapP h fun _ _ r => ⟨r.1, r.2.1, r.2.2.1, r.2.2.2.1.evo e hw, r.2.2.2.2.evo e hw⟩
theorem ORep.evo0 {hs : PyData → Int} {av : List Addr} {a : Addr} {o : O} (h : ORep K hs av H a o) (e : Evo W H H1) (hw : ∀ x ∈ W, x ∈ av) (hn : a ∉ W) : ORep K hs av H1 a o := by
  cases o with
  | lst ds => obtain ⟨vs, q, r⟩ := h; exact ⟨vs, e.keep a _ q hn (fun _ z => by cases z), RepA.evo e hw ds vs r⟩
  | dK ds => obtain ⟨vs, q, r⟩ := h; exact ⟨vs, e.keep a _ q hn (fun _ z => by cases z), r.evo e hw⟩
  | dM ds => obtain ⟨vs, q, m, l, r⟩ := h; exact ⟨vs, e.keep a _ q hn m.1, m, l, r.evo e hw⟩
  | dead => obtain ⟨u, q, t⟩ := h; exact ⟨u, e.keep a _ q hn t.1, t⟩
theorem SR.there (r : SR K c B as H σ s) {a : Addr} (h : a ∈ as) : ∃ u, H a = some u ∧ Mut u := by
  obtain ⟨i, hi, e⟩ := List.getElem_of_mem h
  have h1 : i < s.st.length := by rw [← r.aslen]; exact hi
  exact (r.objs i s.st[i] a (List.getElem?_eq_getElem h1) (by rw [List.getElem?_eq_getElem hi, e])).there
theorem SR.notnew (r : SR K c B as H σ s) {p : Addr} (h : H p = none) : p ∉ B ++ as := fun z => by
  rcases List.mem_append.mp z with z | z
  · exact r.out p z h
  · obtain ⟨u, q, _⟩ := r.there z
    rw [h] at q; cases q
/-- nothing of ours changes -/
theorem SR.evo (r : SR K c B as H σ s) (e : Evo [] H H1) : SR K c B as H1 σ s where
  len := r.len
  slot := fun i sv q => by
    obtain ⟨v, q1, q2⟩ := r.slot i sv q
    refine ⟨v, q1, ?_⟩
    cases sv with
    | pure d => exact Rep.evo e (fun _ z => by cases z) d v q2
    | scr ds =>
      obtain ⟨a, vs, z1, z2, z3⟩ := q2
      exact ⟨a, vs, z1, z2.evo e (fun _ z => by cases z), RepA.evo e (fun _ z => by cases z) ds vs z3⟩
    | obj j => exact q2
  nd := r.nd
  aslen := r.aslen
  objs := fun i o a q1 q2 => (r.objs i o a q1 q2).evo0 e (fun _ z => by cases z) (by simp)
  out := fun a h z => by
    cases q : H a with
    | none => exact r.out a h q
    | some o => obtain ⟨o', q'⟩ := e.there q (by simp); rw [z] at q'; cases q'
  tabs := r.tabs.evo e
end
end DL
end
section
set_option Elab.async false
set_option linter.all false
set_option maxRecDepth 100000
/-! The data layer, part b: judgements of expressions; operators, comparisons. -/
namespace DL
open PySem PySem.Spec PyProof.Rows L2

/-- what an evaluation without effect on own objects leaves alone -/
def wq (q : Bool) (as : List Addr) : List Addr := if q = true then [] else as
theorem wq_sub {q : Bool} {as : List Addr} {B : List Addr} : ∀ x ∈ wq q as, x ∈ B ++ as := fun x h => by
  unfold wq at h
  split at h
  · cases h
  · exact List.mem_append_right _ h
theorem wq_as {q : Bool} {as : List Addr} : ∀ x ∈ wq q as, x ∈ as := fun x h => by
  unfold wq at h
  split at h
  · cases h
  · exact h
theorem wq_and1 {q r : Bool} {as : List Addr} : ∀ x ∈ wq q as, x ∈ wq (q && r) as := fun x h => by
  cases q with
  | true => cases h
  | false => exact h
theorem wq_and2 {q r : Bool} {as : List Addr} : ∀ x ∈ wq r as, x ∈ wq (q && r) as := fun x h => by
  cases r with
  | true => cases h
  | false => rw [Bool.and_false]; exact h

abbrev RE := Res (PyData × Sto)
abbrev EvD := S → RE
abbrev RT := Res (Bool × Sto)
abbrev EvT := S → RT
abbrev RA := Res (List SV × Sto)
abbrev EvA := S → RA
/-- what the end of an evaluation hands on; R: how the result is held -/
def WantsG {α β : Type} (X : Cx) (c : Cfg) (W : WX) (R : List Addr → List Addr → Hp → α → β → Prop) (B as : List Addr) (σ : L2.St) (H : Hp) (env : List (Option SV)) (q : Bool) (Q : β → Hp → Prop) : Res (α × Sto) → Prop
  | .ok p => ∀ v H', Evo (wq q as) H H' → SR X.K c B as H' σ ⟨env, p.2⟩ → R B as H' p.1 v → Q v H'
  | .exc cl s' => ∀ H', Evo as H H' → SR X.K c B as H' σ ⟨env, s'.st⟩ → W (c.cls cl) none σ H'
  | .stuck => False
abbrev RepE (K : PySem.W.Frag) (tr : Bool) : List Addr → List Addr → Hp → PyData → V → Prop := fun B as H d v => RepX tr K (B ++ as) H d v
abbrev RepB : List Addr → List Addr → Hp → Bool → Bool → Prop := fun _ _ _ a b => b = a
def RepSA (K : PySem.W.Frag) (av as : List Addr) (H : Hp) : List SV → List V → Prop
  | [], vs => vs = []
  | d :: ds, vs => ∃ v r, vs = v :: r ∧ RepS K av as H d v ∧ RepSA K av as H ds r
abbrev RepAE (K : PySem.W.Frag) : List Addr → List Addr → Hp → List SV → List V → Prop := fun B as H ds vs => RepSA K (B ++ as) as H ds vs
/-- the expression e evaluates as f says -/
def DE (X : Cx) (c : Cfg) (W : WX) (e : Expr) (tr q : Bool) (f : EvD) : Prop :=
  ∃ t, PE X e t ∧ ∀ (B as : List Addr) (σ : L2.St) (H : Hp) (s : S) (Q : VK), SR X.K c B as H σ s → WantsG X c W (RepE X.K tr) B as σ H s.env q Q (f s) → t σ H Q
/-- tests -/
def DT (X : Cx) (c : Cfg) (W : WX) (e : Expr) (f : EvT) : Prop :=
  ∃ t, PT X e t ∧ ∀ (B as : List Addr) (σ : L2.St) (H : Hp) (s : S) (Q : Bool → Hp → Prop), SR X.K c B as H σ s → WantsG X c W RepB B as σ H s.env false Q (f s) → t σ H Q
def DW (X : Cx) (c : Cfg) (W : WX) (e : Expr) (f : EvT) : Prop :=
  ∃ t, PW X e t ∧ ∀ (B as : List Addr) (σ : L2.St) (H : Hp) (s : S) (Q : Bool → Hp → Prop), SR X.K c B as H σ s → WantsG X c W RepB B as σ H s.env false Q (f s) → t σ H Q
/-- arguments -/
def DA (X : Cx) (c : Cfg) (W : WX) (es : List Expr) (q : Bool) (f : EvA) : Prop :=
  ∃ t, PA X es t ∧ ∀ (B as : List Addr) (σ : L2.St) (H : Hp) (s : S) (Q : List V → Hp → Prop), SR X.K c B as H σ s → WantsG X c W (RepAE X.K) B as σ H s.env q Q (f s) → t σ H Q
section
variable {X : Cx} {c : Cfg} {W : WX} {B as : List Addr} {σ : L2.St} {H H1 : Hp} {env : List (Option SV)} {s : S}
section
variable {α β γ δ : Type} {R : List Addr → List Addr → Hp → α → β → Prop} {R2 : List Addr → List Addr → Hp → γ → δ → Prop}
theorem WantsG.step {qa qb : Bool} {Q : β → Hp → Prop} {r : Res (α × Sto)} (h : WantsG X c W R B as σ H env (qa && qb) Q r) (e : Evo (wq qa as) H H1) : WantsG X c W R B as σ H1 env qb Q r := by
  cases r with
  | ok p => exact fun v H' e' sr rp => h v H' ((e.mono wq_and1).trans' (e'.mono wq_and2)) sr rp
  | exc cl s' => exact fun H' e' sr => h H' ((e.mono wq_as).trans' e') sr
  | stuck => exact h
theorem WantsG.bind {f : S → Res (α × Sto)} {k : α × Sto → Res (γ × Sto)} {ta : L2.St → Hp → (β → Hp → Prop) → Prop} {qa qb : Bool} {Q : δ → Hp → Prop} {Q1 : β → Hp → Prop} (hw : WantsG X c W R2 B as σ H s.env (qa && qb) Q ((f s).bind k)) (sr : SR X.K c B as H σ s)
    (ra : ∀ (B as : List Addr) (σ : L2.St) (H : Hp) (s : S) (Q : β → Hp → Prop), SR X.K c B as H σ s → WantsG X c W R B as σ H s.env qa Q (f s) → ta σ H Q)
    (h : ∀ v H1 d st1, f s = .ok (d, st1) → Evo (wq qa as) H H1 → SR X.K c B as H1 σ ⟨s.env, st1⟩ → R B as H1 d v → WantsG X c W R2 B as σ H1 s.env qb Q (k (d, st1)) → Q1 v H1) : ta σ H Q1 := by
  refine ra B as σ H s Q1 sr ?_
  cases e : f s with
  | stuck => rw [e] at hw; exact hw
  | exc cl s' => rw [e] at hw; exact hw
  | ok p =>
    obtain ⟨d, st1⟩ := p
    rw [e] at hw
    exact fun v H1 ev sr1 rp => h v H1 d st1 e ev sr1 rp (hw.step ev)
/-- the end of an evaluation that only makes new things -/
theorem WantsG.fin {q : Bool} {Q : β → Hp → Prop} {d : α} {st : Sto} (hw : WantsG X c W R B as σ H env q Q (.ok (d, st))) (sr : SR X.K c B as H σ ⟨env, st⟩) {v : β} {H' : Hp} (e : Evo [] H H') (r : R B as H' d v) : Q v H' :=
  hw v H' e.wide (sr.evo e) r
/-- effects may be forgotten -/
theorem WantsG.loud {q : Bool} {Q : β → Hp → Prop} {r : Res (α × Sto)} (hw : WantsG X c W R B as σ H env false Q r) : WantsG X c W R B as σ H env q Q r := by
  cases r with
  | ok p => exact fun v H' e sr rp => hw v H' (e.mono wq_as) sr rp
  | exc cl s' => exact hw
  | stuck => exact hw
def ofOpt {α : Type} (o : Option α) (st : Sto) : Res (α × Sto) := match o with
  | some d => .ok (d, st)
  | none => .stuck
@[simp] theorem ofOpt_some (d : α) (st : Sto) : ofOpt (some d) st = .ok (d, st) := rfl
theorem WantsG.opt {q : Bool} {Q : β → Hp → Prop} {o : Option α} {st : Sto} (hw : WantsG X c W R B as σ H env q Q (ofOpt o st)) : ∃ d, o = some d ∧ WantsG X c W R B as σ H env q Q (.ok (d, st)) := by
  cases o with
  | none => exact hw.elim
  | some d => exact ⟨d, rfl, hw⟩
end

/-! ### names, constants -/
def slotE (i : Nat) : EvD := fun s => match s.env[i]? with
  | some (some (.pure d)) => .ok (d, s.st)
  | _ => .stuck
theorem de_var {i : Nat} {x : Str} {pos : Pos} (hN : X.N[i]? = some x) (hv : Vis X.env.scope x) (hd : (x == ("__debug__" : Str)) = false) (hcd : (x == ("__classdict__" : Str)) = false) : DE X c W (.Name x pos) false true (slotE i) := by
  refine ⟨_, pe_var hN hv hd hcd, fun B as σ H s Q sr hw => ?_⟩
  unfold slotE at hw
  split at hw
  · rename_i d e
    obtain ⟨v, q1, q2⟩ := sr.slot i _ e
    exact ⟨v, q1, hw v H Evo.refl sr q2⟩
  · exact hw.elim
/-- an own list (or the script) read where it stands -/
def curE (i : Nat) : EvD := fun s => match s.env[i]? with
  | some (some (.obj j)) => (match s.st[j]? with
    | some (.lst ds) => .ok (.list ds, s.st)
    | _ => .stuck)
  | some (some (.scr ds)) => .ok (.list ds, s.st)
  | _ => .stuck
theorem de_cur {i : Nat} {x : Str} {pos : Pos} (hN : X.N[i]? = some x) (hv : Vis X.env.scope x) (hd : (x == ("__debug__" : Str)) = false) (hcd : (x == ("__classdict__" : Str)) = false) : DE X c W (.Name x pos) true true (curE i) := by
  refine ⟨_, pe_var hN hv hd hcd, fun B as σ H s Q sr hw => ?_⟩
  unfold curE at hw
  split at hw
  · rename_i j e
    split at hw
    · rename_i ds e2
      obtain ⟨v, q1, a, q2, rfl⟩ := sr.slot i _ e
      obtain ⟨vs, q3, q4⟩ := sr.objs j _ a e2 q2
      exact ⟨_, q1, hw _ H Evo.refl sr (.inr ⟨a, ds, vs, rfl, rfl, .of q3, q4⟩)⟩
    · exact hw.elim
  · rename_i ds e
    obtain ⟨v, q1, a, vs, rfl, q2, q3⟩ := sr.slot i _ e
    exact ⟨_, q1, hw _ H Evo.refl sr (.inr ⟨a, ds, vs, rfl, rfl, q2.sq, q3⟩)⟩
  · exact hw.elim
def constE (d : PyData) : EvD := fun s => .ok (d, s.st)
theorem de_int {i : Int} {j pos} : DE X c W (.Constant (.int i) j pos) false true (constE (.int i)) :=
  ⟨_, pe_int, fun B as σ H s Q sr hw => hw _ H Evo.refl sr (by simp [RepE, RepX, Rep])⟩
theorem de_bool {b : Bool} {j pos} : DE X c W (.Constant (.bool b) j pos) false true (constE (.bool b)) :=
  ⟨_, pe_bl, fun B as σ H s Q sr hw => hw _ H Evo.refl sr (by simp [RepE, RepX, Rep])⟩
theorem de_none {j pos} : DE X c W (.Constant .none j pos) false true (constE .none) :=
  ⟨_, pe_non, fun B as σ H s Q sr hw => hw _ H Evo.refl sr (by simp [RepE, RepX, Rep])⟩
theorem de_str {x : Str} {j pos} : DE X c W (.Constant (.str x) j pos) false true (constE (.str x)) :=
  ⟨_, pe_str, fun B as σ H s Q sr hw => hw _ H Evo.refl sr (by simp [RepE, RepX, Rep])⟩
/-- a module's constant -/
theorem de_glob {x : Str} {v : V} {u : Value} {d : PyData} {pos : Pos} (hg : Gl X x) (hm : X.mg x = some u) (r : RelV v u) (hr : ∀ av H, Rep X.K av H d v) (hd : (x == ("__debug__" : Str)) = false) : DE X c W (.Name x pos) false true (constE d) :=
  ⟨_, pe_glob hg hm r hd, fun B as σ H s Q sr hw => hw _ H Evo.refl sr (hr _ _)⟩

/-! ### operators -/
/-- by values: frozen operands -/
def OpD (X : Cx) (f : Value → Value → Sem Value) (g : PyData → PyData → Option PyData) : Prop :=
  ∃ r : R2, OpR X f r ∧ ∀ (H : Hp) (x y : V) (dx dy d : PyData) (av : List Addr) (Q : VK), (∀ p, H p = none → p ∉ av) → Rep X.K av H dx x → Rep X.K av H dy y → g dx dy = some d →
    (∀ z H', Evo [] H H' → Rep X.K av H' d z → Q z H') → r x y H Q
/-- operands that may be own lists -/
def OpDT (X : Cx) (f : Value → Value → Sem Value) (g : PyData → PyData → Option PyData) : Prop :=
  ∃ r : R2, OpR X f r ∧ ∀ (H : Hp) (x y : V) (dx dy d : PyData) (av : List Addr) (Q : VK), (∀ p, H p = none → p ∉ av) → RepT X.K av H dx x → RepT X.K av H dy y → g dx dy = some d →
    (∀ z H', Evo [] H H' → Rep X.K av H' d z → Q z H') → r x y H Q
def bin2 (g : PyData → PyData → Option PyData) (fa fb : EvD) : EvD := fun s => (fa s).bind fun p => (fb ⟨s.env, p.2⟩).bind fun q => ofOpt (g p.1 q.1) q.2
variable {a b : Expr} {pos : Pos} {fa fb : EvD} {g : PyData → PyData → Option PyData} {qa qb : Bool}
theorem de_bin {op : Operator} (h : OpD X (binaryOp op) g) (ha : DE X c W a false qa fa) (hb : DE X c W b false qb fb) : DE X c W (.BinOp a op b pos) false (qa && qb) (bin2 g fa fb) := by
  obtain ⟨r, hr, gr⟩ := h
  obtain ⟨ta, pa, ra⟩ := ha
  obtain ⟨tb, pb, rb⟩ := hb
  refine ⟨tOp r ta tb, pe_op hr pa pb, fun B as σ H s Q sr hw => ?_⟩
  show ta σ H _
  refine WantsG.bind (s := s) hw sr ra fun x H1 da st1 e1 ev1 sr1 r1 hw1 => ?_
  show tb σ H1 _
  rw [← Bool.and_true qb] at hw1
  refine WantsG.bind (s := ⟨s.env, st1⟩) hw1 sr1 rb fun y H2 db st2 e2 ev2 sr2 r2 hw2 => ?_
  obtain ⟨d, ed, hw3⟩ := hw2.opt
  exact gr H2 x y da db d _ Q (fun p hp => sr2.notnew hp) (Rep.evo ev2 wq_sub _ _ r1) r2 ed fun z H3 ev3 rz => hw3.fin sr2 ev3 rz
theorem de_cmp {op : CmpOp} {tra trb : Bool} (h : OpDT X (compareOp op) g) (hm : behindInMarks op b = false) (ha : DE X c W a tra qa fa) (hb : DE X c W b trb qb fb) (hq : tra = true → qb = true) : DE X c W (.Compare a [op] [b] pos) false (qa && qb) (bin2 g fa fb) := by
  obtain ⟨r, hr, gr⟩ := h
  obtain ⟨ta, pa, ra⟩ := ha
  obtain ⟨tb, pb, rb⟩ := hb
  refine ⟨tOp r ta tb, pe_cmpR hr pa pb hm, fun B as σ H s Q sr hw => ?_⟩
  show ta σ H _
  refine WantsG.bind (s := s) hw sr ra fun x H1 da st1 e1 ev1 sr1 r1 hw1 => ?_
  show tb σ H1 _
  rw [← Bool.and_true qb] at hw1
  refine WantsG.bind (s := ⟨s.env, st1⟩) hw1 sr1 rb fun y H2 db st2 e2 ev2 sr2 r2 hw2 => ?_
  obtain ⟨d, ed, hw3⟩ := hw2.opt
  exact gr H2 x y da db d _ Q (fun p hp => sr2.notnew hp) (RepX.t (r1.evo ev2 wq_sub fun z => by rw [hq z]; rfl)) r2.t ed fun z H3 ev3 rz => hw3.fin sr2 ev3 rz
/-- x op y op' z -/
def chain2 (g g' : PyData → PyData → Option PyData) (fa fb fc : EvD) : EvD := fun s => (fa s).bind fun p => (fb ⟨s.env, p.2⟩).bind fun q => match g p.1 q.1 with
  | some (.bool true) => (fc ⟨s.env, q.2⟩).bind fun r => ofOpt (g' q.1 r.1) r.2
  | some (.bool false) => .ok (.bool false, q.2)
  | _ => .stuck
theorem de_chain {op op' : CmpOp} {e : Expr} {fc : EvD} {g' : PyData → PyData → Option PyData} (h : OpDT X (compareOp op) g) (h' : OpDT X (compareOp op') g') (hm : lastMarks [op, op'] [b, e] = false)
    (ha : DE X c W a false qa fa) (hb : DE X c W b false qb fb) (hc : DE X c W e false true fc) : DE X c W (.Compare a [op, op'] [b, e] pos) false (qa && qb) (chain2 g g' fa fb fc) := by
  obtain ⟨r, hr, gr⟩ := h
  obtain ⟨r', hr', gr'⟩ := h'
  obtain ⟨ta, pa, ra⟩ := ha
  obtain ⟨tb, pb, rb⟩ := hb
  obtain ⟨tc, pc, rc⟩ := hc
  refine ⟨tChain r r' ta tb tc, pe_chain hr hr' pa pb pc hm, fun B as σ H s Q sr hw => ?_⟩
  show ta σ H _
  refine WantsG.bind (s := s) hw sr ra fun x H1 da st1 e1 ev1 sr1 r1 hw1 => ?_
  show tb σ H1 _
  rw [← Bool.and_true qb] at hw1
  refine WantsG.bind (s := ⟨s.env, st1⟩) hw1 sr1 rb fun y H2 db st2 e2 ev2 sr2 r2 hw2 => ?_
  simp only at hw2
  split at hw2
  · rename_i ed
    refine gr H2 x y da db _ _ _ (fun p hp => sr2.notnew hp) (RepX.t (r1.evo ev2 wq_sub fun z => by cases z)) r2.t ed fun z H3 ev3 rz => ?_
    simp only [Rep] at rz
    refine ⟨true, rz, ?_⟩
    rw [if_pos rfl]
    have hw3 := WantsG.step (qa := true) (qb := true) hw2 ev3
    rw [← Bool.and_true true] at hw3
    show tc σ H3 _
    refine WantsG.bind (s := ⟨s.env, st2⟩) hw3 (sr2.evo ev3) rc fun u H4 du st4 e4 ev4 sr4 r4 hw4 => ?_
    obtain ⟨d, ed', hw5⟩ := hw4.opt
    exact gr' H4 y u db du d _ Q (fun p hp => sr4.notnew hp) (Rep.t (Rep.evo ev4 wq_sub _ _ (Rep.evo ev3 (fun _ z => by cases z) _ _ r2))) r4.t ed' fun z' H5 ev5 rz' => hw5.fin sr4 ev5 rz'
  · rename_i ed
    refine gr H2 x y da db _ _ _ (fun p hp => sr2.notnew hp) (RepX.t (r1.evo ev2 wq_sub fun z => by cases z)) r2.t ed fun z H3 ev3 rz => ?_
    simp only [Rep] at rz
    refine ⟨false, rz, ?_⟩
    rw [if_neg Bool.false_ne_true]
    exact hw2.fin sr2 ev3 (by simp [RepE, RepX, Rep])
  · exact hw2.elim
end
end DL
end
section
set_option Elab.async false
set_option linter.all false
set_option maxRecDepth 100000
/-! The data layer, part c: operators and comparisons by values. -/
namespace DL
open PySem PySem.Spec PyProof.Rows L2 PySem.SeqAt PySem.W
section
variable {K : PySem.W.Frag} {av : List Addr} {H : Hp}
mutual
theorem Rep.plain : ∀ (d : PyData) (v : V), Rep K av H d v → d.plain = true
  | .none, _, _ => rfl
  | .bool _, _, _ => rfl
  | .int _, _, _ => rfl
  | .str _, _, _ => rfl
  | .list ds, v, h => by
    simp only [Rep] at h
    obtain ⟨a, vs, r, l, rs⟩ := h
    simpa [PyData.plain] using RepA.plain ds vs rs
  | .tuple ds, v, h => by
    simp only [Rep] at h
    obtain ⟨a, vs, r, l, rs⟩ := h
    simpa [PyData.plain] using RepA.plain ds vs rs
  | .dict _, _, h => by simp [Rep] at h
theorem RepA.plain : ∀ (ds : List PyData) (vs : List V), RepA K av H ds vs → PyData.plainAll ds = true
  | [], _, _ => rfl
  | d :: ds, vs, h => by
    simp only [RepA] at h
    obtain ⟨v, r, z, h1, h2⟩ := h
    simp [PyData.plainAll, Rep.plain d v h1, RepA.plain ds r h2]
end
theorem RepT.plain {d : PyData} {v : V} (h : RepT K av H d v) : d.plain = true := by
  rcases h with h | ⟨a, ds, vs, rfl, _, _, r⟩
  · exact Rep.plain d v h
  · simpa [PyData.plain] using RepA.plain ds vs r
end
section
variable {X : Cx} {pins : List (Addr × Obj)} {σ : L2.St} {H : Hp} {s : Shared} {av : List Addr}
mutual
theorem Rep.reads (I : Inv X pins σ H s) : ∀ (d : PyData) (v : V) (u : Value), Rep X.K av H d v → RelV v u → ∃ as, Reads s.heap u d as
  | .none, _, _, h, r => by
    simp only [Rep] at h; subst h; cases r; exact ⟨_, Reads.none⟩
  | .bool b, _, _, h, r => by
    simp only [Rep] at h; subst h; cases r; exact ⟨_, Reads.bool b⟩
  | .int i, _, _, h, r => by
    simp only [Rep] at h; subst h; obtain ⟨t, rfl⟩ := r; exact ⟨_, Reads.int i t⟩
  | .str x, _, _, h, r => by
    simp only [Rep] at h; subst h; obtain ⟨t, rfl⟩ := r; exact ⟨_, Reads.str x t⟩
  | .list ds, v, u, h, r => by
    simp only [Rep] at h
    obtain ⟨a, vs, rfl, l, rs⟩ := h
    cases r
    obtain ⟨its, rv, ⟨o, n, ho, hc, _, hd⟩, _⟩ := I.list l.sq
    obtain ⟨as, hr⟩ := RepA.reads I ds vs its rs rv
    exact ⟨_, Reads.list ho hc hd hr⟩
  | .tuple ds, v, u, h, r => by
    simp only [Rep] at h
    obtain ⟨a, vs, rfl, l, rs⟩ := h
    cases r
    obtain ⟨its, rv, ⟨o, ho, hc, n, hd⟩, _⟩ := I.tuple l.sq
    obtain ⟨as, hr⟩ := RepA.reads I ds vs its rs rv
    exact ⟨_, Reads.tuple ho hc hd hr⟩
  | .dict _, _, _, h, _ => by simp [Rep] at h
theorem RepA.reads (I : Inv X pins σ H s) : ∀ (ds : List PyData) (vs : List V) (us : List Value), RepA X.K av H ds vs → Vals vs us → ∃ as, ReadsAll s.heap us ds as
  | [], _, _, h, r => by
    simp only [RepA] at h; subst h; cases r; exact ⟨_, ReadsAll.nil⟩
  | d :: ds, vs, us, h, r => by
    simp only [RepA] at h
    obtain ⟨v, q, rfl, h1, h2⟩ := h
    cases r with
    | cons r1 r2 =>
      obtain ⟨as, q1⟩ := Rep.reads I d v _ h1 r1
      obtain ⟨bs, q2⟩ := RepA.reads I ds q _ h2 r2
      exact ⟨_, ReadsAll.cons q1 q2⟩
end
theorem RepT.reads (I : Inv X pins σ H s) {d : PyData} {v : V} {u : Value} (h : RepT X.K av H d v) (r : RelV v u) : ∃ as, Reads s.heap u d as := by
  rcases h with h | ⟨a, ds, vs, rfl, rfl, q, rs⟩
  · exact Rep.reads I d v u h r
  · cases r
    obtain ⟨its, rv, ⟨o, n, ho, hc, _, hd⟩, _⟩ := I.list q
    obtain ⟨as, hr⟩ := RepA.reads I ds vs its rs rv
    exact ⟨_, Reads.list ho hc hd hr⟩
end

/-! ### arithmetic -/
def addD : PyData → PyData → Option PyData
  | .int a, .int b => some (.int (a + b))
  | .str a, .str b => if a.length + b.length ≤ 16777216 then some (.str (a ++ b)) else none
  | .list a, .list b => if a.length + b.length ≤ 16777216 then some (.list (a ++ b)) else none
  | .tuple a, .tuple b => if a.length + b.length ≤ 16777216 then some (.tuple (a ++ b)) else none
  | _, _ => none
def subD : PyData → PyData → Option PyData
  | .int a, .int b => some (.int (a - b))
  | _, _ => none
noncomputable def mulD : PyData → PyData → Option PyData
  | .int a, .int b => haveI := Classical.propDecidable ((-(2 ^ 64) < a ∧ a < 2 ^ 64) ∨ (-(2 ^ 64) < b ∧ b < 2 ^ 64)); if (-(2 ^ 64) < a ∧ a < 2 ^ 64) ∨ (-(2 ^ 64) < b ∧ b < 2 ^ 64) then some (.int (a * b)) else none
  | .list a, .int k => haveI := Classical.propDecidable (-(2 ^ 63) ≤ k ∧ k < 2 ^ 63 ∧ a.length * k.toNat ≤ 16777216); if -(2 ^ 63) ≤ k ∧ k < 2 ^ 63 ∧ a.length * k.toNat ≤ 16777216 then some (.list (List.replicate k.toNat a).flatten) else none
  | .tuple a, .int k => haveI := Classical.propDecidable (a ≠ [] ∧ 2 ≤ k ∧ k ≤ 1000 ∧ a.length ≤ 1000); if a ≠ [] ∧ 2 ≤ k ∧ k ≤ 1000 ∧ a.length ≤ 1000 then some (.tuple (List.replicate k.toNat a).flatten) else none
  | _, _ => none
def modD : PyData → PyData → Option PyData
  | .int a, .int b => if 0 < b then some (.int (a % b)) else none
  | _, _ => none
noncomputable def fdivD : PyData → PyData → Option PyData
  | .int a, .int b => haveI := Classical.propDecidable (0 < b ∧ b < 1073741824); if 0 < b ∧ b < 1073741824 then some (.int (a / b)) else none
  | _, _ => none
noncomputable def powD : PyData → PyData → Option PyData
  | .int a, .int b => haveI := Classical.propDecidable (0 ≤ b ∧ b ≤ 1000000 ∧ a.natAbs < 2 ^ 64); if 0 ≤ b ∧ b ≤ 1000000 ∧ a.natAbs < 2 ^ 64 then some (.int (a ^ b.toNat)) else none
  | _, _ => none
def xorD : PyData → PyData → Option PyData
  | .int a, .int b => some (.int (Builtin.bitXor a b))
  | _, _ => none
def shrD : PyData → PyData → Option PyData
  | .int a, .int b => if 0 ≤ b then some (.int (a / 2 ^ b.toNat)) else none
  | _, _ => none
section
variable {X : Cx}
theorem opd_int {f : Value → Value → Sem Value} {C : Int → Int → Prop} {k : Int → Int → V} {g : PyData → PyData → Option PyData} (h : OpR X f (rI C k))
    (hg : ∀ dx dy d, g dx dy = some d → ∃ i j, dx = .int i ∧ dy = .int j ∧ C i j ∧ ∃ z, d = .int z ∧ k i j = .int z) : OpD X f g := by
  refine ⟨_, h, fun H x y dx dy d av Q hav r1 r2 e hQ => ?_⟩
  obtain ⟨i, j, rfl, rfl, hc, z, rfl, ek⟩ := hg dx dy d e
  simp only [Rep] at r1 r2
  refine ⟨i, j, r1, r2, hc, ?_⟩
  rw [ek]
  exact hQ _ H Evo.refl (by simp [Rep])
theorem opd_int0 {f : Value → Value → Sem Value} {k : Int → Int → V} {g : PyData → PyData → Option PyData} (h : OpR X f (rI0 k))
    (hg : ∀ dx dy d, g dx dy = some d → ∃ i j, dx = .int i ∧ dy = .int j ∧ ∃ z, d = .int z ∧ k i j = .int z) : OpD X f g := by
  refine ⟨_, h, fun H x y dx dy d av Q hav r1 r2 e hQ => ?_⟩
  obtain ⟨i, j, rfl, rfl, z, rfl, ek⟩ := hg dx dy d e
  simp only [Rep] at r1 r2
  refine ⟨i, j, r1, r2, ?_⟩
  rw [ek]
  exact hQ _ H Evo.refl (by simp [Rep])
theorem od_sub : OpD X (binaryOp .Sub) subD := opd_int0 op_sub fun dx dy d e => by
  unfold subD at e
  split at e <;> first | (cases e; exact ⟨_, _, rfl, rfl, _, rfl, rfl⟩) | cases e
theorem od_xor : OpD X (binaryOp .BitXor) xorD := opd_int0 op_xor fun dx dy d e => by
  unfold xorD at e
  split at e <;> first | (cases e; exact ⟨_, _, rfl, rfl, _, rfl, rfl⟩) | cases e
theorem od_mod : OpD X (binaryOp .Mod) modD := opd_int op_mod fun dx dy d e => by
  unfold modD at e
  split at e
  · split at e
    · cases e; exact ⟨_, _, rfl, rfl, by assumption, _, rfl, rfl⟩
    · cases e
  · cases e
theorem od_fdiv : OpD X (binaryOp .FloorDiv) fdivD := opd_int op_fdiv fun dx dy d e => by
  unfold fdivD at e
  split at e
  · split at e
    · cases e; exact ⟨_, _, rfl, rfl, by assumption, _, rfl, rfl⟩
    · cases e
  · cases e
theorem od_pow : OpD X (binaryOp .Pow) powD := opd_int op_pow fun dx dy d e => by
  unfold powD at e
  split at e
  · split at e
    · cases e; exact ⟨_, _, rfl, rfl, by assumption, _, rfl, rfl⟩
    · cases e
  · cases e
theorem od_shr : OpD X (binaryOp .RShift) shrD := opd_int op_shr fun dx dy d e => by
  unfold shrD at e
  split at e
  · split at e
    · cases e; exact ⟨_, _, rfl, rfl, by assumption, _, rfl, rfl⟩
    · cases e
  · cases e
theorem od_add : OpD X (binaryOp .Add) addD := by
  refine ⟨_, op_add.or (op_add_str.or (op_cat.or op_catA)), fun H x y dx dy d av Q hav r1 r2 e hQ => ?_⟩
  unfold addD at e
  split at e
  · cases e
    simp only [Rep] at r1 r2
    exact .inl ⟨_, _, r1, r2, hQ _ H Evo.refl (by simp [Rep])⟩
  · split at e
    · cases e
      simp only [Rep] at r1 r2
      exact .inr (.inl ⟨_, _, r1, r2, by rw [sizeLine_eq]; assumption, hQ _ H Evo.refl (by simp [Rep])⟩)
    · cases e
  · split at e
    · cases e
      simp only [Rep] at r1 r2
      obtain ⟨a, vs, rfl, l1, s1⟩ := r1
      obtain ⟨b, ws, rfl, l2, s2⟩ := r2
      refine .inr (.inr (.inl ⟨a, b, vs, ws, rfl, rfl, l1.1, l2.1, by rw [sizeLine_eq, s1.length, s2.length]; assumption, fun p hp => ?_⟩))
      exact hQ _ _ (Evo.new hp) (Rep.newLst (s1.append s2) hp (hav p hp))
    · cases e
  · split at e
    · cases e
      simp only [Rep] at r1 r2
      obtain ⟨a, vs, rfl, l1, s1⟩ := r1
      obtain ⟨b, ws, rfl, l2, s2⟩ := r2
      refine .inr (.inr (.inr ⟨a, b, vs, ws, rfl, rfl, l1.sq, l2.sq, by rw [sizeLine_eq, s1.length, s2.length]; assumption, fun z => ?_, fun _ z => ?_, fun _ _ p hp => ?_⟩))
      · subst z
        have z := s1.length
        rename_i as bs _
        cases as with
        | cons _ _ => simp at z
        | nil => exact hQ _ H Evo.refl (by simp only [Rep, List.nil_append]; exact ⟨b, ws, rfl, l2, s2⟩)
      · subst z
        have z := s2.length
        rename_i as bs _ _
        cases bs with
        | cons _ _ => simp at z
        | nil => exact hQ _ H Evo.refl (by simp only [Rep, List.append_nil]; exact ⟨a, vs, rfl, l1, s1⟩)
      · exact hQ _ _ (Evo.new hp) (Rep.newTup (s1.append s2) hp (hav p hp))
    · cases e
  · cases e
theorem od_mul : OpD X (binaryOp .Mult) mulD := by
  refine ⟨_, op_mul.or (op_rep.or op_repT), fun H x y dx dy d av Q hav r1 r2 e hQ => ?_⟩
  unfold mulD at e
  split at e
  · split at e
    · cases e
      simp only [Rep] at r1 r2
      exact .inl ⟨_, _, r1, r2, by assumption, hQ _ H Evo.refl (by simp [Rep])⟩
    · cases e
  · split at e
    · rename_i hc
      cases e
      simp only [Rep] at r1 r2
      obtain ⟨a, vs, rfl, l1, s1⟩ := r1
      refine .inr (.inl ⟨a, _, vs, rfl, r2, l1.1, hc.1, hc.2.1, by rw [sizeLine_eq, s1.length]; exact hc.2.2, fun p hp => ?_⟩)
      exact hQ _ _ (Evo.new hp) (Rep.newLst (s1.flat _) hp (hav p hp))
    · cases e
  · split at e
    · rename_i hc
      cases e
      simp only [Rep] at r1 r2
      obtain ⟨a, vs, rfl, l1, s1⟩ := r1
      refine .inr (.inr ⟨a, _, vs, rfl, r2, l1.sq, fun z => hc.1 ?_, hc.2.1, hc.2.2.1, by rw [s1.length]; exact hc.2.2.2, fun p hp => ?_⟩)
      · subst z
        have z := s1.length
        exact List.eq_nil_of_length_eq_zero z.symm
      · exact hQ _ _ (Evo.new hp) (Rep.newTup (s1.flat _) hp (hav p hp))
    · cases e
  · cases e

/-! ### comparisons -/
/-- a comparison of data: its answer a truth value -/
theorem odt_cmp {f : Value → Value → Sem Value} {g : PyData → PyData → Option PyData}
    (h : ∀ (pins : List (Addr × Obj)) (s : Shared) (σ : L2.St) (H : Hp) (av : List Addr) (x y : V) (v u : Value) (dx dy d : PyData) (Q : Value → Shared → Prop), Inv X pins σ H s → RelV x v → RelV y u → RepT X.K av H dx x → RepT X.K av H dy y →
      g dx dy = some d → (∀ b, d = .bool b → Q (.bool b) s) → (∃ b, d = .bool b) ∧ wpAny (model X.prog X.w) X.A (f v u) Q X.xe s) : OpDT X f g := by
  refine ⟨fun x y H Q => ∃ av dx dy d, RepT X.K av H dx x ∧ RepT X.K av H dy y ∧ g dx dy = some d ∧ ∀ b, d = .bool b → Q (.bl b) H, ?_, fun H x y dx dy d av Q hav r1 r2 e hQ => ?_⟩
  · intro pins s σ H x y v u Q I rx ry hr
    obtain ⟨av, dx, dy, d, r1, r2, e, hQ⟩ := hr
    exact (h pins s σ H av x y v u dx dy d _ I rx ry r1 r2 e fun b eb => ⟨.bl b, H, I, rfl, hQ b eb⟩).2
  · refine ⟨av, dx, dy, d, r1, r2, e, fun b eb => ?_⟩
    subst eb
    exact hQ _ H Evo.refl (by simp [Rep])
def eqD (a b : PyData) : Option PyData := if min a.depth b.depth ≤ 40 then some (.bool (PyData.eqv a b)) else none
def neD (a b : PyData) : Option PyData := if min a.depth b.depth ≤ 40 then some (.bool (!PyData.eqv a b)) else none
def ordOk (a b : PyData) : Prop := alike a b = true ∧ a.depth ≤ 40 ∧ (match a with | .none => false | _ => true) = true
instance (a b : PyData) : Decidable (ordOk a b) := by unfold ordOk; infer_instance
def ltD (a b : PyData) : Option PyData := if ordOk a b then some (.bool (dataLt a b)) else none
def gtD (a b : PyData) : Option PyData := if ordOk a b then some (.bool (dataLt b a)) else none
def leD (a b : PyData) : Option PyData := if ordOk a b then some (.bool (!dataLt b a)) else none
def geD (a b : PyData) : Option PyData := if ordOk a b then some (.bool (!dataLt a b)) else none
def signIn (c : Str) (z : Str) : Option Bool := if c.cps.size = 1 then some (decide (c.cps.getD 0 0 ∈ z.cps.toList)) else none
def inD : PyData → PyData → Option PyData
  | d, .list xs => if min (PyData.depthAll xs) d.depth ≤ 40 then some (.bool (xs.any fun y => PyData.eqv y d)) else none
  | d, .tuple xs => if min (PyData.depthAll xs) d.depth ≤ 40 then some (.bool (xs.any fun y => PyData.eqv y d)) else none
  | .str c, .str z => (signIn c z).map .bool
  | _, _ => none
def notInD (a b : PyData) : Option PyData := match inD a b with
  | some (.bool k) => some (.bool (!k))
  | _ => none
def isNoneD : PyData → Bool
  | .none => true
  | _ => false
def isD : PyData → PyData → Option PyData
  | a, .none => some (.bool (isNoneD a))
  | .bool a, .bool b => some (.bool (a == b))
  | _, _ => none
def isNotD : PyData → PyData → Option PyData
  | a, .none => some (.bool (!isNoneD a))
  | .bool a, .bool b => some (.bool (!(a == b)))
  | _, _ => none
theorem ord_ne {a b : PyData} (h : ordOk a b) : a ≠ .none := fun e => by
  subst e
  exact Bool.false_ne_true h.2.2
theorem od_eq (hu : X.A.units + 64 < cLine) : OpDT X (compareOp .Eq) eqD := odt_cmp fun pins s σ H av x y v u dx dy d Q I rx ry r1 r2 e hQ => by
  unfold eqD at e
  split at e
  · cases e
    obtain ⟨as, q1⟩ := r1.reads I rx
    obtain ⟨bs, q2⟩ := r2.reads I ry
    exact ⟨⟨_, rfl⟩, eq_plain q1 q2 r1.plain r2.plain (by omega) (hQ _ rfl)⟩
  · cases e
theorem od_ne (hu : X.A.units + 64 < cLine) : OpDT X (compareOp .NotEq) neD := odt_cmp fun pins s σ H av x y v u dx dy d Q I rx ry r1 r2 e hQ => by
  unfold neD at e
  split at e
  · cases e
    obtain ⟨as, q1⟩ := r1.reads I rx
    obtain ⟨bs, q2⟩ := r2.reads I ry
    exact ⟨⟨_, rfl⟩, ne_plain q1 q2 r1.plain r2.plain (by omega) (hQ _ rfl)⟩
  · cases e
theorem od_lt (hu : X.A.units + 64 < cLine) : OpDT X (compareOp .Lt) ltD := odt_cmp fun pins s σ H av x y v u dx dy d Q I rx ry r1 r2 e hQ => by
  unfold ltD at e
  split at e
  · rename_i hc
    cases e
    obtain ⟨as, q1⟩ := r1.reads I rx
    obtain ⟨bs, q2⟩ := r2.reads I ry
    exact ⟨⟨_, rfl⟩, lt_data q1 q2 hc.1 (ord_ne hc) (by have := hc.2.1; omega) (hQ _ rfl)⟩
  · cases e
theorem od_gt (hu : X.A.units + 64 < cLine) : OpDT X (compareOp .Gt) gtD := odt_cmp fun pins s σ H av x y v u dx dy d Q I rx ry r1 r2 e hQ => by
  unfold gtD at e
  split at e
  · rename_i hc
    cases e
    obtain ⟨as, q1⟩ := r1.reads I rx
    obtain ⟨bs, q2⟩ := r2.reads I ry
    exact ⟨⟨_, rfl⟩, gt_data q1 q2 hc.1 (ord_ne hc) (by have := hc.2.1; omega) (hQ _ rfl)⟩
  · cases e
theorem od_le (hu : X.A.units + 64 < cLine) : OpDT X (compareOp .LtE) leD := odt_cmp fun pins s σ H av x y v u dx dy d Q I rx ry r1 r2 e hQ => by
  unfold leD at e
  split at e
  · rename_i hc
    cases e
    obtain ⟨as, q1⟩ := r1.reads I rx
    obtain ⟨bs, q2⟩ := r2.reads I ry
    exact ⟨⟨_, rfl⟩, le_data q1 q2 hc.1 (ord_ne hc) (by have := hc.2.1; omega) (hQ _ rfl)⟩
  · cases e
theorem od_ge (hu : X.A.units + 64 < cLine) : OpDT X (compareOp .GtE) geD := odt_cmp fun pins s σ H av x y v u dx dy d Q I rx ry r1 r2 e hQ => by
  unfold geD at e
  split at e
  · rename_i hc
    cases e
    obtain ⟨as, q1⟩ := r1.reads I rx
    obtain ⟨bs, q2⟩ := r2.reads I ry
    exact ⟨⟨_, rfl⟩, ge_data q1 q2 hc.1 (ord_ne hc) (by have := hc.2.1; omega) (hQ _ rfl)⟩
  · cases e
theorem sign_eq {c : Str} (h : c.cps.size = 1) : c = ⟨#[c.cps.getD 0 0]⟩ := by
  obtain ⟨⟨l⟩⟩ := c
  cases l with
  | nil => simp at h
  | cons a r =>
    cases r with
    | nil => rfl
    | cons b r' => simp at h
theorem in_run (hu : X.A.units + 64 < cLine) {neg : Bool} {pins : List (Addr × Obj)} {s : Shared} {σ : L2.St} {H : Hp} {av : List Addr} {x y : V} {v u : Value} {dx dy : PyData} {k : Bool} {Q : Value → Shared → Prop} (I : Inv X pins σ H s) (rx : RelV x v) (ry : RelV y u)
    (r1 : RepT X.K av H dx x) (r2 : RepT X.K av H dy y) (e : inD dx dy = some (.bool k)) (hQ : Q (.bool (if neg = true then !k else k)) s) : wpAny (model X.prog X.w) X.A (compareOp (if neg = true then .NotIn else .In) v u) Q X.xe s := by
  obtain ⟨as, q1⟩ := r1.reads I rx
  obtain ⟨bs, q2⟩ := r2.reads I ry
  have p2 := r2.plain
  unfold inD at e
  split at e
  · split at e
    · cases e
      cases neg with
      | true => exact notIn_list_data q2 q1 (by simpa [PyData.plain] using p2) r1.plain (by omega) hQ
      | false => exact in_list_data q2 q1 (by simpa [PyData.plain] using p2) r1.plain (by omega) hQ
    · cases e
  · split at e
    · cases e
      cases neg with
      | true => exact notIn_tuple_data q2 q1 (by simpa [PyData.plain] using p2) r1.plain (by omega) hQ
      | false => exact in_tuple_data q2 q1 (by simpa [PyData.plain] using p2) r1.plain (by omega) hQ
    · cases e
  · rename_i c z
    unfold signIn at e
    split at e
    · rename_i h1
      cases e
      have e1 := r1.str
      have e2 := r2.str
      subst e1 e2
      obtain ⟨t, rfl⟩ := rx
      obtain ⟨t', rfl⟩ := ry
      have ec := sign_eq h1
      generalize c.cps.getD 0 0 = n at ec hQ
      subst ec
      cases neg with
      | true => exact PyProof.Rows.notIn_str (by rw [congrArg Bool.not (PySem.StrLaws.found_one z n)]; exact hQ)
      | false => exact PyProof.Rows.in_str (by rw [PySem.StrLaws.found_one z n]; exact hQ)
    · cases e
  · cases e
theorem inD_bool {a b d : PyData} (e : inD a b = some d) : ∃ k, d = .bool k := by
  unfold inD at e
  split at e
  · split at e <;> cases e; exact ⟨_, rfl⟩
  · split at e <;> cases e; exact ⟨_, rfl⟩
  · unfold signIn at e
    split at e <;> cases e; exact ⟨_, rfl⟩
  · cases e
theorem od_in (hu : X.A.units + 64 < cLine) : OpDT X (compareOp .In) inD := odt_cmp fun pins s σ H av x y v u dx dy d Q I rx ry r1 r2 e hQ => by
  obtain ⟨k, rfl⟩ := inD_bool e
  exact ⟨⟨_, rfl⟩, in_run (neg := false) hu I rx ry r1 r2 e (hQ _ rfl)⟩
theorem od_notIn (hu : X.A.units + 64 < cLine) : OpDT X (compareOp .NotIn) notInD := odt_cmp fun pins s σ H av x y v u dx dy d Q I rx ry r1 r2 e hQ => by
  unfold notInD at e
  split at e
  · rename_i k ek
    cases e
    exact ⟨⟨_, rfl⟩, in_run (neg := true) hu I rx ry r1 r2 ek (hQ _ rfl)⟩
  · cases e
theorem isNone_rep {K : PySem.W.Frag} {av : List Addr} {H : Hp} {d : PyData} {x : V} (r : RepT K av H d x) : decide (x = .non) = isNoneD d := by
  cases d with
  | none => have := r.none; subst this; rfl
  | bool b => have := r.bool; subst this; rfl
  | int b => have := r.int; subst this; rfl
  | str b => have := r.str; subst this; rfl
  | list ds => obtain ⟨a, vs, rfl, _⟩ := r.list; rfl
  | tuple ds => obtain ⟨a, vs, rfl, _⟩ := r.tuple; rfl
  | dict kvs =>
    rcases r with r | ⟨a, ds, vs, z, _⟩
    · simp [Rep] at r
    · cases z
theorem od_is : OpDT X (compareOp .Is) isD := by
  refine ⟨_, op_isN.or op_isBl, fun H x y dx dy d av Q hav r1 r2 e hQ => ?_⟩
  unfold isD at e
  split at e
  · cases e
    have e2 := r2.none
    subst e2
    exact .inl ⟨rfl, by rw [isNone_rep r1]; exact hQ _ H Evo.refl (by simp [Rep])⟩
  · cases e
    have e1 := r1.bool
    have e2 := r2.bool
    subst e1 e2
    refine .inr ⟨_, _, rfl, rfl, hQ _ H Evo.refl ?_⟩
    simp only [Rep]
    rename_i a b
    cases a <;> cases b <;> rfl
  · cases e
theorem od_isNot : OpDT X (compareOp .IsNot) isNotD := by
  refine ⟨_, op_notN.or op_notBl, fun H x y dx dy d av Q hav r1 r2 e hQ => ?_⟩
  unfold isNotD at e
  split at e
  · cases e
    have e2 := r2.none
    subst e2
    exact .inl ⟨rfl, by rw [isNone_rep r1]; exact hQ _ H Evo.refl (by simp [Rep])⟩
  · cases e
    have e1 := r1.bool
    have e2 := r2.bool
    subst e1 e2
    refine .inr ⟨_, _, rfl, rfl, hQ _ H Evo.refl ?_⟩
    simp only [Rep]
    rename_i a b
    cases a <;> cases b <;> rfl
  · cases e
end
end DL
end
section
set_option Elab.async false
set_option linter.all false
set_option maxRecDepth 100000
/-! The data layer, part d: tests, truth, arguments, displays, items, slices, built-ins. -/
namespace DL
open PySem PySem.Spec PyProof.Rows L2 PySem.SeqAt PySem.W
section
variable {X : Cx} {c : Cfg} {W : WX} {B as : List Addr} {σ : L2.St} {H H1 : Hp} {s : S} {a b e : Expr} {pos : Pos} {fa fb : EvD} {qa qb : Bool}
theorem DE.loud {tr : Bool} (h : DE X c W e tr true fa) (q : Bool) : DE X c W e tr q fa := by
  obtain ⟨t, p, r⟩ := h
  refine ⟨t, p, fun B as σ H s Q sr hw => r B as σ H s Q sr ?_⟩
  cases q with
  | true => exact hw
  | false => exact hw.loud
theorem DE.loud' {tr q : Bool} (h : DE X c W e tr q fa) : DE X c W e tr false fa := by
  cases q with
  | true => exact h.loud false
  | false => exact h

/-! ### tests -/
def boolOf : PyData × Sto → RT
  | (.bool k, st) => .ok (k, st)
  | _ => .stuck
def valT (f : EvD) : EvT := fun s => (f s).bind boolOf
/-- an expression whose value is a truth value, as a test -/
theorem dt_val (h : DE X c W e false qa fa) (he : ∀ whole, isTrue e X.env whole = (do let v ← whole; standAt e.pos; holding [v] (truthy v))) : DT X c W e (valT fa) := by
  obtain ⟨t, p, r⟩ := h.loud'
  refine ⟨tB t, pt_val p he, fun B as σ H s Q sr hw => ?_⟩
  show t σ H _
  have hw' : WantsG X c W RepB B as σ H s.env (false && true) Q ((fa s).bind boolOf) := hw
  refine WantsG.bind (s := s) hw' sr r fun x H1 da st1 e1 ev1 sr1 r1 hw1 => ?_
  unfold boolOf at hw1
  split at hw1
  · rename_i k st ek
    cases ek
    have z : x = .bl k := by simpa [RepE, RepX, Rep] using r1
    exact ⟨k, z, hw1.fin sr1 Evo.refl rfl⟩
  · exact hw1.elim
def cmpT (g : PyData → PyData → Option PyData) (fa fb : EvD) : EvT := valT (bin2 g fa fb)
theorem dt_cmp {op : CmpOp} {g : PyData → PyData → Option PyData} {tra trb : Bool} (h : OpDT X (compareOp op) g) (hm : behindInMarks op b = false) (ha : DE X c W a tra qa fa) (hb : DE X c W b trb qb fb) (hq : tra = true → qb = true) : DT X c W (.Compare a [op] [b] pos) (cmpT g fa fb) := by
  obtain ⟨r, hr, gr⟩ := h
  obtain ⟨ta, pa, ra⟩ := ha
  obtain ⟨tb, pb, rb⟩ := hb
  refine ⟨tTest (tOp r ta tb), pt_cmpR hr pa pb hm, fun B as σ H s Q sr hw => ?_⟩
  show ta σ H _
  unfold cmpT valT at hw
  have hw0 : WantsG X c W RepB B as σ H s.env (qa && qb) Q ((bin2 g fa fb s).bind boolOf) := hw.loud
  have hw' : WantsG X c W RepB B as σ H s.env (qa && qb) Q ((fa s).bind fun p => ((fb ⟨s.env, p.2⟩).bind fun q => ofOpt (g p.1 q.1) q.2).bind boolOf) := by
    unfold bin2 at hw0
    cases e : fa s <;> rw [e] at hw0 <;> exact hw0
  refine WantsG.bind (s := s) hw' sr ra fun x H1 da st1 e1 ev1 sr1 r1 hw1 => ?_
  show tb σ H1 _
  have hw1' : WantsG X c W RepB B as σ H1 s.env (qb && true) Q ((fb ⟨s.env, st1⟩).bind fun q => (ofOpt (g da q.1) q.2).bind boolOf) := by
    rw [Bool.and_true]
    cases e : fb ⟨s.env, st1⟩ <;> rw [e] at hw1 <;> exact hw1
  refine WantsG.bind (s := ⟨s.env, st1⟩) hw1' sr1 rb fun y H2 db st2 e2 ev2 sr2 r2 hw2 => ?_
  cases eg : g da db with
  | none => simp only [eg] at hw2; exact hw2.elim
  | some d =>
    simp only [eg, ofOpt_some, Res.bind_ok] at hw2
    refine gr H2 x y da db d _ _ (fun p hp => sr2.notnew hp) (RepX.t (r1.evo ev2 wq_sub fun z => by rw [hq z]; rfl)) r2.t eg fun z H3 ev3 rz => ?_
    unfold boolOf at hw2
    split at hw2
    · rename_i k st ek
      cases ek
      exact ⟨k, by simpa [Rep] using rz, hw2.fin sr2 ev3 rfl⟩
    · exact hw2.elim
theorem tchain_b {r r' : R2} {ta tb tc : TE} : True := trivial
theorem dt_chain {op op' : CmpOp} {g g' : PyData → PyData → Option PyData} {fc : EvD} (h : OpDT X (compareOp op) g) (h' : OpDT X (compareOp op') g') (hm : lastMarks [op, op'] [b, e] = false)
    (ha : DE X c W a false qa fa) (hb : DE X c W b false qb fb) (hc : DE X c W e false true fc) : DT X c W (.Compare a [op, op'] [b, e] pos) (valT (chain2 g g' fa fb fc)) := by
  obtain ⟨r, hr, gr⟩ := h
  obtain ⟨r', hr', gr'⟩ := h'
  obtain ⟨ta, pa, ra⟩ := ha
  obtain ⟨tb, pb, rb⟩ := hb
  obtain ⟨tc, pc, rc⟩ := hc
  refine ⟨_, pt_chain hr hr' pa pb pc hm, fun B as σ H s Q sr hw => ?_⟩
  show ta σ H _
  unfold valT chain2 at hw
  have hw0 : WantsG X c W RepB B as σ H s.env (qa && qb) Q _ := hw.loud
  have hw' : WantsG X c W RepB B as σ H s.env (qa && qb) Q ((fa s).bind fun p => ((fb ⟨s.env, p.2⟩).bind fun q => match g p.1 q.1 with
      | some (.bool true) => (fc ⟨s.env, q.2⟩).bind fun r => ofOpt (g' q.1 r.1) r.2
      | some (.bool false) => .ok (.bool false, q.2)
      | _ => .stuck).bind boolOf) := by
    cases e : fa s <;> rw [e] at hw0 <;> exact hw0
  refine WantsG.bind (s := s) hw' sr ra fun x H1 da st1 e1 ev1 sr1 r1 hw1 => ?_
  show tb σ H1 _
  have hw1' : WantsG X c W RepB B as σ H1 s.env (qb && true) Q ((fb ⟨s.env, st1⟩).bind fun q => (match g da q.1 with
      | some (.bool true) => (fc ⟨s.env, q.2⟩).bind fun r => ofOpt (g' q.1 r.1) r.2
      | some (.bool false) => .ok (.bool false, q.2)
      | _ => .stuck : RE).bind boolOf) := by
    rw [Bool.and_true]
    cases e : fb ⟨s.env, st1⟩ <;> rw [e] at hw1 <;> exact hw1
  refine WantsG.bind (s := ⟨s.env, st1⟩) hw1' sr1 rb fun y H2 db st2 e2 ev2 sr2 r2 hw2 => ?_
  simp only at hw2
  split at hw2
  · rename_i ed
    refine gr H2 x y da db _ _ _ (fun p hp => sr2.notnew hp) (RepX.t (r1.evo ev2 wq_sub fun z => by cases z)) r2.t ed fun z H3 ev3 rz => ?_
    simp only [Rep] at rz
    refine ⟨true, rz, ?_⟩
    rw [if_pos rfl]
    have hw3 := WantsG.step (qa := true) (qb := true) hw2 ev3
    have hw3' : WantsG X c W RepB B as σ H3 s.env (true && true) Q ((fc ⟨s.env, st2⟩).bind fun r => (ofOpt (g' db r.1) r.2).bind boolOf) := by
      cases e : fc ⟨s.env, st2⟩ <;> rw [e] at hw3 <;> exact hw3
    show tc σ H3 _
    refine WantsG.bind (s := ⟨s.env, st2⟩) hw3' (sr2.evo ev3) rc fun u H4 du st4 e4 ev4 sr4 r4 hw4 => ?_
    cases eg : g' db du with
    | none => simp only [eg] at hw4; exact hw4.elim
    | some d =>
      simp only [eg, ofOpt_some, Res.bind_ok] at hw4
      refine gr' H4 y u db du d _ _ (fun p hp => sr4.notnew hp) (Rep.t (Rep.evo ev4 wq_sub _ _ (Rep.evo ev3 (fun _ z => by cases z) _ _ r2))) r4.t eg fun z' H5 ev5 rz' => ?_
      unfold boolOf at hw4
      split at hw4
      · rename_i k st ek
        cases ek
        exact ⟨k, by simpa [Rep] using rz', hw4.fin sr4 ev5 rfl⟩
      · exact hw4.elim
  · rename_i ed
    refine gr H2 x y da db _ _ _ (fun p hp => sr2.notnew hp) (RepX.t (r1.evo ev2 wq_sub fun z => by cases z)) r2.t ed fun z H3 ev3 rz => ?_
    simp only [Rep] at rz
    refine ⟨false, rz, ?_⟩
    rw [if_neg Bool.false_ne_true]
    exact ⟨false, rfl, hw2.fin sr2 ev3 rfl⟩
  · exact hw2.elim
def andT (f g : EvT) : EvT := fun s => (f s).bind fun p => if p.1 = true then g ⟨s.env, p.2⟩ else .ok (false, p.2)
def orT (f g : EvT) : EvT := fun s => (f s).bind fun p => if p.1 = true then .ok (true, p.2) else g ⟨s.env, p.2⟩
def notT (f : EvT) : EvT := fun s => (f s).bind fun p => .ok (!p.1, p.2)
theorem dw_and1 {f : EvT} (h : DT X c W a f) : DW X c W (.BoolOp .And [a] pos) f := by
  obtain ⟨t, p, r⟩ := h
  exact ⟨t, pw_and1 p, r⟩
theorem dw_or1 {f : EvT} (h : DT X c W a f) : DW X c W (.BoolOp .Or [a] pos) f := by
  obtain ⟨t, p, r⟩ := h
  exact ⟨t, pw_or1 p, r⟩
theorem DW.dt {f : EvT} (h : DW X c W e f) : DT X c W e f := by
  obtain ⟨t, p, r⟩ := h
  exact ⟨t, p.pt, r⟩
theorem dw_and {f g : EvT} {rest : List Expr} (h : DT X c W a f) (h2 : DW X c W (.BoolOp .And (b :: rest) pos) g) : DW X c W (.BoolOp .And (a :: b :: rest) pos) (andT f g) := by
  obtain ⟨ta, pa, ra⟩ := h
  obtain ⟨tb, pb, rb⟩ := h2
  refine ⟨tAnd ta tb, pw_and pa pb, fun B as σ H s Q sr hw => ?_⟩
  show ta σ H _
  have hw' : WantsG X c W RepB B as σ H s.env (false && false) Q ((f s).bind fun p => if p.1 = true then g ⟨s.env, p.2⟩ else .ok (false, p.2)) := hw
  refine WantsG.bind (s := s) hw' sr ra fun x H1 k st1 e1 ev1 sr1 r1 hw1 => ?_
  have z : x = k := r1
  subst z
  cases x with
  | true => rw [if_pos rfl] at hw1 ⊢; exact rb B as σ H1 ⟨s.env, st1⟩ Q sr1 hw1
  | false => rw [if_neg Bool.false_ne_true] at hw1 ⊢; exact hw1.fin sr1 Evo.refl rfl
theorem dw_or {f g : EvT} {rest : List Expr} (h : DT X c W a f) (h2 : DW X c W (.BoolOp .Or (b :: rest) pos) g) : DW X c W (.BoolOp .Or (a :: b :: rest) pos) (orT f g) := by
  obtain ⟨ta, pa, ra⟩ := h
  obtain ⟨tb, pb, rb⟩ := h2
  refine ⟨tOr ta tb, pw_or pa pb, fun B as σ H s Q sr hw => ?_⟩
  show ta σ H _
  have hw' : WantsG X c W RepB B as σ H s.env (false && false) Q ((f s).bind fun p => if p.1 = true then .ok (true, p.2) else g ⟨s.env, p.2⟩) := hw
  refine WantsG.bind (s := s) hw' sr ra fun x H1 k st1 e1 ev1 sr1 r1 hw1 => ?_
  have z : x = k := r1
  subst z
  cases x with
  | true => rw [if_pos rfl] at hw1 ⊢; exact hw1.fin sr1 Evo.refl rfl
  | false => rw [if_neg Bool.false_ne_true] at hw1 ⊢; exact rb B as σ H1 ⟨s.env, st1⟩ Q sr1 hw1
theorem dt_not {f : EvT} (h : DT X c W a f) : DT X c W (.UnaryOp .Not a pos) (notT f) := by
  obtain ⟨ta, pa, ra⟩ := h
  refine ⟨tNot ta, pt_not pa, fun B as σ H s Q sr hw => ?_⟩
  show ta σ H _
  have hw' : WantsG X c W RepB B as σ H s.env (false && true) Q ((f s).bind fun p => .ok (!p.1, p.2)) := hw
  refine WantsG.bind (s := s) hw' sr ra fun x H1 k st1 e1 ev1 sr1 r1 hw1 => ?_
  have z : x = k := r1
  subst z
  exact hw1.fin sr1 Evo.refl rfl

/-! ### and, or, not as values -/
def andE (fa fb : EvD) : EvD := fun s => (fa s).bind fun p => match p.1 with
  | .bool true => fb ⟨s.env, p.2⟩
  | .bool false => .ok (.bool false, p.2)
  | _ => .stuck
def orE (fa fb : EvD) : EvD := fun s => (fa s).bind fun p => match p.1 with
  | .bool true => .ok (.bool true, p.2)
  | .bool false => fb ⟨s.env, p.2⟩
  | _ => .stuck
def notE (fa : EvD) : EvD := fun s => (fa s).bind fun p => match p.1 with
  | .bool k => .ok (.bool (!k), p.2)
  | _ => .stuck
theorem de_one {op : BoolOp} (h : DE X c W a false qa fa) : DE X c W (.BoolOp op [a] pos) false qa fa := by
  obtain ⟨t, p, r⟩ := h
  exact ⟨t, pe_one p, r⟩
theorem de_and {rest : List Expr} (h : DE X c W a false qa fa) (h2 : DE X c W (.BoolOp .And (b :: rest) pos) false qb fb) : DE X c W (.BoolOp .And (a :: b :: rest) pos) false (qa && qb) (andE fa fb) := by
  obtain ⟨ta, pa, ra⟩ := h
  obtain ⟨tb, pb, rb⟩ := h2
  refine ⟨tAndV ta tb, pe_and pa pb, fun B as σ H s Q sr hw => ?_⟩
  show ta σ H _
  refine WantsG.bind (s := s) hw sr ra fun x H1 da st1 e1 ev1 sr1 r1 hw1 => ?_
  simp only at hw1
  split at hw1
  · refine ⟨true, by simpa [RepE, RepX, Rep] using r1, ?_⟩
    rw [if_pos rfl]
    exact rb B as σ H1 ⟨s.env, st1⟩ Q sr1 hw1
  · refine ⟨false, by simpa [RepE, RepX, Rep] using r1, ?_⟩
    rw [if_neg Bool.false_ne_true]
    exact hw1.fin sr1 Evo.refl (by simp [RepE, RepX, Rep])
  · exact hw1.elim
theorem de_or {rest : List Expr} (h : DE X c W a false qa fa) (h2 : DE X c W (.BoolOp .Or (b :: rest) pos) false qb fb) : DE X c W (.BoolOp .Or (a :: b :: rest) pos) false (qa && qb) (orE fa fb) := by
  obtain ⟨ta, pa, ra⟩ := h
  obtain ⟨tb, pb, rb⟩ := h2
  refine ⟨tOrV ta tb, pe_or pa pb, fun B as σ H s Q sr hw => ?_⟩
  show ta σ H _
  refine WantsG.bind (s := s) hw sr ra fun x H1 da st1 e1 ev1 sr1 r1 hw1 => ?_
  simp only at hw1
  split at hw1
  · refine ⟨true, by simpa [RepE, RepX, Rep] using r1, ?_⟩
    rw [if_pos rfl]
    exact hw1.fin sr1 Evo.refl (by simp [RepE, RepX, Rep])
  · refine ⟨false, by simpa [RepE, RepX, Rep] using r1, ?_⟩
    rw [if_neg Bool.false_ne_true]
    exact rb B as σ H1 ⟨s.env, st1⟩ Q sr1 hw1
  · exact hw1.elim
theorem de_not (h : DE X c W a false qa fa) : DE X c W (.UnaryOp .Not a pos) false qa (notE fa) := by
  obtain ⟨ta, pa, ra⟩ := h
  refine ⟨tNotV ta, pe_not pa, fun B as σ H s Q sr hw => ?_⟩
  show ta σ H _
  rw [← Bool.and_true qa] at hw
  refine WantsG.bind (s := s) hw sr ra fun x H1 da st1 e1 ev1 sr1 r1 hw1 => ?_
  simp only at hw1
  split at hw1
  · exact ⟨_, by simpa [RepE, RepX, Rep] using r1, hw1.fin sr1 Evo.refl (by simp [RepE, RepX, Rep])⟩
  · exact hw1.elim
def negE (fa : EvD) : EvD := fun s => (fa s).bind fun p => match p.1 with
  | .int i => .ok (.int (-i), p.2)
  | _ => .stuck
theorem de_neg (h : DE X c W a false qa fa) : DE X c W (.UnaryOp .USub a pos) false qa (negE fa) := by
  obtain ⟨ta, pa, ra⟩ := h
  refine ⟨_, pe_un un_neg pa, fun B as σ H s Q sr hw => ?_⟩
  show ta σ H _
  rw [← Bool.and_true qa] at hw
  refine WantsG.bind (s := s) hw sr ra fun x H1 da st1 e1 ev1 sr1 r1 hw1 => ?_
  simp only at hw1
  split at hw1
  · exact ⟨_, by simpa [RepE, RepX, Rep] using r1, hw1.fin sr1 Evo.refl (by simp [RepE, RepX, Rep])⟩
  · exact hw1.elim
/-- a if t else b -/
def iteE (t : EvT) (fa fb : EvD) : EvD := fun s => (t s).bind fun p => if p.1 = true then fa ⟨s.env, p.2⟩ else fb ⟨s.env, p.2⟩
theorem de_ite {t : EvT} (ht : DT X c W e t) (ha : DE X c W a false qa fa) (hb : DE X c W b false qb fb) : DE X c W (.IfExp e a b pos) false false (iteE t fa fb) := by
  obtain ⟨tt, pt, rt⟩ := ht
  obtain ⟨ta, pa, ra⟩ := ha.loud'
  obtain ⟨tb, pb, rb⟩ := hb.loud'
  refine ⟨tIf tt ta tb, pe_ifExp pt pa pb, fun B as σ H s Q sr hw => ?_⟩
  show tt σ H _
  have hw' : WantsG X c W (RepE X.K false) B as σ H s.env (false && false) Q ((t s).bind fun p => if p.1 = true then fa ⟨s.env, p.2⟩ else fb ⟨s.env, p.2⟩) := hw
  refine WantsG.bind (s := s) hw' sr rt fun x H1 k st1 e1 ev1 sr1 r1 hw1 => ?_
  have z : x = k := r1
  subst z
  cases x with
  | true => rw [if_pos rfl] at hw1 ⊢; exact ra B as σ H1 ⟨s.env, st1⟩ Q sr1 hw1
  | false => rw [if_neg Bool.false_ne_true] at hw1 ⊢; exact rb B as σ H1 ⟨s.env, st1⟩ Q sr1 hw1
end

/-! ### arguments -/
section
variable {K : PySem.W.Frag} {av as W : List Addr} {H H1 : Hp}
theorem RepS.evo {sv : SV} {v : V} (h : RepS K av as H sv v) (e : Evo W H H1) (hw : ∀ x ∈ W, x ∈ av) : RepS K av as H1 sv v := by
  cases sv with
  | pure d => exact Rep.evo e hw d v h
  | scr ds => obtain ⟨a, vs, z1, z2, z3⟩ := h; exact ⟨a, vs, z1, z2.evo e hw, RepA.evo e hw ds vs z3⟩
  | obj i => exact h
theorem RepSA.evo (e : Evo W H H1) (hw : ∀ x ∈ W, x ∈ av) : ∀ {svs : List SV} {vs : List V}, RepSA K av as H svs vs → RepSA K av as H1 svs vs
  | [], _, h => h
  | d :: ds, vs, h => by
    obtain ⟨v, r, z, h1, h2⟩ := h
    exact ⟨v, r, z, h1.evo e hw, RepSA.evo e hw h2⟩
def pureAll : List SV → Option (List PyData)
  | [] => some []
  | .pure d :: r => (pureAll r).map (d :: ·)
  | _ => none
theorem pureAll_rep : ∀ {svs : List SV} {vs : List V} {ds : List PyData}, pureAll svs = some ds → RepSA K av as H svs vs → RepA K av H ds vs
  | [], vs, ds, e, h => by
    cases e
    simpa [RepA, RepSA] using h
  | .pure d :: r, vs, ds, e, h => by
    obtain ⟨v, q, rfl, h1, h2⟩ := h
    unfold pureAll at e
    cases e2 : pureAll r with
    | none => rw [e2] at e; cases e
    | some x =>
      rw [e2] at e
      cases e
      exact .cons h1 (pureAll_rep e2 h2)
  | .scr _ :: _, _, _, e, _ => by cases e
  | .obj _ :: _, _, _, e, _ => by cases e
theorem repSA_append : ∀ {s1 s2 : List SV} {v1 v2 : List V}, RepSA K av as H s1 v1 → RepSA K av as H s2 v2 → RepSA K av as H (s1 ++ s2) (v1 ++ v2)
  | [], _, _, _, h, r => by
    have : _ = [] := h
    subst this
    exact r
  | d :: ds, _, _, _, h, r => by
    obtain ⟨v, q, rfl, h1, h2⟩ := h
    exact ⟨v, _, rfl, h1, repSA_append h2 r⟩
theorem repSA_pure : ∀ {ds : List PyData} {vs : List V}, RepA K av H ds vs → RepSA K av as H (ds.map .pure) vs
  | [], vs, h => by simpa [RepA, RepSA] using h
  | d :: ds, vs, h => by
    simp only [RepA] at h
    obtain ⟨v, q, rfl, h1, h2⟩ := h
    exact ⟨v, q, rfl, h1, repSA_pure h2⟩
end
section
variable {X : Cx} {c : Cfg} {W : WX} {B as : List Addr} {σ : L2.St} {H H1 : Hp} {s : S} {a b e : Expr} {es : List Expr} {pos : Pos} {fa fb : EvD} {f : EvA} {qa qb : Bool}
def nilA : EvA := fun s => .ok ([], s.st)
theorem da_nil : DA X c W [] true nilA := ⟨tNil, pa_nil, fun B as σ H s Q sr hw => hw.fin sr Evo.refl rfl⟩
def consA (fa : EvD) (f : EvA) : EvA := fun s => (fa s).bind fun p => (f ⟨s.env, p.2⟩).bind fun q => .ok (.pure p.1 :: q.1, q.2)
theorem da_cons (ha : DE X c W e false qa fa) (hr : DA X c W es qb f) (hs : starEach (e :: es) X.env = (false, eval e X.env) :: starEach es X.env) : DA X c W (e :: es) (qa && qb) (consA fa f) := by
  obtain ⟨ta, pa, ra⟩ := ha
  obtain ⟨tb, pb, rb⟩ := hr
  refine ⟨tCons ta tb, pa_cons pa pb hs, fun B as σ H s Q sr hw => ?_⟩
  show ta σ H _
  refine WantsG.bind (s := s) hw sr ra fun x H1 da st1 e1 ev1 sr1 r1 hw1 => ?_
  show tb σ H1 _
  rw [← Bool.and_true qb] at hw1
  refine WantsG.bind (s := ⟨s.env, st1⟩) hw1 sr1 rb fun ys H2 db st2 e2 ev2 sr2 r2 hw2 => ?_
  exact hw2.fin sr2 Evo.refl ⟨x, ys, rfl, Rep.evo ev2 wq_sub _ _ r1, r2⟩
/-- a slot handed on as it is (an own object, the script) -/
def consSlotA (i : Nat) (f : EvA) : EvA := fun s => match s.env[i]? with
  | some (some sv) => (f s).bind fun q => .ok (sv :: q.1, q.2)
  | _ => .stuck
theorem da_slot {i : Nat} {x : Str} {p : Pos} (hN : X.N[i]? = some x) (hv : Vis X.env.scope x) (hd : (x == ("__debug__" : Str)) = false) (hcd : (x == ("__classdict__" : Str)) = false) (hr : DA X c W es qb f)
    (hs : starEach (.Name x p :: es) X.env = (false, eval (.Name x p) X.env) :: starEach es X.env) : DA X c W (.Name x p :: es) qb (consSlotA i f) := by
  obtain ⟨tb, pb, rb⟩ := hr
  refine ⟨tCons (tVar i) tb, pa_cons (pe_var hN hv hd hcd) pb hs, fun B as σ H s Q sr hw => ?_⟩
  unfold consSlotA at hw
  split at hw
  · rename_i sv e
    obtain ⟨v, q1, q2⟩ := sr.slot i _ e
    refine ⟨v, q1, ?_⟩
    show tb σ H _
    rw [← Bool.and_true qb] at hw
    refine WantsG.bind (s := s) hw sr rb fun ys H2 db st2 e2 ev2 sr2 r2 hw2 => ?_
    exact hw2.fin sr2 Evo.refl ⟨v, ys, rfl, q2.evo ev2 wq_sub, r2⟩
  · exact hw.elim
/-- *e, .. -/
def consStarA (fa : EvD) (f : EvA) : EvA := fun s => (fa s).bind fun p => match p.1 with
  | .list ds => (f ⟨s.env, p.2⟩).bind fun q => .ok (ds.map .pure ++ q.1, q.2)
  | .tuple ds => (f ⟨s.env, p.2⟩).bind fun q => .ok (ds.map .pure ++ q.1, q.2)
  | _ => .stuck
theorem da_star {tr : Bool} {p : Pos} (ha : DE X c W e tr qa fa) (hr : DA X c W es qb f) (hq : tr = true → qb = true) (hs : starEach (.Starred e p :: es) X.env = (true, eval e X.env) :: starEach es X.env) : DA X c W (.Starred e p :: es) (qa && qb) (consStarA fa f) := by
  obtain ⟨ta, pa, ra⟩ := ha
  obtain ⟨tb, pb, rb⟩ := hr
  refine ⟨StX.tStar X.K ta tb, StX.pa_star pa pb hs, fun B as σ H s Q sr hw => ?_⟩
  show ta σ H _
  refine WantsG.bind (s := s) hw sr ra fun x H1 da st1 e1 ev1 sr1 r1 hw1 => ?_
  simp only at hw1
  split at hw1
  · rename_i ds
    obtain ⟨p, xs, rfl, l, rs⟩ := RepT.list (RepX.t r1)
    refine ⟨p, xs, rfl, .inr l, ?_⟩
    show tb σ H1 _
    rw [← Bool.and_true qb] at hw1
    refine WantsG.bind (s := ⟨s.env, st1⟩) hw1 sr1 rb fun ys H2 db st2 e2 ev2 sr2 r2 hw2 => ?_
    exact hw2.fin sr2 Evo.refl (repSA_append (repSA_pure (RepA.evo ev2 wq_sub _ _ rs)) r2)
  · rename_i ds
    obtain ⟨p, xs, rfl, l, rs⟩ := RepT.tuple (RepX.t r1)
    refine ⟨p, xs, rfl, .inl l.sq, ?_⟩
    show tb σ H1 _
    rw [← Bool.and_true qb] at hw1
    refine WantsG.bind (s := ⟨s.env, st1⟩) hw1 sr1 rb fun ys H2 db st2 e2 ev2 sr2 r2 hw2 => ?_
    exact hw2.fin sr2 Evo.refl (repSA_append (repSA_pure (RepA.evo ev2 wq_sub _ _ rs)) r2)
  · exact hw1.elim

/-! ### displays -/
def short (n : Nat) : Bool := decide (n ≤ 16777216)
def tupE (f : EvA) : EvD := fun s => (f s).bind fun p => match pureAll p.1 with
  | some ds => if ds.length ≤ 16777216 then .ok (.tuple ds, p.2) else .stuck
  | none => .stuck
def lstE (f : EvA) : EvD := fun s => (f s).bind fun p => match pureAll p.1 with
  | some ds => if ds.length ≤ 16777216 then .ok (.list ds, p.2) else .stuck
  | none => .stuck
theorem de_tup {k : Nat} (h : DA X c W es qa f) : DE X c W (.Tuple es k pos) false qa (tupE f) := by
  obtain ⟨ta, pa, ra⟩ := h
  refine ⟨tTup ta, pe_tup pa, fun B as σ H s Q sr hw => ?_⟩
  show ta σ H _
  rw [← Bool.and_true qa] at hw
  refine WantsG.bind (s := s) hw sr ra fun x H1 da st1 e1 ev1 sr1 r1 hw1 => ?_
  simp only at hw1
  split at hw1
  · rename_i ds ep
    split at hw1
    · have rs := pureAll_rep ep r1
      refine ⟨by rw [sizeLine_eq, rs.length]; assumption, fun p hp => ?_⟩
      exact hw1.fin sr1 (Evo.new hp) (Rep.newTup rs hp (sr1.notnew hp))
    · exact hw1.elim
  · exact hw1.elim
theorem de_lst (h : DA X c W es qa f) : DE X c W (.List es pos) false qa (lstE f) := by
  obtain ⟨ta, pa, ra⟩ := h
  refine ⟨tLst ta, pe_lst pa, fun B as σ H s Q sr hw => ?_⟩
  show ta σ H _
  rw [← Bool.and_true qa] at hw
  refine WantsG.bind (s := s) hw sr ra fun x H1 da st1 e1 ev1 sr1 r1 hw1 => ?_
  simp only at hw1
  split at hw1
  · rename_i ds ep
    split at hw1
    · have rs := pureAll_rep ep r1
      refine ⟨by rw [sizeLine_eq, rs.length]; assumption, fun p hp => ?_⟩
      exact hw1.fin sr1 (Evo.new hp) (Rep.newLst rs hp (sr1.notnew hp))
    · exact hw1.elim
  · exact hw1.elim

/-! ### items -/
def itemD : PyData → PyData → Option PyData
  | .list ds, .int i => atI ds i
  | .tuple ds, .int i => atI ds i
  | .str z, .int i => if z.length ≤ 16777216 then (atI z.cps.toList i).map fun k => .str ⟨#[k]⟩ else none
  | _, _ => none
theorem atI_rep {K : PySem.W.Frag} {av : List Addr} {H : Hp} {ds : List PyData} {vs : List V} {i : Int} {d : PyData} (h : RepA K av H ds vs) (e : atI ds i = some d) : ∃ v, atI vs i = some v ∧ Rep K av H d v := by
  unfold atI at e ⊢
  rw [h.length]
  cases ej : ixN ds.length i with
  | none => rw [ej] at e; cases e
  | some j =>
    rw [ej] at e
    exact h.get e
theorem de_item {tr : Bool} (ha : DE X c W a tr qa fa) (hb : DE X c W b false qb fb) (hq : tr = true → qb = true) (hs : PlainIx b) : DE X c W (.Subscript a b pos) false (qa && qb) (bin2 itemD fa fb) := by
  obtain ⟨ta, pa, ra⟩ := ha
  obtain ⟨tb, pb, rb⟩ := hb
  refine ⟨_, pe_ix ix_seq pa pb hs, fun B as σ H s Q sr hw => ?_⟩
  show ta σ H _
  refine WantsG.bind (s := s) hw sr ra fun x H1 da st1 e1 ev1 sr1 r1 hw1 => ?_
  show tb σ H1 _
  rw [← Bool.and_true qb] at hw1
  refine WantsG.bind (s := ⟨s.env, st1⟩) hw1 sr1 rb fun y H2 db st2 e2 ev2 sr2 r2 hw2 => ?_
  obtain ⟨d, ed0, hw3⟩ := hw2.opt
  have ed : itemD da db = some d := ed0
  clear ed0
  have rt := RepX.t (r1.evo ev2 wq_sub fun z => by rw [hq z]; rfl)
  unfold itemD at ed
  split at ed
  · obtain ⟨p, vs, rfl, l, rs⟩ := rt.list
    obtain ⟨v, hv, rv⟩ := atI_rep rs ed
    exact .inl ⟨p, vs, _, v, rfl, by simpa [RepE, RepX, Rep] using r2, l, hv, hw3.fin sr2 Evo.refl rv⟩
  · obtain ⟨p, vs, rfl, l, rs⟩ := rt.tuple
    obtain ⟨v, hv, rv⟩ := atI_rep rs ed
    exact .inr (.inl ⟨p, vs, _, v, rfl, by simpa [RepE, RepX, Rep] using r2, l.sq, hv, hw3.fin sr2 Evo.refl rv⟩)
  · split at ed
    · rename_i z i hz
      cases ek : atI z.cps.toList i with
      | none => rw [ek] at ed; cases ed
      | some k =>
        rw [ek] at ed
        cases ed
        exact .inr (.inr ⟨z, i, k, rt.str, by simpa [RepE, RepX, Rep] using r2, by rw [sizeLine_eq]; exact hz, ek, hw3.fin sr2 Evo.refl (by simp [RepE, RepX, Rep])⟩)
    · cases ed
  · cases ed

/-! ### slices -/
def OE (X : Cx) (c : Cfg) (W : WX) (e : Option Expr) (f : S → Res (Option Int × Sto)) : Prop :=
  ∃ t, PO X e t ∧ ∀ (B as : List Addr) (σ : L2.St) (H : Hp) (s : S) (Q : Option Int → Hp → Prop), SR X.K c B as H σ s → WantsG X c W (fun _ _ _ a b => b = a) B as σ H s.env true Q (f s) → t σ H Q
def noneO : S → Res (Option Int × Sto) := fun s => .ok (none, s.st)
def someO (f : EvD) : S → Res (Option Int × Sto) := fun s => (f s).bind fun p => match p.1 with
  | .int i => .ok (some i, p.2)
  | _ => .stuck
theorem oe_none : OE X c W none noneO := ⟨_, po_none, fun B as σ H s Q sr hw => hw.fin sr Evo.refl rfl⟩
theorem oe_some (h : DE X c W e false true fa) : OE X c W (some e) (someO fa) := by
  obtain ⟨ta, pa, ra⟩ := h
  refine ⟨_, po_some pa, fun B as σ H s Q sr hw => ?_⟩
  show ta σ H _
  have hw' : WantsG X c W (fun _ _ _ a b => b = a) B as σ H s.env (true && true) Q ((fa s).bind fun p => match p.1 with
    | .int i => .ok (some i, p.2)
    | _ => .stuck) := hw
  refine WantsG.bind (s := s) hw' sr ra fun x H1 da st1 e1 ev1 sr1 r1 hw1 => ?_
  simp only at hw1
  split at hw1
  · exact ⟨_, by simpa [RepE, RepX, Rep] using r1, hw1.fin sr1 Evo.refl rfl⟩
  · exact hw1.elim
def cutD {α : Type} (xs : List α) (lo hi : Option Int) : List α := (xs.drop (HT.sIx xs.length 0 lo)).take (HT.sIx xs.length xs.length hi - HT.sIx xs.length 0 lo)
theorem cut_rep {K : PySem.W.Frag} {av : List Addr} {H : Hp} {ds : List PyData} {vs : List V} {lo hi : Option Int} (h : RepA K av H ds vs) : RepA K av H (cutD ds lo hi) (cutV vs lo hi) := by
  unfold cutD cutV
  rw [h.length]
  exact (h.drop _).take _
def sliceD (d : PyData) (lo hi : Option Int) : Option PyData := match d with
  | .list ds => some (.list (cutD ds lo hi))
  | .tuple ds => some (.tuple (cutD ds lo hi))
  | .str z => if z.length ≤ 16777216 then some (.str (cutS z lo hi)) else none
  | _ => none
def sliceE (fa : EvD) (fl fh : S → Res (Option Int × Sto)) : EvD := fun s => (fa s).bind fun p => (fl ⟨s.env, p.2⟩).bind fun l => (fh ⟨s.env, l.2⟩).bind fun h => ofOpt (sliceD p.1 l.1 h.1) h.2
theorem cutD_whole {α : Type} {xs : List α} {lo hi : Option Int} (h : HT.sIx xs.length 0 lo = 0 ∧ HT.sIx xs.length xs.length hi = xs.length) : cutD xs lo hi = xs := by
  unfold cutD
  rw [h.1, h.2]
  simp
theorem de_slice {tr : Bool} {lo hi : Option Expr} {p2 : Pos} {fl fh : S → Res (Option Int × Sto)} (ha : DE X c W a tr qa fa) (hl : OE X c W lo fl) (hh : OE X c W hi fh) : DE X c W (.Subscript a (.Slice lo hi none p2) pos) false qa (sliceE fa fl fh) := by
  obtain ⟨ta, pa, ra⟩ := ha
  obtain ⟨tl, pl, rl⟩ := hl
  obtain ⟨th, ph, rh⟩ := hh
  refine ⟨_, pe_slice (sl_list.or (sl_tupA.or sl_str)) pa pl ph, fun B as σ H s Q sr hw => ?_⟩
  show ta σ H _
  rw [← Bool.and_true qa] at hw
  refine WantsG.bind (s := s) hw sr ra fun x H1 da st1 e1 ev1 sr1 r1 hw1 => ?_
  show tl σ H1 _
  rw [← Bool.and_true true] at hw1
  refine WantsG.bind (s := ⟨s.env, st1⟩) hw1 sr1 rl fun y H2 db st2 e2 ev2 sr2 r2 hw2 => ?_
  show th σ H2 _
  rw [← Bool.and_true true] at hw2
  refine WantsG.bind (s := ⟨s.env, st2⟩) hw2 sr2 rh fun z H3 dc st3 e3 ev3 sr3 r3 hw3 => ?_
  obtain ⟨d, ed0, hw4⟩ := hw3.opt
  have ed : sliceD da db dc = some d := ed0
  clear ed0
  have z1 : y = db := r2
  have z2 : z = dc := r3
  subst z1 z2
  have rt := RepX.t ((r1.evo ev2 wq_sub fun _ => rfl).evo ev3 wq_sub fun _ => rfl)
  unfold sliceD at ed
  split at ed
  · cases ed
    obtain ⟨p, vs, rfl, l, rs⟩ := rt.list
    exact .inl ⟨p, vs, rfl, l, fun q hq => hw4.fin sr3 (Evo.new hq) (Rep.newLst (cut_rep rs) hq (sr3.notnew hq))⟩
  · cases ed
    obtain ⟨p, vs, rfl, l, rs⟩ := rt.tuple
    refine .inr (.inl ⟨p, vs, rfl, l.sq, fun hwh => ?_, fun _ q hq => hw4.fin sr3 (Evo.new hq) (Rep.newTup (cut_rep rs) hq (sr3.notnew hq))⟩)
    rw [rs.length] at hwh
    rw [cutD_whole hwh] at hw4
    refine hw4.fin sr3 Evo.refl ?_
    simp only [RepE, RepX, Bool.false_eq_true, if_false, Rep]
    exact ⟨p, vs, rfl, l, rs⟩
  · split at ed
    · rename_i zz hz
      cases ed
      exact .inr (.inr ⟨zz, rt.str, by rw [sizeLine_eq]; exact hz, hw4.fin sr3 Evo.refl (by simp [RepE, RepX, Rep])⟩)
    · cases ed
  · cases ed
end
end DL
end
section
set_option Elab.async false
set_option linter.all false
set_option maxRecDepth 100000
set_option maxHeartbeats 1000000
/-! sorted of a tuple (the library has lists alone). -/
namespace PySem.W
open PySem PySem.Calls PyProof.Rows
section
variable {prog : Program} {w : World} {A : Around} {E : Value → Shared → Prop} {s : Shared} {β : Type} {vs : List Value} {bs : List β} {enc : β → PyData} {R : Value → β → Prop}
theorem collect_tupT {l : Addr} {vs : List Value} {Q : List Value → Shared → Prop} (hl : IsTup s.heap l vs.toArray)
    (h : Q vs { s with heap := (s.heap.push (seqObj "list" #[] 0)).update s.heap.objs.size (Obj.mapSeq (· ++ vs.toArray)) }) (hsz : vs.length ≤ sizeLine) :
    wpAny (model prog w) A (collect (.ref l)) Q E s := by
  obtain ⟨o, ho, hc, n, hd⟩ := id hl
  unfold collect
  refine wpAny_bind (wpAny_runValue (codeAny_builtin entry_proto_collect' ?_))
  show wpAny _ _ (do again (.builtin "list.__iadd__" ⟨[← newList [], .ref l], []⟩)) _ _ s
  refine wpAny_bind (wpAny_newList (wpAny_pure ⟨Code.quiet_builtin _ (by decide +kernel), codeAny_builtin entry_list_iadd' ?_⟩))
  show wpAny _ _ (Builtin.List.listExtendWith (.ref s.heap.objs.size) (.ref l) (.ref s.heap.objs.size)) _ _ { s with heap := s.heap.push (seqObj "list" #[] 0) }
  unfold Builtin.List.listExtendWith
  have ho' : (s.heap.push (seqObj "list" #[] 0)).get? l = some o := Heap.get?_push_of_some _ ho
  refine wpAny_bind (wpAny_typeOf (T := "tuple") ⟨o, ho', hc⟩ ?_)
  have ht : (Value.type "tuple" == Value.type "tuple") = true := by rfl
  rw [if_pos (by rw [ht]; simp)]
  refine wpAny_bind (listItems_at ho' hd ?_)
  refine wpAny_bind (listItems_at (xs := #[]) (n := 0) (Heap.get?_push_size _ rfl) rfl ?_)
  rw [if_neg (by simp)]
  refine wpAny_bind (listUpdate_at (xs := #[]) (n := 0) (Heap.get?_push_size _ rfl) rfl ?_ (Nat.zero_le _) (by show (#[] ++ vs.toArray).size ≤ sizeLine + 1; simp only [Array.size_append, List.size_toArray, List.length_nil]; omega))
  refine wpAny_pure ?_
  show wpAny (model prog w) A (do
      let o ← load s.heap.objs.size
      match o.data with
      | .seq xs _ => pure xs.toList
      | _ => unsupported "internal:collect") Q E { s with heap := (s.heap.push (seqObj "list" #[] 0)).update s.heap.objs.size (Obj.mapSeq (· ++ vs.toArray)) }
  refine wpAny_bind (wpAny_load (get?_update_seq (Heap.get?_push_size _ rfl) _) ?_)
  show wpAny _ _ (pure ((#[] : Array Value) ++ vs.toArray).toList) Q E _
  rw [show ((#[] : Array Value) ++ vs.toArray).toList = vs by simp]
  exact wpAny_pure h
theorem sorted_of_sortT {l : Addr} {vs : List Value} {kw : List (Str × Value)} {Q : Value → Shared → Prop} (hl : IsTup s.heap l vs.toArray) (hL : vs.length ≤ sizeLine) (ha1 : argsOk "sorted" ⟨[.ref l], kw⟩) (ha2 : ∀ x, argsOk "list.sort" ⟨[.ref x], kw⟩)
    (body : ∀ E' : Value → Shared → Prop, wpAny (model prog w) A.in1.in1 (Builtin.«list.sort» ⟨[.ref (s.heap.objs.size + 1)], kw⟩) (fun f s' => f = .done (.ret .none) ∧ Q (.ref (s.heap.objs.size + 1)) s') E' { s with heap := copyHeap s.heap vs }) :
    wpAny (model prog w) A (call (.builtin "sorted") [.ref l] kw) Q E s := by
  refine call_function_entry_kw kind_sorted plain_sorted entry_sorted ha1 ?_
  unfold Builtin.«sorted»
  refine wpAny_bind (m := checkCount "sorted" 1 1 _) (wpAny_pure ?_)
  refine wpAny_bind (collect_tupT hl ?_ hL)
  refine wpAny_bind (wpAny_newList ?_ hL)
  have hsz : ((s.heap.push (seqObj "list" #[] 0)).update s.heap.objs.size (Obj.mapSeq (· ++ vs.toArray))).objs.size = s.heap.objs.size + 1 := by
    rw [Heap.size_update, size_push']
  show wpAny _ _ _ _ _ { s with heap := copyHeap s.heap vs }
  rw [hsz]
  refine wpAny_bind (wpAny_holding (wpAny_call_entry_kw slot_list_sort ⟨_, copyHeap_at s.heap vs, rfl⟩ entry_list_sort ?body (ha2 _)))
  case body =>
    show wpAny (model prog w) A.in1.in1 (Builtin.«list.sort» ⟨[.ref (s.heap.objs.size + 1)], kw⟩) _ _ _
    refine wpAny_mono (body _) (fun f s' hf => ?_) fun _ _ e => e
    obtain ⟨rfl, hq⟩ := hf
    exact ⟨_, rfl, wpAny_pure ⟨_, rfl, hq⟩⟩
theorem sorted_valsT {κ : PyProof.Rows.KeyKind} {l : Addr} {vs : List Value} {Q : Value → Shared → Prop} (hl : IsTup s.heap l vs.toArray) (S : SortsAt prog w A.in1.in1 { s with heap := sortingHeap (copyHeap s.heap vs) (s.heap.objs.size + 1) vs } κ vs) (hL : vs.length ≤ sizeLine)
    (h : Q (.ref (s.heap.objs.size + 1)) { s with heap := sortedAll s.heap vs (sortVals κ false vs vs).toArray }) : wpAny (model prog w) A (call (.builtin "sorted") [.ref l]) Q E s :=
  sorted_of_sortT hl hL (args_sorted1 _) (fun _ => args_list_sort _) fun _ => list_sort_vals (s := { s with heap := copyHeap s.heap vs }) (copyHeap_at s.heap vs) S hL ⟨rfl, h⟩
theorem sorted_dataT {l : Addr} {Q : Value → Shared → Prop} (hl : IsTup s.heap l vs.toArray) (e : EachIs R vs bs) (er : EachIs (fun v b => ∃ as, Reads s.heap v (enc b) as) vs bs) (hal : AllAlike (bs.map enc)) (hk : Sortable (bs.map enc)) (hL : bs.length ≤ sizeLine)
    (hu : ∀ b, b ∈ bs → A.units + 2 + (enc b).depth < cLine) (h : ∀ out, out.length = bs.length → EachIs R out (bs.mergeSort (dataLe false enc)) → Q (.ref (s.heap.objs.size + 1)) { s with heap := sortedAll s.heap vs (List.toArray out) }) :
    wpAny (model prog w) A (call (.builtin "sorted") [.ref l]) Q E s := by
  have er' : EachIs (fun v b => ∃ as, Reads (sortingHeap (copyHeap s.heap vs) (s.heap.objs.size + 1) vs) v (enc b) as) vs bs := er.mono fun _ _ ⟨as, r⟩ => ⟨as, PyProof.Rows.Reads.keeps (fun _ _ => sorting_copy_old) r⟩
  exact sorted_valsT hl (SortsAt.data (s := { s with heap := sortingHeap (copyHeap s.heap vs) (s.heap.objs.size + 1) vs }) (each_map (R := fun v d => ∃ as, Reads (sortingHeap (copyHeap s.heap vs) (s.heap.objs.size + 1) vs) v d as) enc er') hal hk (bound_map hu)) (by rw [e.length]; exact hL)
    (h _ (by rw [sortVals_length false rfl]; exact e.length) (sortVals_data false e er' hal))
end
end PySem.W
end
section
set_option Elab.async false
set_option linter.all false
set_option maxRecDepth 100000
set_option maxHeartbeats 1000000
/-! The data layer, part e: built-ins. -/
namespace DL
open PySem PySem.Spec PyProof.Rows L2 PySem.SeqAt PySem.W
/-! ### calls of built-ins with one argument -/
def CallD (X : Cx) (f : Value) (g : PyData → Option PyData) : Prop :=
  ∃ r, CallR X f r ∧ ∀ (H : Hp) (x : V) (dx d : PyData) (av : List Addr) (Q : VK), (∀ p, H p = none → p ∉ av) → RepT X.K av H dx x → g dx = some d → (∀ z H', Evo [] H H' → Rep X.K av H' d z → Q z H') → r [x] H Q
def un1 (g : PyData → Option PyData) (fa : EvD) : EvD := fun s => (fa s).bind fun p => ofOpt (g p.1) p.2
section
variable {X : Cx} {c : Cfg} {W : WX} {B as : List Addr} {σ : L2.St} {H H1 : Hp} {s : S} {a b e : Expr} {p pos : Pos} {fa fb : EvD} {qa qb tr : Bool} {g : PyData → Option PyData}
theorem un1_ref {ta : TE} {r : List V → Hp → VK → Prop} (hg : ∀ (H : Hp) (x : V) (dx d : PyData) (av : List Addr) (Q : VK), (∀ p, H p = none → p ∉ av) → RepT X.K av H dx x → g dx = some d → (∀ z H', Evo [] H H' → Rep X.K av H' d z → Q z H') → r [x] H Q)
    (ra : ∀ (B as : List Addr) (σ : L2.St) (H : Hp) (s : S) (Q : VK), SR X.K c B as H σ s → WantsG X c W (RepE X.K tr) B as σ H s.env qa Q (fa s) → ta σ H Q)
    {Q : VK} (sr : SR X.K c B as H σ s) (hw : WantsG X c W (RepE X.K false) B as σ H s.env qa Q (un1 g fa s)) : tCB r (tCons ta tNil) σ H Q := by
  show ta σ H _
  rw [← Bool.and_true qa] at hw
  refine WantsG.bind (s := s) hw sr ra fun x H1 da st1 e1 ev1 sr1 r1 hw1 => ?_
  obtain ⟨d, ed, hw3⟩ := hw1.opt
  exact hg H1 x da d _ _ (fun p hp => sr1.notnew hp) (RepX.t r1) ed fun z H3 ev3 rz => hw3.fin sr1 ev3 rz
theorem de_callB {x : Str} {id : String} (h : CallD X (.builtin id) g) (hg : Gl X x) (hm : X.mg x = none) (hv : bootBuiltins x = some (.builtin id)) (ha : DE X c W a tr qa fa) (hs : starEach [a] X.env = (false, eval a X.env) :: starEach [] X.env)
    (hn : x ≠ "__name__") (hdb : (x == ("__debug__" : Str)) = false) : DE X c W (.Call (.Name x p) [a] [] pos) false qa (un1 g fa) := by
  obtain ⟨r, hr, gr⟩ := h
  obtain ⟨ta, pa, ra⟩ := ha
  exact ⟨_, pe_callB hr hg hm hv (pa_cons pa pa_nil hs) hn hdb hs rfl, fun B as σ H s Q sr hw => un1_ref gr ra sr hw⟩
theorem de_callTy {x : Str} {T : String} (h : CallD X (.type T) g) (hg : Gl X x) (hm : X.mg x = none) (hv : bootBuiltins x = some (.type T)) (ha : DE X c W a tr qa fa) (hs : starEach [a] X.env = (false, eval a X.env) :: starEach [] X.env)
    (hn : x ≠ "__name__") (hdb : (x == ("__debug__" : Str)) = false) : DE X c W (.Call (.Name x p) [a] [] pos) false qa (un1 g fa) := by
  obtain ⟨r, hr, gr⟩ := h
  obtain ⟨ta, pa, ra⟩ := ha
  exact ⟨_, pe_callTy hr hg hm hv (pa_cons pa pa_nil hs) hn hdb hs rfl, fun B as σ H s Q sr hw => un1_ref gr ra sr hw⟩
/-- with two arguments, numbers -/
def CallD2 (X : Cx) (f : Value) (g : PyData → PyData → Option PyData) : Prop :=
  ∃ r, CallR X f r ∧ ∀ (H : Hp) (x y : V) (dx dy d : PyData) (av : List Addr) (Q : VK), (∀ p, H p = none → p ∉ av) → Rep X.K av H dx x → Rep X.K av H dy y → g dx dy = some d → (∀ z H', Evo [] H H' → Rep X.K av H' d z → Q z H') → r [x, y] H Q
theorem de_callB2 {x : Str} {id : String} {g : PyData → PyData → Option PyData} (h : CallD2 X (.builtin id) g) (hg : Gl X x) (hm : X.mg x = none) (hv : bootBuiltins x = some (.builtin id)) (ha : DE X c W a false qa fa) (hb : DE X c W b false qb fb)
    (hs : starEach [a, b] X.env = (false, eval a X.env) :: starEach [b] X.env) (hs2 : starEach [b] X.env = (false, eval b X.env) :: starEach [] X.env)
    (hn : x ≠ "__name__") (hdb : (x == ("__debug__" : Str)) = false) : DE X c W (.Call (.Name x p) [a, b] [] pos) false (qa && qb) (bin2 g fa fb) := by
  obtain ⟨r, hr, gr⟩ := h
  obtain ⟨ta, pa, ra⟩ := ha
  obtain ⟨tb, pb, rb⟩ := hb
  refine ⟨_, pe_callB hr hg hm hv (pa_cons pa (pa_cons pb pa_nil hs2) hs) hn hdb hs (by rw [hs2]; rfl), fun B as σ H s Q sr hw => ?_⟩
  show ta σ H _
  refine WantsG.bind (s := s) hw sr ra fun x H1 da st1 e1 ev1 sr1 r1 hw1 => ?_
  show tb σ H1 _
  rw [← Bool.and_true qb] at hw1
  refine WantsG.bind (s := ⟨s.env, st1⟩) hw1 sr1 rb fun y H2 db st2 e2 ev2 sr2 r2 hw2 => ?_
  obtain ⟨d, ed, hw3⟩ := hw2.opt
  exact gr H2 x y da db d _ _ (fun p hp => sr2.notnew hp) (Rep.evo ev2 wq_sub _ _ r1) r2 ed fun z H3 ev3 rz => hw3.fin sr2 ev3 rz
end

/-! ### len, abs, int, tuple, list, sum -/
def lenD : PyData → Option PyData
  | .list ds => some (.int ds.length)
  | .tuple ds => some (.int ds.length)
  | .str z => if z.length ≤ 16777216 then some (.int z.length) else none
  | _ => none
def absD : PyData → Option PyData
  | .int i => some (.int (if i < 0 then -i else i))
  | _ => none
def intD : PyData → Option PyData
  | .int i => some (.int i)
  | .bool k => some (.int (if k then 1 else 0))
  | _ => none
def tupleD : PyData → Option PyData
  | .list ds => some (.tuple ds)
  | .tuple ds => some (.tuple ds)
  | _ => none
def listD : PyData → Option PyData
  | .list ds => some (.list ds)
  | .tuple ds => some (.list ds)
  | _ => none
def intsOf : List PyData → Option (List Int)
  | [] => some []
  | .int i :: r => (intsOf r).map (i :: ·)
  | _ => none
def sumD : PyData → Option PyData
  | .list ds => (intsOf ds).map fun ns => .int ns.sum
  | _ => none
theorem intsOf_eq : ∀ {ds : List PyData} {ns : List Int}, intsOf ds = some ns → ds = ns.map .int
  | [], ns, e => by cases e; rfl
  | .int i :: r, ns, e => by
    unfold intsOf at e
    cases e2 : intsOf r with
    | none => rw [e2] at e; cases e
    | some x => rw [e2] at e; cases e; rw [intsOf_eq e2]; rfl
  | .none :: _, _, e => by cases e
  | .bool _ :: _, _, e => by cases e
  | .str _ :: _, _, e => by cases e
  | .list _ :: _, _, e => by cases e
  | .tuple _ :: _, _, e => by cases e
  | .dict _ :: _, _, e => by cases e
theorem rep_ints {K : PySem.W.Frag} {av : List Addr} {H : Hp} : ∀ {ns : List Int} {vs : List V}, RepA K av H (ns.map .int) vs → vs = ns.map V.int
  | [], vs, h => by simpa [RepA] using h
  | n :: ns, vs, h => by
    rw [List.map_cons] at h
    simp only [RepA, Rep] at h
    obtain ⟨v, r, rfl, rfl, h2⟩ := h
    rw [rep_ints h2]; rfl
theorem ints_rep {K : PySem.W.Frag} {av : List Addr} {H : Hp} : ∀ (ns : List Int), RepA K av H (ns.map .int) (ns.map V.int)
  | [] => .nil
  | n :: ns => .cons (by simp [Rep]) (ints_rep ns)
section
variable {X : Cx}
theorem cd_len : CallD X (.builtin "len") lenD := by
  refine ⟨_, call_len_seq.or call_len_str, fun H x dx d av Q hav r e hQ => ?_⟩
  unfold lenD at e
  split at e
  · cases e
    obtain ⟨a, vs, rfl, l, rs⟩ := r.list
    exact .inl ⟨a, vs, rfl, .inl l, by rw [rs.length]; exact hQ _ H Evo.refl (by simp [Rep])⟩
  · cases e
    obtain ⟨a, vs, rfl, l, rs⟩ := r.tuple
    exact .inl ⟨a, vs, rfl, .inr l.sq, by rw [rs.length]; exact hQ _ H Evo.refl (by simp [Rep])⟩
  · split at e
    · rename_i z hz
      cases e
      have := r.str
      subst this
      exact .inr ⟨z, rfl, by rw [sizeLine_eq]; exact hz, hQ _ H Evo.refl (by simp [Rep])⟩
    · cases e
  · cases e
theorem cd_abs : CallD X (.builtin "abs") absD := by
  refine ⟨_, call_abs, fun H x dx d av Q hav r e hQ => ?_⟩
  unfold absD at e
  split at e
  · cases e
    have := r.int
    subst this
    exact ⟨_, rfl, hQ _ H Evo.refl (by simp [Rep])⟩
  · cases e
theorem cd_int : CallD X (.type "int") intD := by
  refine ⟨_, call_int1, fun H x dx d av Q hav r e hQ => ?_⟩
  unfold intD at e
  split at e
  · cases e
    have := r.int
    subst this
    exact .inl ⟨_, rfl, hQ _ H Evo.refl (by simp [Rep])⟩
  · cases e
    have := r.bool
    subst this
    exact .inr ⟨_, rfl, hQ _ H Evo.refl (by simp [Rep])⟩
  · cases e
theorem cd_tuple : CallD X (.type "tuple") tupleD := by
  refine ⟨_, call_tuple_of, fun H x dx d av Q hav r e hQ => ?_⟩
  unfold tupleD at e
  split at e
  · cases e
    obtain ⟨a, vs, rfl, l, rs⟩ := r.list
    exact ⟨a, vs, rfl, .inl ⟨l, fun p hp => hQ _ _ (Evo.new hp) (Rep.newTup rs hp (hav p hp))⟩⟩
  · cases e
    obtain ⟨a, vs, rfl, l, rs⟩ := r.tuple
    exact ⟨a, vs, rfl, .inr ⟨l.sq, hQ _ H Evo.refl (by simp only [Rep]; exact ⟨a, vs, rfl, l, rs⟩)⟩⟩
  · cases e
theorem cd_list : CallD X (.type "list") listD := by
  refine ⟨_, call_list_of, fun H x dx d av Q hav r e hQ => ?_⟩
  unfold listD at e
  split at e
  · cases e
    obtain ⟨a, vs, rfl, l, rs⟩ := r.list
    exact ⟨a, vs, rfl, .inl l, fun p hp => hQ _ _ (Evo.new hp) (Rep.newLst rs hp (hav p hp))⟩
  · cases e
    obtain ⟨a, vs, rfl, l, rs⟩ := r.tuple
    exact ⟨a, vs, rfl, .inr l.sq, fun p hp => hQ _ _ (Evo.new hp) (Rep.newLst rs hp (hav p hp))⟩
  · cases e
theorem cd_sum (hc : X.calm = true) : CallD X (.builtin "sum") sumD := by
  refine ⟨_, cr_sum hc, fun H x dx d av Q hav r e hQ => ?_⟩
  unfold sumD at e
  split at e
  · rename_i ds
    cases ei : intsOf ds with
    | none => rw [ei] at e; cases e
    | some ns =>
      rw [ei] at e
      cases e
      obtain ⟨a, vs, rfl, l, rs⟩ := r.list
      rw [intsOf_eq ei] at rs
      rw [rep_ints rs] at l
      exact ⟨a, ns, rfl, l, hQ _ H Evo.refl (by simp [Rep])⟩
  · cases e
def max2D : PyData → PyData → Option PyData
  | .int a, .int b => some (.int (if b > a then b else a))
  | _, _ => none
def min2D : PyData → PyData → Option PyData
  | .int a, .int b => some (.int (if b < a then b else a))
  | _, _ => none
theorem cd_max2 (hc : X.calm = true) : CallD2 X (.builtin "max") max2D := by
  refine ⟨_, call_max2 hc, fun H x y dx dy d av Q hav r1 r2 e hQ => ?_⟩
  unfold max2D at e
  split at e
  · cases e
    simp only [Rep] at r1 r2
    subst r1 r2
    exact ⟨_, _, rfl, hQ _ H Evo.refl (by simp [Rep])⟩
  · cases e
theorem cd_min2 (hc : X.calm = true) : CallD2 X (.builtin "min") min2D := by
  refine ⟨_, call_min2 hc, fun H x y dx dy d av Q hav r1 r2 e hQ => ?_⟩
  unfold min2D at e
  split at e
  · cases e
    simp only [Rep] at r1 r2
    subst r1 r2
    exact ⟨_, _, rfl, hQ _ H Evo.refl (by simp [Rep])⟩
  · cases e

/-! ### least, greatest, sorted -/
open Classical in
noncomputable def minDD : PyData → Option PyData
  | .list (d :: ds) => if AlikeAll (d :: ds) ∧ PyData.depthAll (d :: ds) ≤ 40 then some (minD d ds) else none
  | _ => none
open Classical in
noncomputable def maxDD : PyData → Option PyData
  | .list (d :: ds) => if AlikeAll (d :: ds) ∧ PyData.depthAll (d :: ds) ≤ 40 then some (maxD d ds) else none
  | _ => none
theorem pick_rep {pins : List (Addr × Obj)} {s : Shared} {σ : L2.St} {H : Hp} {av : List Addr} {ds : List PyData} {vs : List V} {its : List Value} (I : Inv X pins σ H s) (rs : RepA X.K av H ds vs) (rv : Vals vs its) {i : Nat} {v : Value} {m : PyData} {bs : List Addr}
    (hv : its[i]? = some v) (hr : Reads s.heap v m bs) : ∃ x, RelV x v ∧ Rep X.K av H m x := by
  have hi : i < its.length := (List.getElem?_eq_some_iff.mp hv).1
  have h2 : i < ds.length := by rw [← rs.length, rv.length]; exact hi
  obtain ⟨x, hx, rx⟩ := rs.get (List.getElem?_eq_getElem h2)
  obtain ⟨u, hu, ru⟩ := rv.get hx
  rw [hv] at hu
  cases hu
  obtain ⟨as, q⟩ := Rep.reads I _ x v rx ru
  have e := plain_unique _ _ v as bs (Rep.plain _ x rx) q hr
  exact ⟨x, ru, by rw [← e]; exact rx⟩
theorem cd_min (hc : X.calm = true) (hu : X.A.units + 64 < cLine) : CallD X (.builtin "min") minDD := by
  refine ⟨fun xs H Q => ∃ av x dx d, xs = [x] ∧ RepT X.K av H dx x ∧ minDD dx = some d ∧ ∀ z, Rep X.K av H d z → Q z H, ?_, fun H x dx d av Q hav r e hQ => ⟨av, x, dx, d, rfl, r, e, fun z rz => hQ z H Evo.refl rz⟩⟩
  intro pins s σ H xs us Q I rv h
  obtain ⟨av, x, dx, d, rfl, r, e, hQ⟩ := h
  unfold minDD at e
  split at e
  · rename_i d0 ds
    split at e
    · rename_i hal
      cases e
      obtain ⟨a, vs, rfl, l, rs⟩ := r.list
      rw [Vals.ref1 rv]
      obtain ⟨its, rvs, hl, _⟩ := I.list l
      obtain ⟨as, hr⟩ := RepA.reads I _ vs its rs rvs
      refine min_list_data (I.ok.hd hc) hl.isList (by simpa using hr) hal.1 (by omega) fun i v h' tk bs hv hm hk => ?_
      have I1 : Inv X pins σ H { s with heap := h', toks := tk } := I.kept hk
      obtain ⟨z, rz, qz⟩ := pick_rep I1 rs rvs (by simpa using hv) hm
      exact ⟨z, H, I1, rz, hQ z qz⟩
    · cases e
  · cases e
theorem cd_max (hc : X.calm = true) (hu : X.A.units + 64 < cLine) : CallD X (.builtin "max") maxDD := by
  refine ⟨fun xs H Q => ∃ av x dx d, xs = [x] ∧ RepT X.K av H dx x ∧ maxDD dx = some d ∧ ∀ z, Rep X.K av H d z → Q z H, ?_, fun H x dx d av Q hav r e hQ => ⟨av, x, dx, d, rfl, r, e, fun z rz => hQ z H Evo.refl rz⟩⟩
  intro pins s σ H xs us Q I rv h
  obtain ⟨av, x, dx, d, rfl, r, e, hQ⟩ := h
  unfold maxDD at e
  split at e
  · rename_i d0 ds
    split at e
    · rename_i hal
      cases e
      obtain ⟨a, vs, rfl, l, rs⟩ := r.list
      rw [Vals.ref1 rv]
      obtain ⟨its, rvs, hl, _⟩ := I.list l
      obtain ⟨as, hr⟩ := RepA.reads I _ vs its rs rvs
      refine max_list_data (I.ok.hd hc) hl.isList (by simpa using hr) hal.1 (by omega) fun i v h' tk bs hv hm hk => ?_
      have I1 : Inv X pins σ H { s with heap := h', toks := tk } := I.kept hk
      obtain ⟨z, rz, qz⟩ := pick_rep I1 rs rvs (by simpa using hv) hm
      exact ⟨z, H, I1, rz, hQ z qz⟩
    · cases e
  · cases e
def sortD (ds : List PyData) : List PyData := ds.mergeSort (dataLe false fun d => d)
open Classical in
noncomputable def sortedDD : PyData → Option PyData
  | .list ds => if AllAlike ds ∧ Sortable ds ∧ PyData.depthAll ds ≤ 40 then some (.list (sortD ds)) else none
  | .tuple ds => if AllAlike ds ∧ Sortable ds ∧ PyData.depthAll ds ≤ 40 then some (.list (sortD ds)) else none
  | _ => none
theorem depth_mem : ∀ {ds : List PyData} {d : PyData}, d ∈ ds → d.depth ≤ PyData.depthAll ds
  | x :: xs, d, h => by
    rw [PyData.depthAll]
    rcases List.mem_cons.mp h with e | e
    · rw [e]; exact Nat.le_max_left _ _
    · exact Nat.le_trans (depth_mem e) (Nat.le_max_right _ _)
/-- the pairs of data and values -/
theorem each_pairs {av : List Addr} {pins : List (Addr × Obj)} {s : Shared} {σ : L2.St} {H : Hp} (I : Inv X pins σ H s) : ∀ {ds : List PyData} {vs : List V} {its : List Value}, RepA X.K av H ds vs → Vals vs its →
    EachIs (fun (v : Value) (b : PyData × V) => RelV b.2 v ∧ Rep X.K av H b.1 b.2) its (ds.zip vs) ∧ EachIs (fun (v : Value) (b : PyData × V) => ∃ as, Reads s.heap v b.1 as) its (ds.zip vs)
  | [], vs, its, h, r => by
    simp only [RepA] at h
    subst h
    cases r
    exact ⟨.nil, .nil⟩
  | d :: ds, vs, its, h, r => by
    simp only [RepA] at h
    obtain ⟨v, q, rfl, h1, h2⟩ := h
    cases r with
    | cons r1 r2 =>
      obtain ⟨a1, a2⟩ := each_pairs I h2 r2
      exact ⟨.cons ⟨r1, h1⟩ a1, .cons (Rep.reads I d v _ h1 r1) a2⟩
theorem pairs_back {av : List Addr} {H : Hp} : ∀ {out : List Value} {bs : List (PyData × V)}, EachIs (fun (v : Value) (b : PyData × V) => RelV b.2 v ∧ Rep X.K av H b.1 b.2) out bs → RepA X.K av H (bs.map (·.1)) (bs.map (·.2)) ∧ Vals (bs.map (·.2)) out
  | _, _, .nil => ⟨.nil, .nil⟩
  | _, _, .cons h t => by
    obtain ⟨q1, q2⟩ := pairs_back t
    exact ⟨.cons h.2 q1, .cons h.1 q2⟩
theorem cd_sorted (hu : X.A.units + 64 < cLine) : CallD X (.builtin "sorted") sortedDD := by
  refine ⟨fun xs H Q => ∃ av x dx d, xs = [x] ∧ (∀ p, H p = none → p ∉ av) ∧ RepT X.K av H dx x ∧ sortedDD dx = some d ∧ ∀ z H', Evo [] H H' → Rep X.K av H' d z → Q z H', ?_, fun H x dx d av Q hav r e hQ => ⟨av, x, dx, d, rfl, hav, r, e, hQ⟩⟩
  intro pins s σ H xs us Q I rv h
  obtain ⟨av, x, dx, d, rfl, hav, r, e, hQ⟩ := h
  unfold sortedDD at e
  split at e
  · rename_i ds
    split at e
    · rename_i hal
      cases e
      obtain ⟨a, vs, rfl, l, rs⟩ := r.list
      rw [Vals.ref1 rv]
      obtain ⟨its, rvs, hl, hz⟩ := I.list l
      obtain ⟨e1, e2⟩ := each_pairs I rs rvs
      have hmap : (ds.zip vs).map (fun b => b.1) = ds := by rw [List.map_fst_zip]; rw [rs.length]; exact Nat.le_refl _
      have hlen : (ds.zip vs).length = vs.length := by rw [List.length_zip, rs.length]; omega
      refine sorted_data (enc := fun b : PyData × V => b.1) (bs := ds.zip vs) hl.isList e1 e2 (by rw [hmap]; exact hal.1) (by rw [hmap]; exact hal.2.1) (by rw [hlen]; exact hz) (fun b hb => ?_) fun out h1 h2 => ?_
      · have : b.1 ∈ ds := by rw [← hmap]; exact List.mem_map.mpr ⟨b, hb, rfl⟩
        have := depth_mem this
        have := hal.2.2
        omega
      · obtain ⟨q1, q2⟩ := pairs_back h2
        have hs : ((ds.zip vs).mergeSort (dataLe false fun b => b.1)).map (fun b => b.1) = sortD ds := by
          exact (sort_maps (r := dataLe false fun b : PyData × V => b.1) (s := dataLe false fun d => d) (fun b : PyData × V => b.1) (fun a _ b _ => rfl)).trans (by rw [hmap]; rfl)
        rw [hs] at q1
        obtain ⟨ep, he'⟩ := PyProof.Rows.sortedAll_at s.heap its out.toArray
        refine ⟨.ref _, upd H (s.heap.objs.size + 1) (.lst _), I.laid (t' := s.toks) (fun _ _ => PyProof.Rows.sortedAll_old) (Nat.le_succ _) ⟨?_, out, ep, q2, by simpa using he'⟩, rfl, ?_⟩
        · rw [List.length_map, List.length_mergeSort, hlen]; exact hz
        · have hn := I.hok.fresh (Nat.le_succ s.heap.objs.size)
          exact hQ _ _ (Evo.new hn) (Rep.newLst q1 hn (hav _ hn))
    · cases e
  · rename_i ds
    split at e
    · rename_i hal
      cases e
      obtain ⟨a, vs, rfl, l, rs⟩ := r.tuple
      rw [Vals.ref1 rv]
      obtain ⟨its, rvs, hl, hz⟩ := I.tuple l.sq
      obtain ⟨e1, e2⟩ := each_pairs I rs rvs
      have hmap : (ds.zip vs).map (fun b => b.1) = ds := by rw [List.map_fst_zip]; rw [rs.length]; exact Nat.le_refl _
      have hlen : (ds.zip vs).length = vs.length := by rw [List.length_zip, rs.length]; omega
      refine sorted_dataT (enc := fun b : PyData × V => b.1) (bs := ds.zip vs) hl e1 e2 (by rw [hmap]; exact hal.1) (by rw [hmap]; exact hal.2.1) (by rw [hlen]; exact hz) (fun b hb => ?_) fun out h1 h2 => ?_
      · have : b.1 ∈ ds := by rw [← hmap]; exact List.mem_map.mpr ⟨b, hb, rfl⟩
        have := depth_mem this
        have := hal.2.2
        omega
      · obtain ⟨q1, q2⟩ := pairs_back h2
        have hs : ((ds.zip vs).mergeSort (dataLe false fun b => b.1)).map (fun b => b.1) = sortD ds := by
          exact (sort_maps (r := dataLe false fun b : PyData × V => b.1) (s := dataLe false fun d => d) (fun b : PyData × V => b.1) (fun a _ b _ => rfl)).trans (by rw [hmap]; rfl)
        rw [hs] at q1
        obtain ⟨ep, he'⟩ := PyProof.Rows.sortedAll_at s.heap its out.toArray
        refine ⟨.ref _, upd H (s.heap.objs.size + 1) (.lst _), I.laid (t' := s.toks) (fun _ _ => PyProof.Rows.sortedAll_old) (Nat.le_succ _) ⟨?_, out, ep, q2, by simpa using he'⟩, rfl, ?_⟩
        · rw [List.length_map, List.length_mergeSort, hlen]; exact hz
        · have hn := I.hok.fresh (Nat.le_succ s.heap.objs.size)
          exact hQ _ _ (Evo.new hn) (Rep.newLst q1 hn (hav _ hn))
    · cases e
  · cases e

/-! ### isinstance -/
inductive Ty where
  | int | bool | str | list | tuple
  deriving DecidableEq
def Ty.name : Ty → String
  | .int => "int"
  | .bool => "bool"
  | .str => "str"
  | .list => "list"
  | .tuple => "tuple"
def kindOf : PyData → String
  | .none => "NoneType"
  | .bool _ => "bool"
  | .int _ => "int"
  | .str _ => "str"
  | .list _ => "list"
  | .tuple _ => "tuple"
  | .dict _ => "dict"
def isiB : Ty → PyData → Bool
  | .int, .int _ => true
  | .int, .bool _ => true
  | .bool, .bool _ => true
  | .str, .str _ => true
  | .list, .list _ => true
  | .tuple, .tuple _ => true
  | _, _ => false
theorem kit_ok (T : Ty) (d : PyData) : kitB (kindOf d) T.name = some (isiB T d) := by
  cases d <;> cases T <;> first
    | (show kitB "NoneType" _ = some _; simp only [Ty.name, isiB]; decide +kernel)
    | (simp only [Ty.name, isiB, kindOf]; decide +kernel)
theorem repT_ty {K : PySem.W.Frag} {av : List Addr} {H : Hp} {d : PyData} {x : V} (r : RepT K av H d x) : TyX K H x (.type (kindOf d)) := by
  cases d with
  | none => have := r.none; subst this; exact .base .non
  | bool b => have := r.bool; subst this; exact .base (.bl b)
  | int b => have := r.int; subst this; exact .base (.int b)
  | str b => have := r.str; subst this; exact .base (.str b)
  | list ds =>
    obtain ⟨a, vs, rfl, l, _⟩ := r.list
    rcases l with (l | ⟨o, l⟩) | ⟨o, its, n, l, hc, _⟩
    · exact .base (.lst l)
    · exact .base (.frz l)
    · exact .kList l hc
  | tuple ds =>
    obtain ⟨a, vs, rfl, l, _⟩ := r.tuple
    rcases l with ⟨l | ⟨o, l⟩, _⟩ | ⟨o, its, n, l, hc, _⟩
    · exact .base (.tup l)
    · exact .fTuple l
    · exact .kTuple l hc
  | dict kvs =>
    rcases r with r | ⟨a, ds, vs, z, _⟩
    · simp [Rep] at r
    · cases z
def isiE (T : Ty) (fa : EvD) : EvD := un1 (fun d => some (.bool (isiB T d))) fa
theorem de_isi {c : Cfg} {W : WX} {a : Expr} {x T : Str} {p p2 pos : Pos} {ty : Ty} {tr qa : Bool} {fa : EvD} (hg : Gl X x) (hm : X.mg x = none) (hv : bootBuiltins x = some (.builtin "isinstance")) (hgT : Gl X T) (hmT : X.mg T = none) (hvT : bootBuiltins T = some (.type ty.name))
    (ha : DE X c W a tr qa fa) (hs : starEach [a, .Name T p2] X.env = (false, eval a X.env) :: starEach [.Name T p2] X.env) (hn : x ≠ "__name__") (hdb : (x == ("__debug__" : Str)) = false) (hnT : T ≠ "__name__") (hdbT : (T == ("__debug__" : Str)) = false) :
    DE X c W (.Call (.Name x p) [a, .Name T p2] [] pos) false qa (isiE ty fa) := by
  obtain ⟨ta, pa, ra⟩ := ha
  refine ⟨_, pe_callB call_isi hg hm hv (pa_cons pa (pa_cons (pe_bltn (v := .ty ty.name) hgT hmT hvT rfl hnT hdbT) pa_nil rfl) hs) hn hdb hs rfl, fun B as σ H s Q sr hw => ?_⟩
  show ta σ H _
  unfold isiE un1 at hw
  rw [← Bool.and_true qa] at hw
  refine WantsG.bind (s := s) hw sr ra fun x H1 da st1 e1 ev1 sr1 r1 hw1 => ?_
  exact ⟨x, .ty ty.name, _, _, isiB ty da, rfl, .ty _, repT_ty (RepX.t r1), kit_ty (kit_ok ty da), hw1.fin sr1 Evo.refl (by simp [RepE, RepX, Rep])⟩
end
end DL
end
section
set_option Elab.async false
set_option linter.all false
set_option maxRecDepth 100000
set_option maxHeartbeats 1000000
/-! The data layer, part f: calls of the text's own defs. -/
namespace DL
open PySem PySem.Spec PyProof.Rows L2 PySem.SeqAt PySem.W
/-- what a def does: its arguments, the own objects that are handed in; its result, these objects behind it -/
abbrev FSem := List SV → Sto → RE
def idOf : SV → Option Nat
  | .obj i => some i
  | _ => none
def idsOf : List SV → List Nat
  | [] => []
  | .obj i :: r => i :: idsOf r
  | _ :: r => idsOf r
def renum (ids : List Nat) : SV → SV
  | .obj i => .obj (ids.idxOf i)
  | sv => sv
def gather (st : Sto) : List Nat → Option Sto
  | [] => some []
  | i :: r => match st[i]?, gather st r with
    | some o, some os => some (o :: os)
    | _, _ => none
def scatter (st : Sto) : List Nat → Sto → Sto
  | i :: is, o :: os => scatter (st.set i o) is os
  | _, _ => st
def callS (n : Nat) (F : FSem) (svs : List SV) (s : S) : RE :=
  if svs.length = n ∧ (idsOf svs).Nodup then
    match gather s.st (idsOf svs) with
    | some objs => match F (svs.map (renum (idsOf svs))) objs with
      | .ok p => .ok (p.1, scatter s.st (idsOf svs) p.2)
      | .exc c s' => .exc c ⟨s.env, scatter s.st (idsOf svs) s'.st⟩
      | .stuck => .stuck
    | none => .stuck
  else .stuck
def callE (n : Nat) (F : FSem) (f : EvA) : EvD := fun s => (f s).bind fun p => callS n F p.1 ⟨s.env, p.2⟩
theorem gather_get : ∀ {st : Sto} {ids : List Nat} {objs : Sto}, gather st ids = some objs → objs.length = ids.length ∧ ∀ (k i : Nat), ids[k]? = some i → objs[k]? = st[i]? ∧ i < st.length
  | st, [], objs, e => by cases e; exact ⟨rfl, fun k i h => by simp at h⟩
  | st, i :: r, objs, e => by
    unfold gather at e
    split at e
    · rename_i o os h1 h2
      cases e
      obtain ⟨q1, q2⟩ := gather_get h2
      refine ⟨by simp [q1], fun k j h => ?_⟩
      cases k with
      | zero =>
        simp only [List.getElem?_cons_zero, Option.some.injEq] at h
        subst h
        exact ⟨by simp [h1], (List.getElem?_eq_some_iff.mp h1).1⟩
      | succ k => simpa using q2 k j (by simpa using h)
    · cases e
theorem scatter_len : ∀ (st : Sto) (ids : List Nat) (os : Sto), (scatter st ids os).length = st.length
  | st, [], os => by cases os <;> rfl
  | st, i :: r, [] => rfl
  | st, i :: r, o :: os => by
    show (scatter (st.set i o) r os).length = _
    rw [scatter_len, List.length_set]
theorem scatter_out : ∀ (st : Sto) (ids : List Nat) (os : Sto) (i : Nat), i ∉ ids → (scatter st ids os)[i]? = st[i]?
  | st, [], os, i, _ => by cases os <;> rfl
  | st, j :: r, [], i, _ => rfl
  | st, j :: r, o :: os, i, h => by
    show (scatter (st.set j o) r os)[i]? = _
    rw [scatter_out _ r os i (fun z => h (List.mem_cons_of_mem _ z)), List.getElem?_set_ne]
    intro z
    exact h (by rw [z]; exact List.mem_cons_self)
theorem scatter_in : ∀ (st : Sto) (ids : List Nat) (os : Sto) (k i : Nat), ids.Nodup → os.length = ids.length → ids[k]? = some i → i < st.length → (scatter st ids os)[i]? = os[k]?
  | st, [], os, k, i, _, _, h, _ => by simp at h
  | st, j :: r, [], k, i, _, hl, _, _ => by simp at hl
  | st, j :: r, o :: os, 0, i, nd, hl, h, hi => by
    simp only [List.getElem?_cons_zero, Option.some.injEq] at h
    subst h
    show (scatter (st.set j o) r os)[j]? = _
    rw [scatter_out _ r os j (List.nodup_cons.mp nd).1, List.getElem?_set_self hi]
    rfl
  | st, j :: r, o :: os, k + 1, i, nd, hl, h, hi => by
    show (scatter (st.set j o) r os)[i]? = os[k]?
    exact scatter_in _ r os k i (List.nodup_cons.mp nd).2 (by simpa using hl) (by simpa using h) (by rw [List.length_set]; exact hi)
/-- where the handed objects stand -/
def asC (as : List Addr) (ids : List Nat) : List Addr := ids.map fun i => (as[i]?).getD 0
section
variable {K : PySem.W.Frag} {c : Cfg} {B as : List Addr} {H H' : Hp} {σ : L2.St} {env : List (Option SV)} {st objs objs' : Sto} {ids : List Nat}
theorem asC_get {k i : Nat} {a : Addr} (h : ids[k]? = some i) (ha : as[i]? = some a) : (asC as ids)[k]? = some a := by
  unfold asC
  rw [List.getElem?_map, h]
  simp [ha]
theorem asC_mem (hlt : ∀ (k i : Nat), ids[k]? = some i → i < as.length) {a : Addr} (h : a ∈ asC as ids) : ∃ k i : Nat, ids[k]? = some i ∧ as[i]? = some a := by
  obtain ⟨k, hk, e⟩ := List.getElem_of_mem h
  have hk' : k < ids.length := by unfold asC at hk; simpa using hk
  have e1 : ids[k]? = some ids[k] := List.getElem?_eq_getElem hk'
  have hl := hlt k _ e1
  refine ⟨k, ids[k], e1, ?_⟩
  have e2 : (asC as ids)[k]? = some as[ids[k]] := asC_get e1 (List.getElem?_eq_getElem hl)
  rw [List.getElem?_eq_getElem hk] at e2
  rw [List.getElem?_eq_getElem hl, ← Option.some.inj e2, e]
theorem asC_in (hlt : ∀ (k i : Nat), ids[k]? = some i → i < as.length) {a : Addr} (h : a ∈ asC as ids) : a ∈ as := by
  obtain ⟨k, i, _, e⟩ := asC_mem hlt h
  exact List.mem_of_getElem? e
theorem nodup_at {α : Type} {l : List α} (hN : l.Nodup) {i j : Nat} {x : α} (a : l[i]? = some x) (b : l[j]? = some x) : i = j := nd_ix hN a b
theorem ORep.avoid {hs : PyData → Int} {av av' : List Addr} {a : Addr} {o : O} (h : ORep K hs av H a o) (hw : ∀ x ∈ av', x ∈ av ∨ H x = none) : ORep K hs av' H a o := by
  cases o with
  | lst ds => obtain ⟨vs, q, r⟩ := h; exact ⟨vs, q, RepA.avoid hw ds vs r⟩
  | dK ds => obtain ⟨vs, q, r⟩ := h; exact ⟨vs, q, Paired.mapP r fun _ _ z => ⟨z.1, Rep.avoid hw _ _ z.2⟩⟩
  | dM ds => obtain ⟨vs, q, m, l, r⟩ := h; exact ⟨vs, q, m, l, Paired.mapP r fun _ _ z => ⟨z.1, z.2.1, z.2.2.1, Rep.avoid hw _ _ z.2.2.2.1, Rep.avoid hw _ _ z.2.2.2.2⟩⟩
  | dead => exact h
theorem SR.callee (sr : SR K c B as H σ ⟨env, st⟩) (nd : ids.Nodup) (hg : gather st ids = some objs) : SR K c (B ++ as) (asC as ids) H [] ⟨[], objs⟩ := by
  obtain ⟨g1, g2⟩ := gather_get hg
  have hal : as.length = st.length := sr.aslen
  have hlt : ∀ (k i : Nat), ids[k]? = some i → i < as.length := fun k i h => by rw [hal]; exact (g2 k i h).2
  refine ⟨rfl, fun i sv h => by simp at h, ?_, by unfold asC; simpa using g1.symm, fun k o a h1 h2 => ?_, fun a h => ?_, sr.tabs⟩
  · unfold asC
    rw [List.Nodup, List.pairwise_map]
    refine List.Pairwise.imp_of_mem (fun {i j} hi hj hne e => hne ?_) nd
    obtain ⟨k1, h1, e1⟩ := List.getElem_of_mem hi
    obtain ⟨k2, h2, e2⟩ := List.getElem_of_mem hj
    have l1 : i < as.length := hlt k1 i (by rw [List.getElem?_eq_getElem h1, e1])
    have l2 : j < as.length := hlt k2 j (by rw [List.getElem?_eq_getElem h2, e2])
    rw [List.getElem?_eq_getElem l1, List.getElem?_eq_getElem l2] at e
    exact nodup_at sr.nd (List.getElem?_eq_getElem l1) (by rw [List.getElem?_eq_getElem l2]; exact congrArg some e.symm)
  · have hk : k < ids.length := by rw [← g1]; exact (List.getElem?_eq_some_iff.mp h1).1
    have e1 := List.getElem?_eq_getElem hk
    obtain ⟨q1, q2⟩ := g2 k _ e1
    have l := hlt k _ e1
    have e2 := asC_get (as := as) e1 (List.getElem?_eq_getElem l)
    rw [h2] at e2
    cases e2
    refine (sr.objs _ o _ (by rw [← q1]; exact h1) (List.getElem?_eq_getElem l)).avoid fun x hx => .inl ?_
    rcases List.mem_append.mp hx with z | z
    · exact z
    · exact List.mem_append_right _ (asC_in hlt z)
  · rcases List.mem_append.mp h with z | z
    · exact sr.out a z
    · obtain ⟨u, q, _⟩ := sr.there z
      rw [q]; simp
theorem idsOf_mem : ∀ {svs : List SV} {i : Nat}, .obj i ∈ svs → i ∈ idsOf svs
  | .obj j :: r, i, h => by
    rcases List.mem_cons.mp h with e | e
    · cases e; exact List.mem_cons_self
    · exact List.mem_cons_of_mem _ (idsOf_mem e)
  | .pure d :: r, i, h => by
    rcases List.mem_cons.mp h with e | e
    · cases e
    · exact idsOf_mem (svs := r) e
  | .scr d :: r, i, h => by
    rcases List.mem_cons.mp h with e | e
    · cases e
    · exact idsOf_mem (svs := r) e
theorem repSA_renum (hlt : ∀ (k i : Nat), ids[k]? = some i → i < as.length) : ∀ {svs : List SV} {vs : List V}, (∀ i, .obj i ∈ svs → i ∈ ids) → RepSA K (B ++ as) as H svs vs → RepSA K ((B ++ as) ++ asC as ids) (asC as ids) H (svs.map (renum ids)) vs
  | [], vs, _, h => h
  | sv :: r, vs, hi, h => by
    obtain ⟨v, q, rfl, h1, h2⟩ := h
    have hw : ∀ x ∈ (B ++ as) ++ asC as ids, x ∈ B ++ as ∨ H x = none := fun x hx => .inl (by
      rcases List.mem_append.mp hx with z | z
      · exact z
      · exact List.mem_append_right _ (asC_in hlt z))
    refine ⟨v, q, rfl, ?_, repSA_renum hlt (fun i h => hi i (List.mem_cons_of_mem _ h)) h2⟩
    cases sv with
    | pure d => exact Rep.avoid hw d v h1
    | scr ds => obtain ⟨a, ws, z1, z2, z3⟩ := h1; exact ⟨a, ws, z1, z2.avoid hw, RepA.avoid hw ds ws z3⟩
    | obj i =>
      obtain ⟨a, e1, rfl⟩ := h1
      have hm := hi i List.mem_cons_self
      have hl : ids.idxOf i < ids.length := List.idxOf_lt_length_iff.mpr hm
      exact ⟨a, asC_get (by rw [List.getElem?_eq_getElem hl, List.getElem_idxOf hl]) e1, rfl⟩
theorem SR.back (sr : SR K c B as H σ ⟨env, st⟩) (nd : ids.Nodup) (hg : gather st ids = some objs) (e : Evo (asC as ids) H H') (sr' : SR K c (B ++ as) (asC as ids) H' [] ⟨[], objs'⟩) : SR K c B as H' σ ⟨env, scatter st ids objs'⟩ := by
  obtain ⟨g1, g2⟩ := gather_get hg
  have hal : as.length = st.length := sr.aslen
  have hlt : ∀ (k i : Nat), ids[k]? = some i → i < as.length := fun k i h => by rw [hal]; exact (g2 k i h).2
  have hsub : ∀ x ∈ asC as ids, x ∈ B ++ as := fun x h => List.mem_append_right _ (asC_in hlt h)
  have hl' : objs'.length = ids.length := by
    have := sr'.aslen
    unfold asC at this
    simpa using this.symm
  refine ⟨sr.len, fun i sv h => ?_, sr.nd, by rw [scatter_len]; exact hal, fun i o a h1 h2 => ?_, fun a h z => ?_, sr'.tabs⟩
  · obtain ⟨v, q1, q2⟩ := sr.slot i sv h
    exact ⟨v, q1, q2.evo e hsub⟩
  · by_cases hi : i ∈ ids
    · obtain ⟨k, hk, ek⟩ := List.getElem_of_mem hi
      have e1 : ids[k]? = some i := by rw [List.getElem?_eq_getElem hk, ek]
      have h1' : (scatter st ids objs')[i]? = some o := h1
      rw [scatter_in st ids objs' k i nd hl' e1 (g2 k i e1).2] at h1'
      exact (sr'.objs k o a h1' (asC_get e1 h2)).avoid fun x hx => .inl (List.mem_append_left _ hx)
    · have h1' : (scatter st ids objs')[i]? = some o := h1
      rw [scatter_out st ids objs' i hi] at h1'
      refine (sr.objs i o a h1' h2).evo0 e hsub fun z => ?_
      obtain ⟨k, j, e1, e2⟩ := asC_mem hlt z
      have : i = j := nodup_at sr.nd h2 e2
      exact hi (by rw [this]; exact List.mem_of_getElem? e1)
  · cases q : H a with
    | none => exact sr.out a h q
    | some u =>
      by_cases n : a ∈ asC as ids
      · obtain ⟨u', q', _⟩ := sr'.there n
        rw [z] at q'; cases q'
      · obtain ⟨o', q'⟩ := e.there q n
        rw [z] at q'; cases q'
end
/-- a def's promise, by what it does -/
def spD (K : PySem.W.Frag) (c : Cfg) (n : Nat) (F : FSem) : Sp := fun vs H Q E => ∃ (B as : List Addr) (svs : List SV) (objs : Sto), svs.length = n ∧ SR K c B as H [] ⟨[], objs⟩ ∧ RepSA K (B ++ as) as H svs vs ∧
  match F svs objs with
  | .ok p => ∀ v H', Evo as H H' → SR K c B as H' [] ⟨[], p.2⟩ → Rep K (B ++ as) H' p.1 v → Q v H'
  | .exc cl s' => ∀ H', Evo as H H' → SR K c B as H' [] ⟨[], s'.st⟩ → E (c.cls cl) none H'
  | .stuck => False
theorem repSA_len {K : PySem.W.Frag} {av as : List Addr} {H : Hp} : ∀ {svs : List SV} {vs : List V}, RepSA K av as H svs vs → vs.length = svs.length
  | [], vs, h => by
    have : vs = [] := h
    subst this; rfl
  | _ :: r, vs, h => by
    obtain ⟨v, q, rfl, _, h2⟩ := h
    simp [repSA_len h2]
section
variable {X : Cx} {c : Cfg} {W : WX} {CX : CXT} {k n : Nat} {f : Addr} {fd : FuncData} {ps : List Str} {F : FSem} {x : Str} {p pos : Pos} {e : Expr} {es : List Expr} {fa : EvA} {qa : Bool}
theorem callS_ref {B as : List Addr} {σ : L2.St} {H : Hp} {env : List (Option SV)} {st : Sto} {svs : List SV} {vs : List V} {Q : VK} (sr : SR X.K c B as H σ ⟨env, st⟩) (r : RepSA X.K (B ++ as) as H svs vs)
    (hw : WantsG X c W (RepE X.K false) B as σ H env false Q (callS n F svs ⟨env, st⟩)) : spD X.K c n F vs H Q fun cls d H' => W cls d σ H' := by
  unfold callS at hw
  split at hw
  · rename_i hc
    obtain ⟨hn, nd⟩ := hc
    simp only at hw
    split at hw
    · rename_i objs hg
      obtain ⟨g1, g2⟩ := gather_get hg
      have hal : as.length = st.length := sr.aslen
      have hlt : ∀ (k i : Nat), (idsOf svs)[k]? = some i → i < as.length := fun k i h => by rw [hal]; exact (g2 k i h).2
      have hsub : ∀ x ∈ asC as (idsOf svs), x ∈ as := fun x h => asC_in hlt h
      refine ⟨B ++ as, asC as (idsOf svs), svs.map (renum (idsOf svs)), objs, by rw [List.length_map]; exact hn, sr.callee nd hg, repSA_renum hlt (fun i h => idsOf_mem h) r, ?_⟩
      split at hw
      · rename_i p ep
        intro v H' ev sr' rv
        exact hw v H' (ev.mono hsub) (sr.back nd hg ev sr') (Rep.avoid (fun x hx => .inl (List.mem_append_left _ hx)) _ _ rv)
      · rename_i cl s' ep
        intro H' ev sr'
        exact hw H' (ev.mono hsub) (sr.back nd hg ev sr')
      · exact hw.elim
    · exact hw.elim
  · exact hw.elim
/-- f(..) of a def of the text -/
theorem de_call (G : FnOk X.prog X.w X.K X.mg X.base CX k f fd ps (spD X.K c ps.length F)) (hr : Room k X.A) (hg : Gl X x) (hm : X.mg x = some (.ref f)) (hk : PySem.W.keepIn X.K (.ref f) = true) (hb : L2.Binds X.K fd ps [])
    (hx : ∀ σ, PassesAt CX X σ fun cls d H => W cls d σ H) (ha : DA X c W (e :: es) qa fa) (hdb : (x == ("__debug__" : Str)) = false) (he : starEach (e :: es) X.env = (false, eval e X.env) :: starEach es X.env)
    (hpl : (backTo pos (starEach es X.env)).any (·.1) = false) : DE X c W (.Call (.Name x p) (e :: es) [] pos) false false (callE ps.length F fa) := by
  obtain ⟨ta, pa, ra⟩ := ha
  refine ⟨_, pe_callSD (dvs := []) (E := fun σ cls d H => W cls d σ H) G hr hg hm hk hb .nil hx pa hdb he hpl, fun B as σ H s Q sr hw => ?_⟩
  show ta σ H fun vs H1 => spD X.K c ps.length F (vs ++ []) H1 Q _
  simp only [List.append_nil]
  unfold callE at hw
  have hw' : WantsG X c W (RepE X.K false) B as σ H s.env (qa && false) Q ((fa s).bind fun p => callS ps.length F p.1 ⟨s.env, p.2⟩) := by rw [Bool.and_false]; exact hw
  refine WantsG.bind (s := s) hw' sr ra fun vs H1 svs st1 e1 ev1 sr1 r1 hw1 => ?_
  exact callS_ref sr1 r1 hw1
end
end DL
end
section
set_option Elab.async false
set_option linter.all false
set_option maxRecDepth 100000
set_option maxHeartbeats 1000000
/-! The data layer, part g: values that may be new own objects; statements. -/
namespace DL
open PySem PySem.Spec PyProof.Rows L2 PySem.SeqAt PySem.W

/-! ### values that may be own objects -/
abbrev RV := Res (SV × Sto)
abbrev EvV := S → RV
def WantsV {α β : Type} (X : Cx) (c : Cfg) (W : WX) (R : List Addr → List Addr → Hp → α → β → Prop) (B as : List Addr) (σ : L2.St) (H : Hp) (env : List (Option SV)) (Q : β → Hp → Prop) : Res (α × Sto) → Prop
  | .ok p => ∀ v N H', Evo as H H' → (∀ a ∈ N, H a = none) → SR X.K c B (as ++ N) H' σ ⟨env, p.2⟩ → R B (as ++ N) H' p.1 v → Q v H'
  | .exc cl s' => ∀ N H', Evo as H H' → (∀ a ∈ N, H a = none) → SR X.K c B (as ++ N) H' σ ⟨env, s'.st⟩ → W (c.cls cl) none σ H'
  | .stuck => False
abbrev RepV (K : PySem.W.Frag) : List Addr → List Addr → Hp → SV → V → Prop := fun B as H d v => RepS K (B ++ as) as H d v
def DV (X : Cx) (c : Cfg) (W : WX) (e : Expr) (f : EvV) : Prop :=
  ∃ t, PE X e t ∧ ∀ (B as : List Addr) (σ : L2.St) (H : Hp) (s : S) (Q : VK), SR X.K c B as H σ s → WantsV X c W (RepV X.K) B as σ H s.env Q (f s) → t σ H Q
def DVA (X : Cx) (c : Cfg) (W : WX) (es : List Expr) (f : EvA) : Prop :=
  ∃ t, PA X es t ∧ ∀ (B as : List Addr) (σ : L2.St) (H : Hp) (s : S) (Q : List V → Hp → Prop), SR X.K c B as H σ s → WantsV X c W (RepAE X.K) B as σ H s.env Q (f s) → t σ H Q
section
variable {K : PySem.W.Frag} {c : Cfg} {B as : List Addr} {σ : L2.St} {H H1 H' : Hp} {s : S} {env : List (Option SV)} {st : Sto}
theorem SR.fresh (sr : SR K c B as H σ s) (e : Evo as H0 H) {a : Addr} (h : H a = none) : H0 a = none := by
  rcases e.free h with z | z
  · obtain ⟨u, q, _⟩ := sr.there z
    rw [h] at q; cases q
  · exact z
theorem RepS.more {N : List Addr} {sv : SV} {v : V} (h : RepS K (B ++ as) as H sv v) (hn : ∀ a ∈ N, H a = none) : RepS K (B ++ (as ++ N)) (as ++ N) H sv v := by
  have hw : ∀ x ∈ B ++ (as ++ N), x ∈ B ++ as ∨ H x = none := fun x hx => by
    rw [← List.append_assoc] at hx
    rcases List.mem_append.mp hx with z | z
    · exact .inl z
    · exact .inr (hn x z)
  cases sv with
  | pure d => exact Rep.avoid hw d v h
  | scr ds => obtain ⟨a, ws, z1, z2, z3⟩ := h; exact ⟨a, ws, z1, z2.avoid hw, RepA.avoid hw ds ws z3⟩
  | obj i =>
    obtain ⟨a, e, rfl⟩ := h
    exact ⟨a, by rw [List.getElem?_append_left (List.getElem?_eq_some_iff.mp e).1]; exact e, rfl⟩
/-- a new own object -/
theorem SR.push {a : Addr} {o : O} (sr : SR K c B as H σ ⟨env, st⟩) (hn : H a = none) (e : Evo [] H H') (ho : ORep K c.hs (a :: (B ++ as)) H' a o) : SR K c B (as ++ [a]) H' σ ⟨env, st ++ [o]⟩ := by
  have hna : a ∉ B ++ as := sr.notnew hn
  have hw : ∀ x ∈ B ++ (as ++ [a]), x ∈ B ++ as ∨ H x = none := fun x hx => by
    rw [← List.append_assoc] at hx
    rcases List.mem_append.mp hx with z | z
    · exact .inl z
    · exact .inr (by rw [List.mem_singleton.mp z]; exact hn)
  refine ⟨sr.len, fun i sv q => ?_, ?_, ?_, fun i o' a' h1 h2 => ?_, (sr.evo e).out, (sr.evo e).tabs⟩
  · obtain ⟨v, q1, q2⟩ := sr.slot i sv q
    exact ⟨v, q1, (q2.more (N := [a]) (fun x hx => by rw [List.mem_singleton.mp hx]; exact hn)).evo e (fun _ z => by cases z)⟩
  · rw [List.nodup_append]
    refine ⟨sr.nd, by simp, fun x hx y hy => ?_⟩
    rw [List.mem_singleton.mp hy]
    intro z
    exact hna (List.mem_append_right _ (by rw [← z]; exact hx))
  · rw [List.length_append, List.length_append, sr.aslen]; rfl
  · by_cases hi : i < as.length
    · rw [List.getElem?_append_left hi] at h2
      have hi' : i < st.length := by have := sr.aslen; simp only at this; omega
      rw [List.getElem?_append_left hi'] at h1
      exact ((sr.objs i o' a' h1 h2).avoid hw).evo0 e (fun _ z => by cases z) (by simp)
    · have hl := sr.aslen
      simp only at hl
      have e1 : i = as.length := by
        have := (List.getElem?_eq_some_iff.mp h2).1
        rw [List.length_append] at this
        simp at this
        omega
      subst e1
      rw [List.getElem?_append_right (Nat.le_refl _), Nat.sub_self] at h2
      simp only [List.getElem?_cons_zero, Option.some.injEq] at h2
      subst h2
      rw [hl, List.getElem?_append_right (Nat.le_refl _), Nat.sub_self] at h1
      simp only [List.getElem?_cons_zero, Option.some.injEq] at h1
      subst h1
      refine ho.avoid fun x hx => .inl ?_
      rw [← List.append_assoc] at hx
      rcases List.mem_append.mp hx with z | z
      · exact List.mem_cons_of_mem _ z
      · rw [List.mem_singleton.mp z]; exact List.mem_cons_self
end
section
variable {X : Cx} {c : Cfg} {W : WX} {B as : List Addr} {σ : L2.St} {H H1 : Hp} {env : List (Option SV)} {s : S} {e a b : Expr} {es : List Expr} {fa fb : EvD} {qa qb tr : Bool} {pos p : Pos}
section
variable {α β γ δ : Type} {R : List Addr → List Addr → Hp → α → β → Prop} {R2 : List Addr → List Addr → Hp → γ → δ → Prop}
theorem WantsV.step {N : List Addr} {Q : β → Hp → Prop} {r : Res (α × Sto)} (h : WantsV X c W R B as σ H env Q r) (e : Evo as H H1) (hn : ∀ a ∈ N, H a = none) : WantsV X c W R B (as ++ N) σ H1 env Q r := by
  have tr : ∀ {H' : Hp}, Evo (as ++ N) H1 H' → Evo as H H' := fun e' => e.trans e' fun x hx => (List.mem_append.mp hx).imp id (hn x)
  have hnn : ∀ {N2 : List Addr} {H' : Hp} {st : Sto}, (∀ a ∈ N2, H1 a = none) → SR X.K c B ((as ++ N) ++ N2) H' σ ⟨env, st⟩ → ∀ a ∈ N ++ N2, H a = none := fun {N2 H' st} h2 sr a ha => by
    rcases List.mem_append.mp ha with z | z
    · exact hn a z
    · rcases e.free (h2 a z) with y | y
      · have := List.nodup_append.mp sr.nd
        exact absurd rfl (this.2.2 a (List.mem_append_left _ y) a z)
      · exact y
  cases r with
  | ok p => exact fun v N2 H' e' h2 sr rp => h v (N ++ N2) H' (tr e') (hnn h2 sr) (by rw [← List.append_assoc]; exact sr) (by rw [← List.append_assoc]; exact rp)
  | exc cl s' => exact fun N2 H' e' h2 sr => h (N ++ N2) H' (tr e') (hnn h2 sr) (by rw [← List.append_assoc]; exact sr)
  | stuck => exact h
theorem WantsV.step0 {Q : β → Hp → Prop} {r : Res (α × Sto)} (h : WantsV X c W R B as σ H env Q r) (e : Evo as H H1) : WantsV X c W R B as σ H1 env Q r := by
  have := h.step (N := []) e (by simp)
  rwa [List.append_nil] at this
/-- behind an evaluation that makes no own object -/
theorem WantsV.bindG {f : S → Res (α × Sto)} {k : α × Sto → Res (γ × Sto)} {ta : L2.St → Hp → (β → Hp → Prop) → Prop} {qa : Bool} {Q : δ → Hp → Prop} {Q1 : β → Hp → Prop} (hw : WantsV X c W R2 B as σ H s.env Q ((f s).bind k)) (sr : SR X.K c B as H σ s)
    (ra : ∀ (B as : List Addr) (σ : L2.St) (H : Hp) (s : S) (Q : β → Hp → Prop), SR X.K c B as H σ s → WantsG X c W R B as σ H s.env qa Q (f s) → ta σ H Q)
    (h : ∀ v H1 d st1, f s = .ok (d, st1) → Evo (wq qa as) H H1 → SR X.K c B as H1 σ ⟨s.env, st1⟩ → R B as H1 d v → WantsV X c W R2 B as σ H1 s.env Q (k (d, st1)) → Q1 v H1) : ta σ H Q1 := by
  refine ra B as σ H s Q1 sr ?_
  cases e : f s with
  | stuck => rw [e] at hw; exact hw
  | exc cl s' =>
    rw [e] at hw
    exact fun H' ev sr' => hw [] H' ev (by simp) (by rw [List.append_nil]; exact sr')
  | ok p =>
    obtain ⟨d, st1⟩ := p
    rw [e] at hw
    exact fun v H1 ev sr1 rp => h v H1 d st1 e ev sr1 rp (hw.step0 (ev.mono wq_as))
theorem WantsV.bindV {f : S → Res (α × Sto)} {k : α × Sto → Res (γ × Sto)} {ta : L2.St → Hp → (β → Hp → Prop) → Prop} {Q : δ → Hp → Prop} {Q1 : β → Hp → Prop} (hw : WantsV X c W R2 B as σ H s.env Q ((f s).bind k)) (sr : SR X.K c B as H σ s)
    (ra : ∀ (B as : List Addr) (σ : L2.St) (H : Hp) (s : S) (Q : β → Hp → Prop), SR X.K c B as H σ s → WantsV X c W R B as σ H s.env Q (f s) → ta σ H Q)
    (h : ∀ v N H1 d st1, f s = .ok (d, st1) → Evo as H H1 → (∀ a ∈ N, H a = none) → SR X.K c B (as ++ N) H1 σ ⟨s.env, st1⟩ → R B (as ++ N) H1 d v → WantsV X c W R2 B (as ++ N) σ H1 s.env Q (k (d, st1)) → Q1 v H1) : ta σ H Q1 := by
  refine ra B as σ H s Q1 sr ?_
  cases e : f s with
  | stuck => rw [e] at hw; exact hw
  | exc cl s' => rw [e] at hw; exact hw
  | ok p =>
    obtain ⟨d, st1⟩ := p
    rw [e] at hw
    exact fun v N H1 ev hn sr1 rp => h v N H1 d st1 e ev hn sr1 rp (hw.step ev hn)
theorem WantsV.fin {Q : β → Hp → Prop} {d : α} {st : Sto} (hw : WantsV X c W R B as σ H env Q (.ok (d, st))) (sr : SR X.K c B as H σ ⟨env, st⟩) {v : β} {H' : Hp} (e : Evo [] H H') (r : R B as H' d v) : Q v H' :=
  hw v [] H' e.wide (by simp) (by rw [List.append_nil]; exact sr.evo e) (by rw [List.append_nil]; exact r)
/-- the end that makes a new own object -/
theorem WantsV.new {Q : VK} {o : O} {st : Sto} (hw : WantsV X c W (RepV X.K) B as σ H env Q (.ok (.obj st.length, st ++ [o]))) (sr : SR X.K c B as H σ ⟨env, st⟩) {a : Addr} {H' : Hp} (hn : H a = none) (e : Evo [] H H') (ho : ORep X.K c.hs (a :: (B ++ as)) H' a o) : Q (.ref a) H' := by
  refine hw (.ref a) [a] H' e.wide (fun x hx => by rw [List.mem_singleton.mp hx]; exact hn) (sr.push hn e ho) ⟨a, ?_, rfl⟩
  have hl := sr.aslen
  simp only at hl
  rw [← hl, List.getElem?_append_right (Nat.le_refl _), Nat.sub_self]
  rfl
end
def pureV (f : EvD) : EvV := fun s => (f s).bind fun p => .ok (.pure p.1, p.2)
theorem dv_de (h : DE X c W e false qa fa) : DV X c W e (pureV fa) := by
  obtain ⟨t, p, r⟩ := h
  refine ⟨t, p, fun B as σ H s Q sr hw => ?_⟩
  refine WantsV.bindG (s := s) hw sr r fun v H1 d st1 e1 ev1 sr1 r1 hw1 => ?_
  exact hw1.fin sr1 Evo.refl r1
def slotV (i : Nat) : EvV := fun s => match s.env[i]? with
  | some (some sv) => .ok (sv, s.st)
  | _ => .stuck
theorem dv_slot {i : Nat} {x : Str} {p : Pos} (hN : X.N[i]? = some x) (hv : Vis X.env.scope x) (hd : (x == ("__debug__" : Str)) = false) (hcd : (x == ("__classdict__" : Str)) = false) : DV X c W (.Name x p) (slotV i) := by
  refine ⟨_, pe_var hN hv hd hcd, fun B as σ H s Q sr hw => ?_⟩
  unfold slotV at hw
  split at hw
  · rename_i sv e
    obtain ⟨v, q1, q2⟩ := sr.slot i _ e
    exact ⟨v, q1, hw.fin sr Evo.refl q2⟩
  · exact hw.elim
def newL (st : Sto) (ds : List PyData) : SV × Sto := (.obj st.length, st ++ [.lst ds])
/-- a new list from values -/
def lstV (f : EvA) : EvV := fun s => (f s).bind fun p => match pureAll p.1 with
  | some ds => if ds.length ≤ 16777216 then .ok (newL p.2 ds) else .stuck
  | none => .stuck
theorem ORep.newLst {hs : PyData → Int} {K : PySem.W.Frag} {av : List Addr} {H : Hp} {ds : List PyData} {vs : List V} {p : Addr} (h : RepA K av H ds vs) (hp : H p = Option.none) : ORep K hs (p :: av) (upd H p (.lst vs)) p (.lst ds) :=
  ⟨vs, upd_same, RepA.evo (W := []) (Evo.new hp) (fun _ z => by cases z) ds vs (RepA.avoid (fun x hx => (List.mem_cons.mp hx).elim (fun z => .inr (by rw [z]; exact hp)) .inl) ds vs h)⟩
theorem dv_lst {f : EvA} (h : DA X c W es qa f) : DV X c W (.List es pos) (lstV f) := by
  obtain ⟨ta, pa, ra⟩ := h
  refine ⟨tLst ta, pe_lst pa, fun B as σ H s Q sr hw => ?_⟩
  show ta σ H _
  refine WantsV.bindG (s := s) hw sr ra fun x H1 da st1 e1 ev1 sr1 r1 hw1 => ?_
  simp only at hw1
  split at hw1
  · rename_i ds ep
    split at hw1
    · have rs := pureAll_rep ep r1
      refine ⟨by rw [sizeLine_eq, rs.length]; assumption, fun p hp => ?_⟩
      exact hw1.new sr1 hp (Evo.new hp) (ORep.newLst rs hp)
    · exact hw1.elim
  · exact hw1.elim
/-- an operator that makes a new list -/
def OpN (X : Cx) (f : Value → Value → Sem Value) (g : PyData → PyData → Option (List PyData)) : Prop :=
  ∃ r : R2, OpR X f r ∧ ∀ (H : Hp) (x y : V) (dx dy : PyData) (ds : List PyData) (av : List Addr) (Q : VK), Rep X.K av H dx x → Rep X.K av H dy y → g dx dy = some ds →
    (∀ p vs, H p = none → RepA X.K av H ds vs → Q (.ref p) (upd H p (.lst vs))) → r x y H Q
def ofOptL (o : Option (List PyData)) (st : Sto) : RV := match o with
  | some ds => .ok (newL st ds)
  | none => .stuck
def binV (g : PyData → PyData → Option (List PyData)) (fa fb : EvD) : EvV := fun s => (fa s).bind fun p => (fb ⟨s.env, p.2⟩).bind fun q => ofOptL (g p.1 q.1) q.2
theorem dv_bin {op : Operator} {g : PyData → PyData → Option (List PyData)} (h : OpN X (binaryOp op) g) (ha : DE X c W a false qa fa) (hb : DE X c W b false qb fb) : DV X c W (.BinOp a op b pos) (binV g fa fb) := by
  obtain ⟨r, hr, gr⟩ := h
  obtain ⟨ta, pa, ra⟩ := ha
  obtain ⟨tb, pb, rb⟩ := hb
  refine ⟨tOp r ta tb, pe_op hr pa pb, fun B as σ H s Q sr hw => ?_⟩
  show ta σ H _
  refine WantsV.bindG (s := s) hw sr ra fun x H1 da st1 e1 ev1 sr1 r1 hw1 => ?_
  show tb σ H1 _
  refine WantsV.bindG (s := ⟨s.env, st1⟩) hw1 sr1 rb fun y H2 db st2 e2 ev2 sr2 r2 hw2 => ?_
  cases eg : g da db with
  | none => simp only [eg] at hw2; exact hw2.elim
  | some ds =>
    simp only [eg] at hw2
    exact gr H2 x y da db ds _ Q (Rep.evo ev2 wq_sub _ _ r1) r2 eg fun p vs hp rs => WantsV.new hw2 sr2 hp (Evo.new hp) (ORep.newLst rs hp)
noncomputable def mulL : PyData → PyData → Option (List PyData)
  | .list ds, .int k => haveI := Classical.propDecidable (0 ≤ k ∧ k ≤ 4096 ∧ ds.length * k.toNat ≤ 16777216); if 0 ≤ k ∧ k ≤ 4096 ∧ ds.length * k.toNat ≤ 16777216 then some (List.replicate k.toNat ds).flatten else none
  | _, _ => none
def addL : PyData → PyData → Option (List PyData)
  | .list as, .list bs => if as.length + bs.length ≤ 16777216 then some (as ++ bs) else none
  | _, _ => none
def CallN (X : Cx) (f : Value) (g : PyData → Option (List PyData)) : Prop :=
  ∃ r, CallR X f r ∧ ∀ (H : Hp) (x : V) (dx : PyData) (ds : List PyData) (av : List Addr) (Q : VK), RepT X.K av H dx x → g dx = some ds → (∀ p vs, H p = none → RepA X.K av H ds vs → Q (.ref p) (upd H p (.lst vs))) → r [x] H Q
def un1V (g : PyData → Option (List PyData)) (fa : EvD) : EvV := fun s => (fa s).bind fun p => ofOptL (g p.1) p.2
theorem un1V_ref {g : PyData → Option (List PyData)} {ta : TE} {r : List V → Hp → VK → Prop} (hg : ∀ (H : Hp) (x : V) (dx : PyData) (ds : List PyData) (av : List Addr) (Q : VK), RepT X.K av H dx x → g dx = some ds → (∀ p vs, H p = none → RepA X.K av H ds vs → Q (.ref p) (upd H p (.lst vs))) → r [x] H Q)
    (ra : ∀ (B as : List Addr) (σ : L2.St) (H : Hp) (s : S) (Q : VK), SR X.K c B as H σ s → WantsG X c W (RepE X.K tr) B as σ H s.env qa Q (fa s) → ta σ H Q)
    {Q : VK} (sr : SR X.K c B as H σ s) (hw : WantsV X c W (RepV X.K) B as σ H s.env Q (un1V g fa s)) : tCB r (tCons ta tNil) σ H Q := by
  show ta σ H _
  refine WantsV.bindG (s := s) hw sr ra fun x H1 da st1 e1 ev1 sr1 r1 hw1 => ?_
  cases eg : g da with
  | none => simp only [eg] at hw1; exact hw1.elim
  | some ds =>
    simp only [eg] at hw1
    exact hg H1 x da ds _ _ (RepX.t r1) eg fun p vs hp rs => WantsV.new hw1 sr1 hp (Evo.new hp) (ORep.newLst rs hp)
theorem dv_callB {g : PyData → Option (List PyData)} {x : Str} {id : String} (h : CallN X (.builtin id) g) (hg : Gl X x) (hm : X.mg x = none) (hv : bootBuiltins x = some (.builtin id)) (ha : DE X c W a tr qa fa) (hs : starEach [a] X.env = (false, eval a X.env) :: starEach [] X.env)
    (hn : x ≠ "__name__") (hdb : (x == ("__debug__" : Str)) = false) : DV X c W (.Call (.Name x p) [a] [] pos) (un1V g fa) := by
  obtain ⟨r, hr, gr⟩ := h
  obtain ⟨ta, pa, ra⟩ := ha
  exact ⟨_, pe_callB hr hg hm hv (pa_cons pa pa_nil hs) hn hdb hs rfl, fun B as σ H s Q sr hw => un1V_ref gr ra sr hw⟩
theorem dv_callTy {g : PyData → Option (List PyData)} {x : Str} {T : String} (h : CallN X (.type T) g) (hg : Gl X x) (hm : X.mg x = none) (hv : bootBuiltins x = some (.type T)) (ha : DE X c W a tr qa fa) (hs : starEach [a] X.env = (false, eval a X.env) :: starEach [] X.env)
    (hn : x ≠ "__name__") (hdb : (x == ("__debug__" : Str)) = false) : DV X c W (.Call (.Name x p) [a] [] pos) (un1V g fa) := by
  obtain ⟨r, hr, gr⟩ := h
  obtain ⟨ta, pa, ra⟩ := ha
  exact ⟨_, pe_callTy hr hg hm hv (pa_cons pa pa_nil hs) hn hdb hs rfl, fun B as σ H s Q sr hw => un1V_ref gr ra sr hw⟩
def listL : PyData → Option (List PyData)
  | .list ds => some ds
  | .tuple ds => some ds
  | _ => none
theorem cn_list : CallN X (.type "list") listL := by
  refine ⟨_, call_list_of, fun H x dx d av Q r e hQ => ?_⟩
  unfold listL at e
  split at e
  · cases e
    obtain ⟨a, vs, rfl, l, rs⟩ := r.list
    exact ⟨a, vs, rfl, .inl l, fun p hp => hQ p vs hp rs⟩
  · cases e
    obtain ⟨a, vs, rfl, l, rs⟩ := r.tuple
    exact ⟨a, vs, rfl, .inr l.sq, fun p hp => hQ p vs hp rs⟩
  · cases e
theorem on_mul : OpN X (binaryOp .Mult) mulL := by
  refine ⟨_, op_rep, fun H x y dx dy ds av Q r1 r2 e hQ => ?_⟩
  unfold mulL at e
  split at e
  · split at e
    · rename_i hc
      cases e
      simp only [Rep] at r1 r2
      obtain ⟨a, vs, rfl, l1, s1⟩ := r1
      exact ⟨a, _, vs, rfl, r2, l1.1, by omega, by omega, by rw [sizeLine_eq, s1.length]; exact hc.2.2, fun p hp => hQ p _ hp (s1.flat _)⟩
    · cases e
  · cases e
theorem on_add : OpN X (binaryOp .Add) addL := by
  refine ⟨_, op_cat, fun H x y dx dy ds av Q r1 r2 e hQ => ?_⟩
  unfold addL at e
  split at e
  · split at e
    · cases e
      simp only [Rep] at r1 r2
      obtain ⟨a, vs, rfl, l1, s1⟩ := r1
      obtain ⟨b, ws, rfl, l2, s2⟩ := r2
      exact ⟨a, b, vs, ws, rfl, rfl, l1.1, l2.1, by rw [sizeLine_eq, s1.length, s2.length]; assumption, fun p hp => hQ p _ hp (s1.append s2)⟩
    · cases e
  · cases e
/-! arguments that may be new -/
theorem dva_nil : DVA X c W [] nilA := ⟨tNil, pa_nil, fun B as σ H s Q sr hw => hw.fin sr Evo.refl rfl⟩
def consV (fa : EvV) (f : EvA) : EvA := fun s => (fa s).bind fun p => (f ⟨s.env, p.2⟩).bind fun q => .ok (p.1 :: q.1, q.2)
theorem dva_cons {fa : EvV} {f : EvA} (ha : DV X c W e fa) (hr : DVA X c W es f) (hs : starEach (e :: es) X.env = (false, eval e X.env) :: starEach es X.env) : DVA X c W (e :: es) (consV fa f) := by
  obtain ⟨ta, pa, ra⟩ := ha
  obtain ⟨tb, pb, rb⟩ := hr
  refine ⟨tCons ta tb, pa_cons pa pb hs, fun B as σ H s Q sr hw => ?_⟩
  show ta σ H _
  refine WantsV.bindV (s := s) hw sr ra fun x N H1 da st1 e1 ev1 hn1 sr1 r1 hw1 => ?_
  show tb σ H1 _
  refine WantsV.bindV (s := ⟨s.env, st1⟩) hw1 sr1 rb fun ys N2 H2 db st2 e2 ev2 hn2 sr2 r2 hw2 => ?_
  refine hw2.fin sr2 Evo.refl ⟨x, ys, rfl, ?_, r2⟩
  refine (RepS.more (N := N2) r1 hn2).evo ev2 fun x hx => ?_
  exact List.mem_append_right _ (List.mem_append_left _ hx)
end
end DL
end
section
set_option Elab.async false
set_option linter.all false
set_option maxRecDepth 100000
set_option maxHeartbeats 1000000
/-! The data layer, part h: statements. -/
namespace DL
open PySem PySem.Spec PyProof.Rows L2 PySem.SeqAt PySem.W

/-- what an expression raises keeps the slots -/
def Res.bx {α β : Type} (r : Res α) (env : List (Option SV)) (k : α → Res β) : Res β := match r with
  | .ok a => k a
  | .exc c s' => .exc c ⟨env, s'.st⟩
  | .stuck => .stuck
@[simp] theorem Res.bx_ok {α β : Type} (a : α) (env : List (Option SV)) (k : α → Res β) : (Res.ok a).bx env k = k a := rfl
@[simp] theorem Res.bx_exc {α β : Type} (c : Str) (s : S) (env : List (Option SV)) (k : α → Res β) : (Res.exc c s : Res α).bx env k = .exc c ⟨env, s.st⟩ := rfl
@[simp] theorem Res.bx_stuck {α β : Type} (env : List (Option SV)) (k : α → Res β) : (Res.stuck : Res α).bx env k = .stuck := rfl
inductive Fl where
  | next | brk | cont
  | ret (sv : SV)
abbrev RS := Res (Fl × S)
abbrev EvS := Nat → S → RS
/-- B: what lives outside; P: the own objects that were there at the beginning (they stay); L: the later ones -/
structure SRL (K : PySem.W.Frag) (c : Cfg) (B P L : List Addr) (H : Hp) (σ : L2.St) (s : S) : Prop where
  sr : SR K c B (P ++ L) H σ s
  off : ∀ a ∈ L, a ∉ B ++ P
def EndsD (K : PySem.W.Frag) (B as : List Addr) (D : Ends) : Fl → L2.St → Hp → Prop
  | .next, σ, H => D.nx σ H
  | .brk, σ, H => D.bk σ H
  | .cont, σ, H => D.ct σ H
  | .ret sv, σ, H => ∀ v, RepS K (B ++ as) as H sv v → D.rt v H
def WantsS (X : Cx) (c : Cfg) (W : WX) (B P L : List Addr) (H : Hp) (D : Ends) : RS → Prop
  | .ok p => ∀ L' σ' H', Evo (P ++ L) H H' → (∀ a ∈ L', a ∈ L ∨ H a = none) → SRL X.K c B P L' H' σ' p.2 → EndsD X.K B (P ++ L') D p.1 σ' H'
  | .exc cl s' => ∀ L' σ' H', Evo (P ++ L) H H' → (∀ a ∈ L', a ∈ L ∨ H a = none) → SRL X.K c B P L' H' σ' s' → W (c.cls cl) none σ' H'
  | .stuck => False
def DS (X : Cx) (c : Cfg) (W : WX) (st : Stmt) (f : EvS) : Prop :=
  ∃ t, PS X st t ∧ ∀ (B P L : List Addr) (σ : L2.St) (H : Hp) (s : S) (D : Ends), SRL X.K c B P L H σ s → WantsS X c W B P L H D (f P.length s) → t D σ H
def DSs (X : Cx) (c : Cfg) (W : WX) (st : List Stmt) (f : EvS) : Prop :=
  ∃ t, PSs X st t ∧ ∀ (B P L : List Addr) (σ : L2.St) (H : Hp) (s : S) (D : Ends), SRL X.K c B P L H σ s → WantsS X c W B P L H D (f P.length s) → t D σ H
section
variable {X : Cx} {c : Cfg} {W : WX} {B P L L1 : List Addr} {σ : L2.St} {H H1 : Hp} {s : S} {D : Ends} {st : Stmt} {rest : List Stmt} {f g : EvS} {e : Expr} {pos : Pos} {fa fb : EvD} {q qa qb tr : Bool}
theorem SRL.fresh (srl : SRL X.K c B P L1 H σ s) {L : List Addr} {H0 : Hp} (e : Evo (P ++ L) H0 H1) {a : Addr} (hl : a ∈ L1) (h : H1 a = none) : a ∈ L ∨ H0 a = none := by
  rcases e.free h with z | z
  · rcases List.mem_append.mp z with y | y
    · exact absurd (List.mem_append_right _ y) (srl.off a hl)
    · exact .inl y
  · exact .inr z
theorem WantsS.step {r : RS} (h : WantsS X c W B P L H D r) (e : Evo (P ++ L) H H1) (fr : ∀ a ∈ L1, a ∈ L ∨ H a = none) : WantsS X c W B P L1 H1 D r := by
  have tr : ∀ {H' : Hp}, Evo (P ++ L1) H1 H' → Evo (P ++ L) H H' := fun e' => e.trans e' fun x hx => by
    rcases List.mem_append.mp hx with z | z
    · exact .inl (List.mem_append_left _ z)
    · exact (fr x z).imp (List.mem_append_right _) id
  have ff : ∀ {L' : List Addr} {H' : Hp} {σ' : L2.St} {s' : S}, (∀ a ∈ L', a ∈ L1 ∨ H1 a = none) → SRL X.K c B P L' H' σ' s' → ∀ a ∈ L', a ∈ L ∨ H a = none := fun f' srl a ha => by
    rcases f' a ha with z | z
    · exact fr a z
    · exact srl.fresh e ha z
  cases r with
  | ok p => exact fun L' σ' H' e' f' srl => h L' σ' H' (tr e') (ff f' srl) srl
  | exc cl s' => exact fun L' σ' H' e' f' srl => h L' σ' H' (tr e') (ff f' srl) srl
  | stuck => exact h
theorem WantsS.step0 {r : RS} (h : WantsS X c W B P L H D r) (e : Evo (P ++ L) H H1) : WantsS X c W B P L H1 D r := h.step e fun _ z => .inl z
section
variable {α β : Type} {R : List Addr → List Addr → Hp → α → β → Prop}
theorem WantsS.bindG {f : S → Res (α × Sto)} {k : α × Sto → RS} {ta : L2.St → Hp → (β → Hp → Prop) → Prop} {Q1 : β → Hp → Prop} (hw : WantsS X c W B P L H D ((f s).bx s.env k)) (srl : SRL X.K c B P L H σ s)
    (ra : ∀ (B as : List Addr) (σ : L2.St) (H : Hp) (s : S) (Q : β → Hp → Prop), SR X.K c B as H σ s → WantsG X c W R B as σ H s.env q Q (f s) → ta σ H Q)
    (h : ∀ v H1 d st1, f s = .ok (d, st1) → Evo (P ++ L) H H1 → SRL X.K c B P L H1 σ ⟨s.env, st1⟩ → R B (P ++ L) H1 d v → WantsS X c W B P L H1 D (k (d, st1)) → Q1 v H1) : ta σ H Q1 := by
  refine ra B (P ++ L) σ H s Q1 srl.sr ?_
  cases e : f s with
  | stuck => rw [e] at hw; exact hw
  | exc cl s' =>
    rw [e] at hw
    exact fun H' ev sr' => hw L σ H' ev (fun _ z => .inl z) ⟨sr', srl.off⟩
  | ok p =>
    obtain ⟨d, st1⟩ := p
    rw [e] at hw
    exact fun v H1 ev sr1 rp => h v H1 d st1 e (ev.mono wq_as) ⟨sr1, srl.off⟩ rp (hw.step0 (ev.mono wq_as))
theorem SRL.more {N : List Addr} {H' : Hp} {s' : S} (srl : SRL X.K c B P L H σ s) (hn : ∀ a ∈ N, H a = none) (sr : SR X.K c B ((P ++ L) ++ N) H' σ s') : SRL X.K c B P (L ++ N) H' σ s' :=
  ⟨by rw [← List.append_assoc]; exact sr, fun a ha => (List.mem_append.mp ha).elim (srl.off a) fun z y => by
    rcases List.mem_append.mp y with y | y
    · exact srl.sr.out a y (hn a z)
    · obtain ⟨u, q, _⟩ := srl.sr.there (List.mem_append_left L y)
      rw [hn a z] at q; cases q⟩
theorem WantsS.bindV {f : S → Res (α × Sto)} {k : α × Sto → RS} {ta : L2.St → Hp → (β → Hp → Prop) → Prop} {Q1 : β → Hp → Prop} (hw : WantsS X c W B P L H D ((f s).bx s.env k)) (srl : SRL X.K c B P L H σ s)
    (ra : ∀ (B as : List Addr) (σ : L2.St) (H : Hp) (s : S) (Q : β → Hp → Prop), SR X.K c B as H σ s → WantsV X c W R B as σ H s.env Q (f s) → ta σ H Q)
    (h : ∀ v N H1 d st1, f s = .ok (d, st1) → Evo (P ++ L) H H1 → SRL X.K c B P (L ++ N) H1 σ ⟨s.env, st1⟩ → R B (P ++ (L ++ N)) H1 d v → WantsS X c W B P (L ++ N) H1 D (k (d, st1)) → Q1 v H1) : ta σ H Q1 := by
  refine ra B (P ++ L) σ H s Q1 srl.sr ?_
  have fr : ∀ {N : List Addr}, (∀ a ∈ N, H a = none) → ∀ a ∈ L ++ N, a ∈ L ∨ H a = none := fun hn a ha => (List.mem_append.mp ha).imp id (hn a)
  cases e : f s with
  | stuck => rw [e] at hw; exact hw
  | exc cl s' =>
    rw [e] at hw
    exact fun N H' ev hn sr' => hw (L ++ N) σ H' ev (fr hn) (srl.more hn sr')
  | ok p =>
    obtain ⟨d, st1⟩ := p
    rw [e] at hw
    exact fun v N H1 ev hn sr1 rp => h v N H1 d st1 e ev (srl.more hn sr1) (by rw [← List.append_assoc]; exact rp) (hw.step ev (fr hn))
theorem WantsS.fin {fl : Fl} {s' : S} {σ' : L2.St} {H' : Hp} (hw : WantsS X c W B P L H D (.ok (fl, s'))) (e : Evo (P ++ L) H H') (srl : SRL X.K c B P L H' σ' s') : EndsD X.K B (P ++ L) D fl σ' H' :=
  hw L σ' H' e (fun _ z => .inl z) srl
theorem WantsS.now {fl : Fl} {s' : S} {σ' : L2.St} (hw : WantsS X c W B P L H D (.ok (fl, s'))) (srl : SRL X.K c B P L H σ' s') : EndsD X.K B (P ++ L) D fl σ' H :=
  hw.fin Evo.refl srl
end

/-! ### blocks -/
def nilS : EvS := fun _ s => .ok (.next, s)
def seqS (f g : EvS) : EvS := fun n s => match f n s with
  | .ok (.next, s1) => g n s1
  | .ok (fl, s1) => .ok (fl, s1)
  | .exc c s1 => .exc c s1
  | .stuck => .stuck
theorem dss_nil : DSs X c W [] nilS := ⟨_, pss_nil, fun B P L σ H s D srl hw => hw.now srl⟩
theorem dss_one (h : DS X c W st f) : DSs X c W [st] f := by
  obtain ⟨t, p, r⟩ := h
  exact ⟨t, pss_one p, r⟩
theorem dss_cons (h : DS X c W st f) (h2 : DSs X c W rest g) : DSs X c W (st :: rest) (seqS f g) := by
  obtain ⟨t, p, r⟩ := h
  obtain ⟨u, p2, r2⟩ := h2
  refine ⟨tSeq t u, pss_cons p p2, fun B P L σ H s D srl hw => ?_⟩
  refine r B P L σ H s _ srl ?_
  unfold seqS at hw
  cases e : f P.length s with
  | stuck => rw [e] at hw; exact hw.elim
  | exc cl s1 => rw [e] at hw; exact hw
  | ok p =>
    obtain ⟨fl, s1⟩ := p
    rw [e] at hw
    cases fl with
    | next => exact fun L' σ' H' ev fr srl' => r2 B P L' σ' H' s1 D srl' (WantsS.step hw ev fr)
    | brk => exact fun L' σ' H' ev fr srl' => hw L' σ' H' ev fr srl'
    | cont => exact fun L' σ' H' ev fr srl' => hw L' σ' H' ev fr srl'
    | ret sv => exact fun L' σ' H' ev fr srl' => hw L' σ' H' ev fr srl'
def passS : EvS := fun _ s => .ok (.next, s)
theorem ds_pass : DS X c W (.Pass pos) passS := ⟨_, ps_pass, fun B P L σ H s D srl hw => hw.now srl⟩
def brkS : EvS := fun _ s => .ok (.brk, s)
theorem ds_brk : DS X c W (.Break pos) brkS := ⟨_, ps_break, fun B P L σ H s D srl hw => hw.now srl⟩
def contS : EvS := fun _ s => .ok (.cont, s)
theorem ds_cont : DS X c W (.Continue pos) contS := ⟨_, ps_continue, fun B P L σ H s D srl hw => hw.now srl⟩
theorem ds_doc {x j pos pos'} : DS X c W (.Expr (.Constant (.str x) j pos) pos') passS := ⟨_, ps_doc, fun B P L σ H s D srl hw => hw.now srl⟩
def ifS (t : EvT) (f g : EvS) : EvS := fun n s => (t s).bx s.env fun p => if p.1 = true then f n ⟨s.env, p.2⟩ else g n ⟨s.env, p.2⟩
theorem ds_if {t : EvT} {a b : List Stmt} (ht : DT X c W e t) (ha : DSs X c W a f) (hb : DSs X c W b g) : DS X c W (.If e a b pos) (ifS t f g) := by
  obtain ⟨tt, pt, rt⟩ := ht
  obtain ⟨ta, pa, ra⟩ := ha
  obtain ⟨tb, pb, rb⟩ := hb
  refine ⟨tIfS tt ta tb, ps_if pt pa pb, fun B P L σ H s D srl hw => ?_⟩
  show tt σ H _
  refine WantsS.bindG (s := s) hw srl rt fun x H1 k st1 e1 ev1 sr1 r1 hw1 => ?_
  have z : x = k := r1
  subst z
  cases x with
  | true => rw [if_pos rfl] at hw1 ⊢; exact ra B P L σ H1 ⟨s.env, st1⟩ D sr1 hw1
  | false => rw [if_neg Bool.false_ne_true] at hw1 ⊢; exact rb B P L σ H1 ⟨s.env, st1⟩ D sr1 hw1
/-- code that is not reached -/
def neverS : EvS := fun _ _ => .stuck
theorem ds_never : DS X c W st neverS := ⟨_, ps_never, fun B P L σ H s D srl hw => hw⟩
theorem dss_never {sts : List Stmt} : DSs X c W sts neverS := ⟨_, pss_never, fun B P L σ H s D srl hw => hw⟩

/-! ### return, expressions, names -/
def retS (fa : EvV) : EvS := fun n s => (fa s).bx s.env fun p => .ok (.ret p.1, ⟨s.env, p.2⟩)
theorem ds_ret {fa : EvV} (h : DV X c W e fa) : DS X c W (.Return (some e) pos) (retS fa) := by
  obtain ⟨t, p, r⟩ := h
  refine ⟨tRet t, ps_ret p, fun B P L σ H s D srl hw => ?_⟩
  show t σ H _
  refine WantsS.bindV (s := s) hw srl r fun v N H1 d st1 e1 ev1 sr1 r1 hw1 => ?_
  exact hw1.now sr1 v r1
def retNS : EvS := fun n s => .ok (.ret (.pure .none), s)
theorem ds_retN : DS X c W (.Return none pos) retNS := ⟨_, ps_retN, fun B P L σ H s D srl hw => hw.now srl .non (by simp [RepS, Rep])⟩
def dropS (fa : EvD) : EvS := fun n s => (fa s).bx s.env fun p => .ok (.next, ⟨s.env, p.2⟩)
theorem ds_expr (h : DE X c W e tr q fa) (hs : swapsWith e none pos.line X.env = pure false) : DS X c W (.Expr e pos) (dropS fa) := by
  obtain ⟨t, p, r⟩ := h
  refine ⟨tDrop t, ps_expr p hs, fun B P L σ H s D srl hw => ?_⟩
  show t σ H _
  refine WantsS.bindG (s := s) hw srl r fun v H1 d st1 e1 ev1 sr1 r1 hw1 => ?_
  exact hw1.now sr1
theorem set_get {α : Type} {l : List α} {i j : Nat} {x y : α} (h : (l.set i x)[j]? = some y) : (i = j ∧ x = y ∧ i < l.length) ∨ (i ≠ j ∧ l[j]? = some y) := by
  by_cases e : i = j
  · subst e
    by_cases hl : i < l.length
    · rw [List.getElem?_set_self hl] at h
      exact .inl ⟨rfl, Option.some.inj h, hl⟩
    · rw [List.getElem?_eq_none (by rw [List.length_set]; omega)] at h
      cases h
  · rw [List.getElem?_set_ne e] at h
    exact .inr ⟨e, h⟩
theorem SR.setV {K : PySem.W.Frag} {as : List Addr} {i : Nat} {sv : SV} {v : V} (sr : SR K c B as H σ s) (h : RepS K (B ++ as) as H sv v) : SR K c B as H (σ.set i (some v)) ⟨s.env.set i (some sv), s.st⟩ :=
  ⟨by rw [List.length_set, List.length_set]; exact sr.len, fun j u q => by
    rcases set_get q with ⟨rfl, z, hl⟩ | ⟨hne, z⟩
    · cases z
      exact ⟨v, by rw [List.getElem?_set_self (by rw [sr.len]; exact hl)], h⟩
    · obtain ⟨w, q1, q2⟩ := sr.slot j u z
      exact ⟨w, by rw [List.getElem?_set_ne hne]; exact q1, q2⟩, sr.nd, sr.aslen, sr.objs, sr.out, sr.tabs⟩
def setS (i : Nat) (fa : EvV) : EvS := fun n s => (fa s).bx s.env fun p => .ok (.next, ⟨s.env.set i (some p.1), p.2⟩)
theorem ds_set {i : Nat} {x : Str} {pos' : Pos} {fa : EvV} (hN : X.N.Nodup) (hi : X.N[i]? = some x) (hx : Loc X.env.scope x) (h : DV X c W e fa) (hs : swapsWith e (some (.Name x pos')) pos.line X.env = pure false) (hf : X.fn x = true ∨ X.env.scope.names.lookup x = some .local) :
    DS X c W (.Assign [.Name x pos'] e pos) (setS i fa) := by
  obtain ⟨t, p, r⟩ := h
  refine ⟨_, ps_set hN hi hx p hs hf, fun B P L σ H s D srl hw => ?_⟩
  show t σ H _
  refine WantsS.bindV (s := s) hw srl r fun v N H1 d st1 e1 ev1 sr1 r1 hw1 => ?_
  exact hw1.now ⟨sr1.sr.setV r1, sr1.off⟩
/-- .. by another rule of the same reading -/
theorem ds_setBy {i : Nat} {fa : EvV} {t : TE} (p : PS X st (tAsg t (gName i))) (r : ∀ (B as : List Addr) (σ : L2.St) (H : Hp) (s : S) (Q : VK), SR X.K c B as H σ s → WantsV X c W (RepV X.K) B as σ H s.env Q (fa s) → t σ H Q) : DS X c W st (setS i fa) := by
  refine ⟨_, p, fun B P L σ H s D srl hw => ?_⟩
  show t σ H _
  refine WantsS.bindV (s := s) hw srl r fun v N H1 d st1 e1 ev1 sr1 r1 hw1 => ?_
  exact hw1.now ⟨sr1.sr.setV r1, sr1.off⟩
def parS (i j : Nat) (fa : EvA) : EvS := fun n s => (fa s).bx s.env fun p => match p.1 with
  | [a, b] => .ok (.next, ⟨(s.env.set i (some a)).set j (some b), p.2⟩)
  | _ => .stuck
theorem ds_par {i j : Nat} {x y : Str} {a b : Expr} {fa : EvA} {px py pt : Pos} {kt k2 pt2} (hc : X.calm = true) (hN : X.N.Nodup) (hi : X.N[i]? = some x) (hj : X.N[j]? = some y) (hij : i ≠ j)
    (hx : X.env.scope.names.lookup x = some .local) (hy : X.env.scope.names.lookup y = some .local) (ha : DVA X c W [a, b] fa)
    (hw : swappedStores [.Tuple [.Name x px, .Name y py] kt pt] (.Tuple [a, b] k2 pt2) X.env = pure (some [x, y]))
    (hs : swapsWithSole [.Tuple [.Name x px, .Name y py] kt pt] (.Tuple [a, b] k2 pt2) pos.line X.env = pure false) :
    DS X c W (.Assign [.Tuple [.Name x px, .Name y py] kt pt] (.Tuple [a, b] k2 pt2) pos) (parS i j fa) := by
  obtain ⟨t, p, r⟩ := ha
  refine ⟨_, ps_par hc hN hi hj hij hx hy p hw hs, fun B P L σ H s D srl hw => ?_⟩
  show t σ H _
  refine WantsS.bindV (s := s) hw srl r fun vs N H1 d st1 e1 ev1 sr1 r1 hw1 => ?_
  simp only at hw1
  split at hw1
  · obtain ⟨v, q1, rfl, h1, w, q2, rfl, h2, z⟩ := r1
    have z' : q2 = [] := z
    subst z'
    exact ⟨v, w, rfl, hw1.now ⟨(sr1.sr.setV h1).setV h2, sr1.off⟩⟩
  · exact hw1.elim
def par3S (i j l : Nat) (fa : EvA) : EvS := fun n s => (fa s).bx s.env fun p => match p.1 with
  | [a, b, d] => .ok (.next, ⟨((s.env.set i (some a)).set j (some b)).set l (some d), p.2⟩)
  | _ => .stuck
theorem ds_par3 {i j l : Nat} {x y z : Str} {a b d : Expr} {fa : EvA} {px py pz pt : Pos} {kt k2 pt2} (hc : X.calm = true) (hN : X.N.Nodup) (hi : X.N[i]? = some x) (hj : X.N[j]? = some y) (hl : X.N[l]? = some z) (hij : i ≠ j) (hil : i ≠ l) (hjl : j ≠ l)
    (hx : X.env.scope.names.lookup x = some .local) (hy : X.env.scope.names.lookup y = some .local) (hz : X.env.scope.names.lookup z = some .local) (ha : DVA X c W [a, b, d] fa)
    (hw : swappedStores [.Tuple [.Name x px, .Name y py, .Name z pz] kt pt] (.Tuple [a, b, d] k2 pt2) X.env = pure (some [x, y, z]))
    (hs : swapsWithSole [.Tuple [.Name x px, .Name y py, .Name z pz] kt pt] (.Tuple [a, b, d] k2 pt2) pos.line X.env = pure false) :
    DS X c W (.Assign [.Tuple [.Name x px, .Name y py, .Name z pz] kt pt] (.Tuple [a, b, d] k2 pt2) pos) (par3S i j l fa) := by
  obtain ⟨t, p, r⟩ := ha
  refine ⟨_, ps_par3 hc hN hi hj hl hij hil hjl hx hy hz p hw hs, fun B P L σ H s D srl hw => ?_⟩
  show t σ H _
  refine WantsS.bindV (s := s) hw srl r fun vs N H1 d st1 e1 ev1 sr1 r1 hw1 => ?_
  simp only at hw1
  split at hw1
  · obtain ⟨v, q1, rfl, h1, w, q2, rfl, h2, u, q3, rfl, h3, z⟩ := r1
    have z' : q3 = [] := z
    subst z'
    exact ⟨v, w, u, rfl, hw1.now ⟨((sr1.sr.setV h1).setV h2).setV h3, sr1.off⟩⟩
  · exact hw1.elim

/-! ### targets -/
theorem wipe_set_out {i : Nat} {x : Option V} : ∀ {vs : List Nat} {σ : L2.St}, i ∉ vs → L2.wipe (σ.set i x) vs = (L2.wipe σ vs).set i x
  | [], _, _ => rfl
  | v :: vs, σ, h => by
    show (L2.wipe (σ.set i x) vs).set v none = ((L2.wipe σ vs).set v none).set i x
    rw [wipe_set_out fun z => h (List.mem_cons_of_mem _ z), List.set_comm]
    intro z
    exact h (by rw [z]; exact List.mem_cons_self)
theorem wipe_set_in {i : Nat} {x : Option V} : ∀ {vs : List Nat} {σ : L2.St}, i ∈ vs → L2.wipe (σ.set i x) vs = L2.wipe σ vs
  | v :: vs, σ, h => by
    show (L2.wipe (σ.set i x) vs).set v none = (L2.wipe σ vs).set v none
    by_cases hi : i ∈ vs
    · rw [wipe_set_in hi]
    · rw [wipe_set_out hi]
      rcases List.mem_cons.mp h with e | e
      · rw [e, List.set_set]
      · exact absurd e hi
/-- only the slots is are touched -/
def Within (is : List Nat) (σ σ' : L2.St) : Prop := ∀ vs : List Nat, (∀ i ∈ is, i ∈ vs) → L2.wipe σ' vs = L2.wipe σ vs
abbrev GS := PyData → List (Option SV) → Option (List (Option SV))
abbrev GSs := List PyData → List (Option SV) → Option (List (Option SV))
def DG (X : Cx) (c : Cfg) (tg : Expr) (is : List Nat) (g : GS) : Prop :=
  ∃ t, PG X tg t ∧ ∀ (B as : List Addr) (σ : L2.St) (H : Hp) (s : S) (d : PyData) (v : V) (e1 : List (Option SV)) (Q : L2.St → Hp → Prop), SR X.K c B as H σ s → Rep X.K (B ++ as) H d v → g d s.env = some e1 →
    (∀ σ', SR X.K c B as H σ' ⟨e1, s.st⟩ → Within is σ σ' → Q σ' H) → t v σ H Q
def DGs (X : Cx) (c : Cfg) (ts : List Expr) (is : List Nat) (g : GSs) : Prop :=
  ∃ t, PGs X ts t ∧ ∀ (B as : List Addr) (σ : L2.St) (H : Hp) (s : S) (ds : List PyData) (vs : List V) (e1 : List (Option SV)) (Q : L2.St → Hp → Prop), SR X.K c B as H σ s → RepA X.K (B ++ as) H ds vs → g ds s.env = some e1 →
    (∀ σ', SR X.K c B as H σ' ⟨e1, s.st⟩ → Within is σ σ' → Q σ' H) → t vs σ H Q
def nameG (i : Nat) : GS := fun d env => some (env.set i (some (.pure d)))
theorem dg_name {i : Nat} {x : Str} (hN : X.N.Nodup) (hi : X.N[i]? = some x) (hx : Loc X.env.scope x) (hf : X.fn x = true ∨ X.env.scope.names.lookup x = some .local) : DG X c (.Name x pos) [i] (nameG i) :=
  ⟨_, pg_name hN hi hx hf, fun B as σ H s d v e1 Q sr rv e hQ => by
    cases e
    exact hQ _ (sr.setV (sv := .pure d) rv) fun vs h => wipe_set_in (h i (List.mem_singleton.mpr rfl))⟩
def nilG : GSs := fun ds env => match ds with
  | [] => some env
  | _ => none
def consG (g : GS) (h : GSs) : GSs := fun ds env => match ds with
  | d :: r => (g d env).bind (h r)
  | [] => none
theorem dgs_nil : DGs X c [] [] nilG := ⟨_, pgs_nil, fun B as σ H s ds vs e1 Q sr rv e hQ => by
  unfold nilG at e
  split at e
  · cases e
    simp only [RepA] at rv
    exact ⟨rv, hQ _ sr fun _ _ => rfl⟩
  · cases e⟩
theorem dgs_cons {e : Expr} {es : List Expr} {is js : List Nat} {g : GS} {h : GSs} (h1 : DG X c e is g) (h2 : DGs X c es js h) (hs : (assignEach (e :: es) X.env).map (·.2) = assign e X.env :: (assignEach es X.env).map (·.2)) : DGs X c (e :: es) (is ++ js) (consG g h) := by
  obtain ⟨t, p, r⟩ := h1
  obtain ⟨u, p2, r2⟩ := h2
  refine ⟨_, pgs_cons p p2 hs, fun B as σ H s ds vs e1 Q sr rv e hQ => ?_⟩
  unfold consG at e
  split at e
  · rename_i d ds
    simp only [RepA] at rv
    obtain ⟨v, q, rfl, h1, h2⟩ := rv
    cases eg : g d s.env with
    | none => rw [eg] at e; cases e
    | some env1 =>
      rw [eg] at e
      exact ⟨v, q, rfl, r B as σ H s d v env1 _ sr h1 eg fun σ' sr' w' => r2 B as σ' H ⟨env1, s.st⟩ ds q e1 Q sr' h2 e fun σ2 sr2 w2 => hQ σ2 sr2 fun vs hv => (w2 vs fun i hi => hv i (List.mem_append_right _ hi)).trans (w' vs fun i hi => hv i (List.mem_append_left _ hi))⟩
  · cases e
def tupG (n : Nat) (h : GSs) : GS := fun d env => match d with
  | .tuple ds => if ds.length = n then h ds env else none
  | _ => none
theorem dg_tup {es : List Expr} {k : Nat} {is : List Nat} {h : GSs} {n : Nat} (hc : X.calm = true) (hg : DGs X c es is h)
    (hn : (assignEach es X.env).length = n) (hst : (assignEach es X.env).findIdx? (·.1) = none) : DG X c (.Tuple es k pos) is (tupG n h) := by
  obtain ⟨t, p, r⟩ := hg
  refine ⟨_, pg_tup hc p hn hst, fun B as σ H s d v e1 Q sr rv e hQ => ?_⟩
  unfold tupG at e
  split at e
  · split at e
    · rename_i ds hl
      obtain ⟨a, vs, rfl, l, rs⟩ := (Rep.t rv).tuple
      exact ⟨a, vs, rfl, l.sq, by rw [rs.length]; exact hl, r B as σ H s ds vs e1 Q sr rs e hQ⟩
    · cases e
  · cases e
/-- (a, b, ..) = a tuple -/
def asgS (fa : EvD) (g : GS) : EvS := fun n s => (fa s).bx s.env fun p => match g p.1 s.env with
  | some e1 => .ok (.next, ⟨e1, p.2⟩)
  | none => .stuck
theorem ds_asg {tg : Expr} {is : List Nat} {g : GS} (h : DE X c W e false q fa) (hg : DG X c tg is g) (hs : swapsWithSole [tg] e pos.line X.env = pure false) (hw : swappedStores [tg] e X.env = pure none) (h1 : (assignEach [tg] X.env).map (·.2) = [assign tg X.env]) :
    DS X c W (.Assign [tg] e pos) (asgS fa g) := by
  obtain ⟨t, p, r⟩ := h
  obtain ⟨u, p2, r2⟩ := hg
  refine ⟨_, ps_asg p p2 hs hw h1, fun B P L σ H s D srl hw => ?_⟩
  show t σ H _
  refine WantsS.bindG (s := s) hw srl r fun v H1 d st1 e1 ev1 sr1 r1 hw1 => ?_
  simp only at hw1
  split at hw1
  · rename_i env1 eg
    exact r2 B (P ++ L) σ H1 ⟨s.env, st1⟩ d v env1 _ sr1.sr r1 eg fun σ' sr' _ => hw1.now ⟨sr', sr1.off⟩
  · exact hw1.elim

/-! ### own objects are changed -/
theorem SR.write {K : PySem.W.Frag} {as : List Addr} {j : Nat} {a : Addr} {o : O} {u : HO} (sr : SR K c B as H σ s) (hj : as[j]? = some a) (ho : ORep K c.hs (B ++ as) (upd H a u) a o) : Evo as H (upd H a u) ∧ SR K c B as (upd H a u) σ ⟨s.env, s.st.set j o⟩ := by
  have hm : a ∈ as := List.mem_of_getElem? hj
  obtain ⟨w, hw, ht⟩ := sr.there hm
  have ev : Evo [a] H (upd H a u) := Evo.at hw ht (List.mem_singleton.mpr rfl)
  have hs : ∀ x ∈ [a], x ∈ B ++ as := fun x hx => by rw [List.mem_singleton.mp hx]; exact List.mem_append_right _ hm
  refine ⟨Evo.at hw ht hm, sr.len, fun i sv q => ?_, sr.nd, by rw [List.length_set]; exact sr.aslen, fun i o' a' h1 h2 => ?_, fun x hx z => ?_, sr.tabs.evo ev⟩
  · obtain ⟨v, q1, q2⟩ := sr.slot i sv q
    exact ⟨v, q1, q2.evo ev hs⟩
  · rcases set_get h1 with ⟨rfl, z, _⟩ | ⟨hne, z⟩
    · subst z
      rw [hj] at h2
      cases h2
      exact ho
    · refine (sr.objs i o' a' z h2).evo0 ev hs fun y => hne ?_
      rw [List.mem_singleton.mp y] at h2
      exact nodup_at sr.nd hj h2
  · by_cases e : x = a
    · rw [e, upd_same] at z; cases z
    · rw [upd_ne e] at z; exact sr.out x hx z
theorem SR.writeL {K : PySem.W.Frag} {as : List Addr} {j : Nat} {a : Addr} {ds : List PyData} {vs : List V} (sr : SR K c B as H σ s) (hj : as[j]? = some a) (rs : RepA K (B ++ as) H ds vs) : Evo as H (upd H a (.lst vs)) ∧ SR K c B as (upd H a (.lst vs)) σ ⟨s.env, s.st.set j (.lst ds)⟩ := by
  have hm : a ∈ as := List.mem_of_getElem? hj
  obtain ⟨w, hw, ht⟩ := sr.there hm
  have ev : Evo [a] H (upd H a (.lst vs)) := Evo.at hw ht (List.mem_singleton.mpr rfl)
  exact sr.write hj ⟨vs, upd_same, RepA.evo ev (fun x hx => by rw [List.mem_singleton.mp hx]; exact List.mem_append_right _ hm) ds vs rs⟩
/-- the own object at slot i -/
def objAt (env : List (Option SV)) (i : Nat) : Option Nat := match env[i]? with
  | some (some (.obj j)) => some j
  | _ => none
theorem objAt_get {K : PySem.W.Frag} {as : List Addr} {i j : Nat} (sr : SR K c B as H σ s) (h : objAt s.env i = some j) : ∃ a, σ[i]? = some (some (.ref a)) ∧ as[j]? = some a := by
  unfold objAt at h
  split at h
  · rename_i j' e
    cases h
    obtain ⟨v, q1, a, q2, rfl⟩ := sr.slot i _ e
    exact ⟨a, q1, q2⟩
  · cases h
/-- x[i] = e -/
def stoS (i : Nat) (fi fe : EvD) : EvS := fun n s => (fe s).bx s.env fun p => match objAt s.env i with
  | some j => (fi ⟨s.env, p.2⟩).bx s.env fun q => (match q.1, q.2[j]? with
    | .int k, some (.lst ds) => (match ixN ds.length k with
      | some t => .ok (.next, ⟨s.env, q.2.set j (.lst (ds.set t p.1))⟩)
      | none => .stuck)
    | _, _ => .stuck)
  | none => .stuck
theorem ds_sto {i : Nat} {x : Str} {ie : Expr} {p1 p2 : Pos} {fi : EvD} (hN : X.N[i]? = some x) (hv : Vis X.env.scope x) (hd : (x == ("__debug__" : Str)) = false) (hcd : (x == ("__classdict__" : Str)) = false) (hi : DE X c W ie false qb fi) (he : DE X c W e false q fa)
    (ha : ∀ v, assign (.Subscript (.Name x p1) ie p2) X.env v = (do
      let ov ← holding [v] (eval (.Name x p1) X.env)
      let iv ← holding [v, ov] (eval ie X.env)
      standAt p2
      holding [v, ov, iv] (setItem ov iv v)
      release [v, ov, iv] [])) (hs : swapsWithSole [.Subscript (.Name x p1) ie p2] e pos.line X.env = pure false) (hw : swappedStores [.Subscript (.Name x p1) ie p2] e X.env = pure none)
    (h1 : (assignEach [.Subscript (.Name x p1) ie p2] X.env).map (·.2) = [assign (.Subscript (.Name x p1) ie p2) X.env]) :
    DS X c W (.Assign [.Subscript (.Name x p1) ie p2] e pos) (stoS i fi fa) := by
  obtain ⟨te, pe, re⟩ := he
  obtain ⟨ti, pi, ri⟩ := hi
  refine ⟨_, ps_asg pe (pg_sub (pe_var hN hv hd hcd) pi set_list ha) hs hw h1, fun B P L σ H s D srl hw => ?_⟩
  show te σ H _
  refine WantsS.bindG (s := s) hw srl re fun v H1 d st1 e1 ev1 sr1 r1 hw1 => ?_
  show tVar i σ H1 _
  simp only at hw1
  cases ej : objAt s.env i with
  | none => rw [ej] at hw1; exact hw1.elim
  | some j =>
    rw [ej] at hw1
    obtain ⟨a, q1, q2⟩ := objAt_get sr1.sr ej
    refine ⟨_, q1, ?_⟩
    show ti σ H1 _
    refine WantsS.bindG (s := ⟨s.env, st1⟩) hw1 sr1 ri fun y H2 d2 st2 e2 ev2 sr2 r2 hw2 => ?_
    simp only at hw2
    split at hw2
    · rename_i k ds el
      split at hw2
      · rename_i t et
        have z : y = .int k := by simpa [RepE, RepX, Rep] using r2
        subst z
        obtain ⟨vs, h1, h2⟩ := sr2.sr.objs j _ a el q2
        have rv : Rep X.K (B ++ (P ++ L)) H2 d v := Rep.evo ev2 (fun x hx => List.mem_append_right _ hx) _ _ r1
        obtain ⟨w1, w2⟩ := sr2.sr.writeL q2 (RepA.set t h2 rv)
        refine ⟨a, vs, k, t, rfl, rfl, h1, by rw [h2.length]; exact et, ?_⟩
        exact hw2.fin w1 ⟨w2, sr2.off⟩
      · exact hw2.elim
    · exact hw2.elim
/-! methods of own lists, as expressions -/
theorem WantsG.bindL {α β γ δ : Type} {R : List Addr → List Addr → Hp → α → β → Prop} {R2 : List Addr → List Addr → Hp → γ → δ → Prop} {as : List Addr} {f : S → Res (α × Sto)} {k : α × Sto → Res (γ × Sto)} {ta : L2.St → Hp → (β → Hp → Prop) → Prop} {qa : Bool} {Q : δ → Hp → Prop} {Q1 : β → Hp → Prop} (hw : WantsG X c W R2 B as σ H s.env false Q ((f s).bind k)) (sr : SR X.K c B as H σ s)
    (ra : ∀ (B as : List Addr) (σ : L2.St) (H : Hp) (s : S) (Q : β → Hp → Prop), SR X.K c B as H σ s → WantsG X c W R B as σ H s.env qa Q (f s) → ta σ H Q)
    (h : ∀ v H1 d st1, f s = .ok (d, st1) → Evo (wq qa as) H H1 → SR X.K c B as H1 σ ⟨s.env, st1⟩ → R B as H1 d v → WantsG X c W R2 B as σ H1 s.env false Q (k (d, st1)) → Q1 v H1) : ta σ H Q1 :=
  WantsG.bind (qb := false) (by rw [Bool.and_false]; exact hw) sr ra h
def isLst : Option O → Bool
  | some (.lst _) => true
  | _ => false
theorem SR.isList {K : PySem.W.Frag} {as : List Addr} {j : Nat} {a : Addr} (sr : SR K c B as H σ s) (hj : as[j]? = some a) (h : isLst s.st[j]? = true) : ∃ xs, SqL K H a xs := by
  cases e : s.st[j]? with
  | none => rw [e] at h; cases h
  | some o =>
    cases o with
    | lst ds => obtain ⟨vs, q, _⟩ := sr.objs j _ a e hj; exact ⟨vs, .of q⟩
    | dK _ => rw [e] at h; cases h
    | dM _ => rw [e] at h; cases h
    | dead => rw [e] at h; cases h
/-- x.append(e) -/
def appE (i : Nat) (fe : EvD) : EvD := fun s => match objAt s.env i with
  | some j => if isLst s.st[j]? = true then (fe s).bind fun p => (match p.2[j]? with
    | some (.lst ds) => if ds.length < 16777216 then .ok (.none, p.2.set j (.lst (ds ++ [p.1]))) else .stuck
    | _ => .stuck) else .stuck
  | none => .stuck
theorem de_app {i : Nat} {x : Str} {p1 apos cpos : Pos} {fe : EvD} (hN : X.N[i]? = some x) (hv : Vis X.env.scope x) (hd : (x == ("__debug__" : Str)) = false) (hcd : (x == ("__classdict__" : Str)) = false) (he : DE X c W e false q fe)
    (hbase : attributeBase (.Name x p1) "append" X.env (eval (.Name x p1) X.env) = eval (.Name x p1) X.env)
    (hfew : ((backTo cpos (starEach [e] X.env)).all (fun x => !x.1) && (backToKw cpos (keywordEach [] X.env)).all (fun x => x.1.isSome)
      && decide ([e].length + ([] : List Keyword).length + (if ([] : List Keyword).isEmpty then 0 else 1) < 30)) = true)
    (hline : (apos.endLine == cpos.line) = true) (hs : starEach [e] X.env = (false, eval e X.env) :: starEach [] X.env) : DE X c W (.Call (.Attribute (.Name x p1) "append" apos) [e] [] cpos) false false (appE i fe) := by
  obtain ⟨te, pe, re⟩ := he
  refine ⟨_, pe_bm PySem.F.plainAttrs_list PySem.F.slot_list_append PySem.F.type_list_append mt_append (pe_var hN hv hd hcd) (pa_cons pe pa_nil hs) hbase hfew hline hs rfl, fun B as σ H s Q sr hw => ?_⟩
  unfold appE at hw
  cases ej : objAt s.env i with
  | none => rw [ej] at hw; exact hw.elim
  | some j =>
    rw [ej] at hw
    simp only at hw
    split at hw
    · rename_i hl
      obtain ⟨a, q1, q2⟩ := objAt_get sr ej
      refine ⟨_, q1, .inl ⟨rfl, sr.isList q2 hl⟩, ?_⟩
      show te σ H _
      refine WantsG.bindL (s := s) hw sr re fun y H1 d1 st1 e1 ev1 sr1 r1 hw1 => ?_
      simp only at hw1
      split at hw1
      · rename_i ds el
        split at hw1
        · rename_i hlt
          obtain ⟨vs, h1, h2⟩ := sr1.objs j _ a el q2
          obtain ⟨w1, w2⟩ := sr1.writeL q2 (h2.append (.cons r1 .nil))
          exact ⟨a, vs, y, rfl, rfl, h1, by rw [sizeLine_eq, h2.length]; exact hlt, hw1 _ _ w1 w2 (by simp [RepE, RepX, Rep])⟩
        · exact hw1.elim
      · exact hw1.elim
    · exact hw.elim
/-- x.pop() -/
def popE (i : Nat) : EvD := fun s => match objAt s.env i with
  | some j => (match s.st[j]? with
    | some (.lst ds) => (match ds[ds.length - 1]? with
      | some d => .ok (d, s.st.set j (.lst ds.dropLast))
      | none => .stuck)
    | _ => .stuck)
  | none => .stuck
theorem de_pop {i : Nat} {x : Str} {p1 apos cpos : Pos} (hN : X.N[i]? = some x) (hv : Vis X.env.scope x) (hd : (x == ("__debug__" : Str)) = false) (hcd : (x == ("__classdict__" : Str)) = false)
    (hbase : attributeBase (.Name x p1) "pop" X.env (eval (.Name x p1) X.env) = eval (.Name x p1) X.env) (hline : (apos.endLine == cpos.line) = true) :
    DE X c W (.Call (.Attribute (.Name x p1) "pop" apos) [] [] cpos) false false (popE i) := by
  refine ⟨_, pe_bm0 PySem.F.plainAttrs_list PySem.F.slot_list_pop PySem.F.type_list_pop mt_pop (pe_var hN hv hd hcd) hbase hline, fun B as σ H s Q sr hw => ?_⟩
  unfold popE at hw
  cases ej : objAt s.env i with
  | none => rw [ej] at hw; exact hw.elim
  | some j =>
    rw [ej] at hw
    simp only at hw
    split at hw
    · rename_i ds el
      split at hw
      · rename_i d ed
        obtain ⟨a, q1, q2⟩ := objAt_get sr ej
        obtain ⟨vs, h1, h2⟩ := sr.objs j _ a el q2
        obtain ⟨v, hv2, rv⟩ := h2.get ed
        refine ⟨_, q1, .inl ⟨rfl, vs, .of h1⟩, a, vs, v, rfl, rfl, h1, by rw [h2.length]; exact hv2, ?_⟩
        obtain ⟨w1, w2⟩ := sr.writeL q2 h2.dropLast
        have hm := List.mem_of_getElem? q2
        exact hw _ _ w1 w2 (Rep.evo w1 (fun x hx => List.mem_append_right _ hx) _ _ rv)
      · exact hw.elim
    · exact hw.elim

/-! ### an own list is given away: from here on it is data -/
def unown (j : Nat) (ds : List PyData) : Option SV → Option SV
  | some (.obj k) => if k = j then some (.pure (.list ds)) else if j < k then some (.obj (k - 1)) else some (.obj k)
  | x => x
def frzAt (j : Nat) (ds : List PyData) (s : S) : S := ⟨s.env.map (unown j ds), s.st.eraseIdx j⟩
theorem SRL.freeze {j : Nat} {ds : List PyData} (srl : SRL X.K c B P L H σ s) (hj : P.length ≤ j) (h : s.st[j]? = some (.lst ds)) : SRL X.K c B P (L.eraseIdx (j - P.length)) H σ (frzAt j ds s) := by
  have hal := srl.sr.aslen
  have hjl : j < (P ++ L).length := by rw [hal]; exact (List.getElem?_eq_some_iff.mp h).1
  obtain ⟨a, ha⟩ : ∃ a, (P ++ L)[j]? = some a := ⟨_, List.getElem?_eq_getElem hjl⟩
  have haL : L[j - P.length]? = some a := by rw [← List.getElem?_append_right hj]; exact ha
  have haL' : a ∈ L := List.mem_of_getElem? haL
  have hcut : P ++ L.eraseIdx (j - P.length) = (P ++ L).eraseIdx j := by rw [List.eraseIdx_append_of_length_le hj]
  have hsub : ∀ x ∈ (P ++ L).eraseIdx j, x ∈ P ++ L := fun x hx => List.mem_of_mem_eraseIdx hx
  have hav : ∀ x ∈ B ++ (P ++ L).eraseIdx j, x ∈ B ++ (P ++ L) ∨ H x = none := fun x hx => .inl (by
    rcases List.mem_append.mp hx with z | z
    · exact List.mem_append_left _ z
    · exact List.mem_append_right _ (hsub x z))
  have hnot : a ∉ (P ++ L).eraseIdx j := fun z => by
    obtain ⟨k, hk, e⟩ := List.getElem_of_mem z
    have e' : ((P ++ L).eraseIdx j)[k]? = some a := by rw [List.getElem?_eq_getElem hk, e]
    rw [List.getElem?_eraseIdx] at e'
    split at e'
    · have := nodup_at srl.sr.nd e' ha; omega
    · have := nodup_at srl.sr.nd e' ha; omega
  obtain ⟨ws, hw1, hw2⟩ := srl.sr.objs j _ a h ha
  refine ⟨?_, fun x hx => srl.off x (List.mem_of_mem_eraseIdx hx)⟩
  rw [hcut]
  refine ⟨by show σ.length = (s.env.map _).length; rw [List.length_map]; exact srl.sr.len, fun i sv q => ?_, srl.sr.nd.eraseIdx j, ?_, fun i o x h1 h2 => ?_, srl.sr.out, srl.sr.tabs⟩
  · have q' : (s.env.map (unown j ds))[i]? = some (some sv) := q
    rw [List.getElem?_map] at q'
    cases eo : s.env[i]? with
    | none => rw [eo] at q'; cases q'
    | some osv =>
      rw [eo] at q'
      simp only [Option.map_some, Option.some.injEq] at q'
      cases osv with
      | none => cases q'
      | some sv0 =>
        obtain ⟨v, q1, q2⟩ := srl.sr.slot i _ eo
        cases sv0 with
        | pure d =>
          cases q'
          exact ⟨v, q1, Rep.avoid hav d v q2⟩
        | scr d =>
          cases q'
          obtain ⟨p, us, z1, z2, z3⟩ := q2
          exact ⟨v, q1, p, us, z1, z2.avoid hav, RepA.avoid hav _ us z3⟩
        | obj k =>
          obtain ⟨b, hb, rfl⟩ := q2
          unfold unown at q'
          simp only at q'
          split at q'
          · rename_i hkj
            cases q'
            subst hkj
            rw [ha] at hb
            cases hb
            refine ⟨_, q1, ?_⟩
            simp only [RepS, Rep]
            refine ⟨a, ws, rfl, ⟨hw1, fun z => ?_⟩, RepA.avoid hav ds ws hw2⟩
            rcases List.mem_append.mp z with z | z
            · exact srl.off a haL' (List.mem_append_left _ z)
            · exact hnot z
          · split at q'
            · cases q'
              refine ⟨_, q1, b, ?_, rfl⟩
              rw [List.getElem?_eraseIdx]
              rw [if_neg (by omega), show k - 1 + 1 = k by omega]
              exact hb
            · cases q'
              refine ⟨_, q1, b, ?_, rfl⟩
              rw [List.getElem?_eraseIdx, if_pos (by omega)]
              exact hb
  · show _ = (s.st.eraseIdx j).length
    rw [List.length_eraseIdx, List.length_eraseIdx, hal]
  · have h1' : (s.st.eraseIdx j)[i]? = some o := h1
    rw [List.getElem?_eraseIdx] at h1' h2
    split at h1'
    · rename_i hlt
      rw [if_pos hlt] at h2
      exact (srl.sr.objs i o x h1' h2).avoid hav
    · rename_i hlt
      rw [if_neg hlt] at h2
      exact (srl.sr.objs (i + 1) o x h1' h2).avoid hav
/-- ahead of a statement: the own list at slot i is given away -/
def fzS (i : Nat) (f : EvS) : EvS := fun n s => match objAt s.env i with
  | some j => if n ≤ j then (match s.st[j]? with
    | some (.lst ds) => f n (frzAt j ds s)
    | _ => .stuck) else .stuck
  | none => .stuck
theorem ds_fz {i : Nat} (h : DS X c W st f) : DS X c W st (fzS i f) := by
  obtain ⟨t, p, r⟩ := h
  refine ⟨t, p, fun B P L σ H s D srl hw => ?_⟩
  unfold fzS at hw
  split at hw
  · rename_i j ej
    split at hw
    · rename_i hj
      split at hw
      · rename_i ds ed
        exact r B P _ σ H _ D (srl.freeze hj ed) (WantsS.step hw Evo.refl fun a ha => .inl (List.mem_of_mem_eraseIdx ha))
      · exact hw.elim
    · exact hw.elim
  · exact hw.elim
end
end DL
end
section
set_option Elab.async false
set_option linter.all false
set_option maxRecDepth 100000
set_option maxHeartbeats 1000000
/-! The data layer, part i: loops, iterables. -/
namespace DL
open PySem PySem.Spec PyProof.Rows L2 PySem.SeqAt PySem.W

/-! ### the state behind a turn: names are forgotten, new objects too -/
def keepSV (n : Nat) : Option SV → Option SV
  | some (.obj j) => if j < n then some (.obj j) else none
  | x => x
def wipeE (ws : List Nat) (n : Nat) : Nat → List (Option SV) → List (Option SV)
  | _, [] => []
  | k, x :: r => (if ws.contains k = true then none else keepSV n x) :: wipeE ws n (k + 1) r
def wipeS (ws : List Nat) (n : Nat) (s : S) : S := ⟨wipeE ws n 0 s.env, s.st.take n⟩
theorem wipeE_len (ws : List Nat) (n : Nat) : ∀ (k : Nat) (env : List (Option SV)), (wipeE ws n k env).length = env.length
  | _, [] => rfl
  | k, x :: r => by simp [wipeE, wipeE_len ws n (k + 1) r]
theorem wipeE_get (ws : List Nat) (n : Nat) : ∀ (k : Nat) (env : List (Option SV)) (i : Nat) (sv : SV), (wipeE ws n k env)[i]? = some (some sv) → env[i]? = some (some sv) ∧ ∀ j, sv = .obj j → j < n
  | _, [], i, sv, h => by simp [wipeE] at h
  | k, x :: r, 0, sv, h => by
    simp only [wipeE, List.getElem?_cons_zero, Option.some.injEq] at h ⊢
    split at h
    · cases h
    · unfold keepSV at h
      split at h
      · split at h
        · rename_i hlt
          cases h
          exact ⟨rfl, fun j e => by cases e; exact hlt⟩
        · cases h
      · rename_i hx
        exact ⟨h, fun j e => absurd (by rw [h, e]) (hx j)⟩
  | k, x :: r, i + 1, sv, h => by
    simp only [wipeE, List.getElem?_cons_succ] at h ⊢
    exact wipeE_get ws n (k + 1) r i sv h
section
variable {X : Cx} {c : Cfg} {W : WX} {B P L as : List Addr} {σ : L2.St} {H H1 : Hp} {s : S} {D : Ends}
theorem SRL.wipe {L' : List Addr} (srl : SRL X.K c B as L' H σ s) (ws : List Nat) : SR X.K c B as H σ (wipeS ws as.length s) := by
  have hal := srl.sr.aslen
  rw [List.length_append] at hal
  have hav : ∀ x ∈ B ++ as, x ∈ B ++ (as ++ L') ∨ H x = none := fun x hx => .inl (by rw [← List.append_assoc]; exact List.mem_append_left _ hx)
  refine ⟨by rw [srl.sr.len]; exact (wipeE_len ..).symm, fun i sv q => ?_, (List.nodup_append.mp srl.sr.nd).1, by show as.length = (s.st.take as.length).length; rw [List.length_take]; omega, fun i o a h1 h2 => ?_, srl.sr.out, srl.sr.tabs⟩
  · obtain ⟨q1, q2⟩ := wipeE_get ws as.length 0 s.env i sv q
    obtain ⟨v, h1, h2⟩ := srl.sr.slot i sv q1
    refine ⟨v, h1, ?_⟩
    cases sv with
    | pure d => exact Rep.avoid hav d v h2
    | scr ds => obtain ⟨p, us, z1, z2, z3⟩ := h2; exact ⟨p, us, z1, z2.avoid hav, RepA.avoid hav _ us z3⟩
    | obj j =>
      obtain ⟨a, e, rfl⟩ := h2
      exact ⟨a, by rw [List.getElem?_append_left (q2 j rfl)] at e; exact e, rfl⟩
  · have h1' : (s.st.take as.length)[i]? = some o := h1
    have hi := (List.getElem?_eq_some_iff.mp h2).1
    rw [List.getElem?_take_of_lt hi] at h1'
    exact (srl.sr.objs i o a h1' (by rw [List.getElem?_append_left hi]; exact h2)).avoid hav
/-- the inside of a loop: all that is there stays -/
theorem SRL.inn (srl : SRL X.K c B P L H σ s) : SRL X.K c B (P ++ L) [] H σ s := ⟨by rw [List.append_nil]; exact srl.sr, fun _ h => by cases h⟩
theorem SRL.outL {L' : List Addr} (srl : SRL X.K c B (P ++ L) L' H σ s) (off : ∀ a ∈ L, a ∉ B ++ P) : SRL X.K c B P (L ++ L') H σ s :=
  ⟨by rw [← List.append_assoc]; exact srl.sr, fun a ha => (List.mem_append.mp ha).elim (off a) fun z y => srl.off a z (by rw [← List.append_assoc]; exact List.mem_append_left _ y)⟩
theorem fr_out {L' : List Addr} (h : ∀ a ∈ L', a ∈ ([] : List Addr) ∨ H a = none) : ∀ a ∈ L ++ L', a ∈ L ∨ H a = none := fun a ha => (List.mem_append.mp ha).imp id fun z => (h a z).resolve_left (by simp)

/-- what turns and ends of a body mean for a loop; k: the next turn -/
def turnS (ws : List Nat) (n : Nat) (k : S → RS) : RS → RS
  | .ok (.next, s2) => k (wipeS ws n s2)
  | .ok (.cont, s2) => k (wipeS ws n s2)
  | .ok (.brk, s2) => .ok (.next, s2)
  | .ok (.ret sv, s2) => .ok (.ret sv, s2)
  | .exc c s2 => .exc c s2
  | .stuck => .stuck
/-- a body, within a loop: N says what is wanted of the next turn -/
theorem turn_ref {ws : List Nat} {k : S → RS} {r : RS} {N : L2.St → Hp → Prop} (off : ∀ a ∈ L, a ∉ B ++ P) (hw : WantsS X c W B P L H D (turnS ws (P ++ L).length k r))
    (hN : ∀ σ' H' s', Evo (P ++ L) H H' → SR X.K c B (P ++ L) H' σ' s' → WantsS X c W B P L H' D (k s') → N σ' H') : WantsS X c W B (P ++ L) [] H { D with nx := N, ct := N, bk := D.nx } r := by
  have ev : ∀ {H' : Hp}, Evo ((P ++ L) ++ []) H H' → Evo (P ++ L) H H' := fun e => by rwa [List.append_nil] at e
  cases r with
  | stuck => exact hw
  | exc cl s2 => exact fun L' σ' H' e fr srl => hw (L ++ L') σ' H' (ev e) (fr_out fr) (srl.outL off)
  | ok p =>
    obtain ⟨fl, s2⟩ := p
    cases fl with
    | next => exact fun L' σ' H' e fr srl => hN σ' H' _ (ev e) (srl.wipe ws) (WantsS.step0 hw (ev e))
    | cont => exact fun L' σ' H' e fr srl => hN σ' H' _ (ev e) (srl.wipe ws) (WantsS.step0 hw (ev e))
    | brk => exact fun L' σ' H' e fr srl => hw (L ++ L') σ' H' (ev e) (fr_out fr) (srl.outL off)
    | ret sv => exact fun L' σ' H' e fr srl v rv => hw (L ++ L') σ' H' (ev e) (fr_out fr) (srl.outL off) v (by rw [show P ++ (L ++ L') = (P ++ L) ++ L' from (List.append_assoc ..).symm]; exact rv)

/-! ### loops come to their end -/
open Classical in
noncomputable def lim {α : Type} (f : Nat → Res α) : Res α := if h : ∃ m, f m ≠ .stuck then f (choose h) else .stuck
theorem lim_some {α : Type} {f : Nat → Res α} (h : lim f ≠ .stuck) : ∃ m, lim f = f m := by
  unfold lim at h ⊢
  split
  · rename_i h'; exact ⟨_, rfl⟩
  · rename_i h'; rw [dif_neg h'] at h; exact absurd rfl h
theorem lim_eq {α : Type} {f : Nat → Res α} {m : Nat} {r : Res α} (mono : ∀ m, f m ≠ .stuck → f (m + 1) = f m) (h : f m = r) (hr : r ≠ .stuck) : lim f = r := by
  have up : ∀ a k, f a ≠ .stuck → f (a + k) = f a := by
    intro a k ha
    induction k with
    | zero => rfl
    | succ k ih => rw [← Nat.add_assoc, mono _ (by rw [ih]; exact ha), ih]
  have hx : ∃ m, f m ≠ .stuck := ⟨m, by rw [h]; exact hr⟩
  unfold lim
  rw [dif_pos hx]
  have hc := Classical.choose_spec hx
  rcases Nat.le_total (Classical.choose hx) m with z | z
  · have := up _ (m - Classical.choose hx) hc
    rw [show Classical.choose hx + (m - Classical.choose hx) = m by omega, h] at this
    exact this.symm
  · have := up m (Classical.choose hx - m) (by rw [h]; exact hr)
    rw [show m + (Classical.choose hx - m) = Classical.choose hx by omega] at this
    rw [this, h]
/-! ### while -/
def whileN (t : EvT) (body : EvS) (ws : List Nat) : Nat → S → RS
  | 0, _ => .stuck
  | m + 1, s => (t s).bx s.env fun p => if p.1 = true then turnS ws p.2.length (whileN t body ws m) (body p.2.length ⟨s.env, p.2⟩) else .ok (.next, ⟨s.env, p.2⟩)
noncomputable def whileS (t : EvT) (body : EvS) (ws : List Nat) : EvS := fun _ s => lim fun m => whileN t body ws m s
theorem ds_while {e : Expr} {body : List Stmt} {pos : Pos} {t : EvT} {f : EvS} (ws : List Nat) (hp : PassesOwn (model X.prog X.w) X.A X.env X.xe) (ht : DT X c W e t) (hb : DSs X c W body f) : DS X c W (.While e body [] pos) (whileS t f ws) := by
  obtain ⟨tt, pt, rt⟩ := ht
  obtain ⟨tb, pb, rb⟩ := hb
  refine ⟨_, ps_while hp pt pb, fun B P L σ H s D srl hw => ?_⟩
  have hns : whileS t f ws P.length s ≠ .stuck := fun z => by rw [z] at hw; exact hw
  obtain ⟨m, em⟩ := lim_some hns
  have hw' : WantsS X c W B P L H D (whileN t f ws m s) := by rw [← em]; exact hw
  refine ⟨fun m σ H => ∃ s, SR X.K c B (P ++ L) H σ s ∧ WantsS X c W B P L H D (whileN t f ws m s), ⟨m, s, srl.sr, hw'⟩, ?_⟩
  rintro m σ H ⟨s, sr, hw⟩
  cases m with
  | zero => exact hw.elim
  | succ m =>
    unfold whileN at hw
    refine WantsS.bindG (s := s) hw ⟨sr, srl.off⟩ rt fun x H1 k st1 e1 ev1 sr1 r1 hw1 => ?_
    have z : x = k := r1
    subst z
    cases x with
    | false =>
      rw [if_neg Bool.false_ne_true] at hw1 ⊢
      exact hw1.now sr1
    | true =>
      rw [if_pos rfl] at hw1 ⊢
      refine ⟨fun σ' H' => ∃ s', SR X.K c B (P ++ L) H' σ' s' ∧ WantsS X c W B P L H' D (whileN t f ws m s'), fun σ' H' q => ⟨m, Nat.lt_succ_self m, q⟩, ?_⟩
      have hal := sr1.sr.aslen
      simp only at hal
      refine rb B (P ++ L) [] σ H1 ⟨s.env, st1⟩ _ sr1.inn ?_
      rw [hal]
      exact turn_ref sr1.off (by rw [hal]; exact hw1) fun σ' H' s' ev' sr' hw' => ⟨s', sr', hw'⟩

/-! ### what is walked -/
/-- the i-th item, as the own objects stand: none: no answer; some none: the end -/
abbrev IVal := Nat → Sto → Option (Option PyData)
structure WD (K : PySem.W.Frag) (c : Cfg) (B as : List Addr) (H0 : Hp) (J : It) (iv : IVal) : Prop where
  goes : ∀ B' i H σ s d, (∀ x ∈ B', x ∈ B ∨ H0 x = none) → Evo as H0 H → SR K c B' as H σ s → iv i s.st = some (some d) → J.go i H ∧ ∀ x H', J.yld i H x H' → Evo [] H H' ∧ Rep K (B' ++ as) H' d x
  stops : ∀ B' i H σ s, (∀ x ∈ B', x ∈ B ∨ H0 x = none) → Evo as H0 H → SR K c B' as H σ s → iv i s.st = some none → J.stop i H
abbrev RepI (K : PySem.W.Frag) (c : Cfg) : List Addr → List Addr → Hp → IVal → It → Prop := fun B as H iv J => WD K c B as H J iv
abbrev EvI := S → Res (IVal × Sto)
def DI (X : Cx) (c : Cfg) (W : WX) (tg e : Expr) (f : EvI) : Prop :=
  ∃ wi, PI X tg e wi ∧ ∀ (B as : List Addr) (σ : L2.St) (H : Hp) (s : S) (R : It → Hp → Prop), SR X.K c B as H σ s → WantsG X c W (RepI X.K c) B as σ H s.env false R (f s) → wi σ H R
def forN (iv : IVal) (g : GS) (body : EvS) (ws : List Nat) : Nat → Nat → S → RS
  | 0, _, _ => .stuck
  | m + 1, i, s => match iv i s.st with
    | some (some d) => (match g d s.env with
      | some e1 => turnS ws s.st.length (forN iv g body ws m (i + 1)) (body s.st.length ⟨e1, s.st⟩)
      | none => .stuck)
    | some none => .ok (.next, s)
    | none => .stuck
noncomputable def forS (fi : EvI) (g : GS) (body : EvS) (ws : List Nat) : EvS := fun _ s => (fi s).bx s.env fun p => lim fun m => forN p.1 g body ws m 0 ⟨s.env, p.2⟩
theorem ds_for {tg e : Expr} {body : List Stmt} {pos : Pos} {fi : EvI} {is : List Nat} {g : GS} {f : EvS} (ws : List Nat) (hp : PassesOwn (model X.prog X.w) X.A X.env X.xe) (hc : X.calm = true) (hi : DI X c W tg e fi) (hg : DG X c tg is g) (hb : DSs X c W body f)
    (hs : ∀ x, foldedSetIterable e X.env x = pure x) : DS X c W (.For tg e body [] pos) (forS fi g f ws) := by
  obtain ⟨wi, pi, ri⟩ := hi
  obtain ⟨tt, pg, rg⟩ := hg
  obtain ⟨tb, pb, rb⟩ := hb
  refine ⟨_, ps_for hp hc pi pg pb hs, fun B P L σ H s D srl hw => ?_⟩
  show wi σ H _
  refine WantsS.bindG (s := s) hw srl ri fun J H1 iv st1 e1 ev1 srl1 wd hw1 => ?_
  have hns : lim (fun m => forN iv g f ws m 0 ⟨s.env, st1⟩) ≠ .stuck := fun z => by simp only [z] at hw1; exact hw1
  obtain ⟨m, em⟩ := lim_some hns
  have hw' : WantsS X c W B P L H1 D (forN iv g f ws m 0 ⟨s.env, st1⟩) := by rw [← em]; exact hw1
  refine ⟨fun i m σ H => ∃ s, Evo (P ++ L) H1 H ∧ SR X.K c B (P ++ L) H σ s ∧ WantsS X c W B P L H D (forN iv g f ws m i s), ⟨m, _, Evo.refl, srl1.sr, hw'⟩, ?_⟩
  rintro i m σ H ⟨s, ev, sr, hw⟩
  cases m with
  | zero => exact hw.elim
  | succ m =>
    unfold forN at hw
    split at hw
    · rename_i d ei
      obtain ⟨go, yl⟩ := wd.goes B i H σ s d (fun _ z => .inl z) ev sr ei
      split at hw
      · rename_i env1 eg
        refine .inr ⟨go, fun σ' H' => ∃ s', Evo (P ++ L) H1 H' ∧ SR X.K c B (P ++ L) H' σ' s' ∧ WantsS X c W B P L H' D (forN iv g f ws m (i + 1) s'), fun σ' H' q => ⟨m, Nat.lt_succ_self m, q⟩, fun x H' y => ?_⟩
        obtain ⟨evn, rx⟩ := yl x H' y
        refine rg B (P ++ L) σ H' s d x env1 _ (sr.evo evn) rx eg fun σ2 sr2 _ => ?_
        have hal := sr2.aslen
        simp only at hal
        refine rb B (P ++ L) [] σ2 H' ⟨env1, s.st⟩ _ (SRL.inn ⟨sr2, srl.off⟩) ?_
        rw [hal]
        exact turn_ref srl.off (by rw [hal]; exact hw.step0 evn.wide) fun σ' H'' s' ev' sr' hw' => ⟨s', (ev.trans' evn.wide).trans' ev', sr', hw'⟩
      · exact hw.elim
    · rename_i ei
      exact .inl ⟨wd.stops B i H σ s (fun _ z => .inl z) ev sr ei, hw.now ⟨sr, srl.off⟩⟩
    · exact hw.elim
end
end DL
end
section
set_option Elab.async false
set_option linter.all false
set_option maxRecDepth 100000
set_option maxHeartbeats 1000000
/-! The data layer, part j: iterables. -/
namespace DL
open PySem PySem.Spec PyProof.Rows L2 PySem.SeqAt PySem.W
/-- a list or tuple that is walked: frozen, or an own list as it stands -/
structure Src where
  lst : Bool
  get : Sto → Option (List PyData)
def SqX (K : PySem.W.Frag) (k : Bool) (H : Hp) (a : Addr) (vs : List V) : Prop := if k = true then SqL K H a vs else SqT K H a vs
def SrcOk (K : PySem.W.Frag) (c : Cfg) (B as : List Addr) (H0 : Hp) (src : Src) (v : V) : Prop :=
  ∃ a, v = .ref a ∧ ∀ B' H σ s ds, (∀ x ∈ B', x ∈ B ∨ H0 x = none) → Evo as H0 H → SR K c B' as H σ s → src.get s.st = some ds → ∃ vs, SqX K src.lst H a vs ∧ RepA K (B' ++ as) H ds vs
theorem av_more {B B' as : List Addr} {H0 : Hp} (h : ∀ x ∈ B', x ∈ B ∨ H0 x = none) : ∀ x ∈ B' ++ as, x ∈ B ++ as ∨ H0 x = none := fun x hx => by
  rcases List.mem_append.mp hx with z | z
  · exact (h x z).imp (List.mem_append_left _) id
  · exact .inl (List.mem_append_right _ z)
theorem LstAt.avoid {K : PySem.W.Frag} {av av' : List Addr} {H : Hp} (hw : ∀ x ∈ av', x ∈ av ∨ H x = none) {a : Addr} {xs : List V} (l : LstAt K av H a xs) : LstAt K av' H a xs := ⟨l.1, fun z => (hw a z).elim l.2 (rd_ne (.inl l.1))⟩
theorem TupAt.avoid {K : PySem.W.Frag} {av av' : List Addr} {H : Hp} (hw : ∀ x ∈ av', x ∈ av ∨ H x = none) {a : Addr} {xs : List V} (l : TupAt K av H a xs) : TupAt K av' H a xs := by
  rcases l with l | l
  · exact .inl ⟨l.1, fun z => (hw a z).elim l.2 (rd_ne l.1)⟩
  · exact .inr l
abbrev EvR := S → Res (Src × Sto)
abbrev RepR (K : PySem.W.Frag) (c : Cfg) : List Addr → List Addr → Hp → Src → V → Prop := fun B as H src v => SrcOk K c B as H src v
def DR (X : Cx) (c : Cfg) (W : WX) (e : Expr) (f : EvR) : Prop :=
  ∃ t, PE X e t ∧ ∀ (B as : List Addr) (σ : L2.St) (H : Hp) (s : S) (Q : VK), SR X.K c B as H σ s → WantsG X c W (RepR X.K c) B as σ H s.env false Q (f s) → t σ H Q
section
variable {X : Cx} {c : Cfg} {W : WX} {B as : List Addr} {σ : L2.St} {H H1 : Hp} {s : S} {a b e tg : Expr} {p pos : Pos} {fa fb : EvD} {qa qb tr : Bool}
def froR (fa : EvD) : EvR := fun s => (fa s).bind fun p => match p.1 with
  | .list ds => .ok (⟨true, fun _ => some ds⟩, p.2)
  | .tuple ds => .ok (⟨false, fun _ => some ds⟩, p.2)
  | _ => .stuck
theorem src_list {K : PySem.W.Frag} {ds : List PyData} {v : V} (h : Rep K (B ++ as) H (.list ds) v) : SrcOk K c B as H ⟨true, fun _ => some ds⟩ v := by
  simp only [Rep] at h
  obtain ⟨a, vs, rfl, l, rs⟩ := h
  refine ⟨a, rfl, fun B' H' σ s ds' hB ev sr e => ?_⟩
  cases e
  exact ⟨vs, ((l.avoid (av_more hB)).evo ev fun x hx => List.mem_append_right _ hx).sq, RepA.evo ev (fun x hx => List.mem_append_right _ hx) _ _ (RepA.avoid (av_more hB) _ _ rs)⟩
theorem src_tuple {K : PySem.W.Frag} {ds : List PyData} {v : V} (h : Rep K (B ++ as) H (.tuple ds) v) : SrcOk K c B as H ⟨false, fun _ => some ds⟩ v := by
  simp only [Rep] at h
  obtain ⟨a, vs, rfl, l, rs⟩ := h
  refine ⟨a, rfl, fun B' H' σ s ds' hB ev sr e => ?_⟩
  cases e
  exact ⟨vs, ((l.avoid (av_more hB)).evo ev fun x hx => List.mem_append_right _ hx).sq, RepA.evo ev (fun x hx => List.mem_append_right _ hx) _ _ (RepA.avoid (av_more hB) _ _ rs)⟩
theorem dr_fro (h : DE X c W e false qa fa) : DR X c W e (froR fa) := by
  obtain ⟨t, p, r⟩ := h.loud'
  refine ⟨t, p, fun B as σ H s Q sr hw => ?_⟩
  refine WantsG.bindL (s := s) hw sr r fun v H1 d st1 e1 ev1 sr1 r1 hw1 => ?_
  simp only at hw1
  split at hw1
  · exact hw1.fin sr1 Evo.refl (src_list r1)
  · exact hw1.fin sr1 Evo.refl (src_tuple r1)
  · exact hw1.elim
def ownR (i : Nat) : EvR := fun s => match s.env[i]? with
  | some (some (.obj j)) => .ok (⟨true, fun st => match st[j]? with
    | some (.lst ds) => some ds
    | _ => none⟩, s.st)
  | some (some (.scr ds)) => .ok (⟨true, fun _ => some ds⟩, s.st)
  | _ => .stuck
theorem dr_own {i : Nat} {x : Str} (hN : X.N[i]? = some x) (hv : Vis X.env.scope x) (hd : (x == ("__debug__" : Str)) = false) (hcd : (x == ("__classdict__" : Str)) = false) : DR X c W (.Name x pos) (ownR i) := by
  refine ⟨_, pe_var hN hv hd hcd, fun B as σ H s Q sr hw => ?_⟩
  unfold ownR at hw
  split at hw
  · rename_i j e
    obtain ⟨v, q1, a, q2, rfl⟩ := sr.slot i _ e
    refine ⟨_, q1, hw _ H Evo.refl sr ⟨a, rfl, fun B' H' σ s ds hB ev sr' eg => ?_⟩⟩
    simp only at eg
    split at eg
    · rename_i ds' el
      cases eg
      obtain ⟨vs, h1, h2⟩ := sr'.objs j _ a el q2
      exact ⟨vs, .of h1, h2⟩
    · cases eg
  · rename_i ds e
    obtain ⟨v, q1, a, vs, rfl, l, rs⟩ := sr.slot i _ e
    refine ⟨_, q1, hw _ H Evo.refl sr ⟨a, rfl, fun B' H' σ s ds hB ev sr' eg => ?_⟩⟩
    cases eg
    exact ⟨vs, ((l.avoid (av_more hB)).evo ev fun x hx => List.mem_append_right _ hx).sq, RepA.evo ev (fun x hx => List.mem_append_right _ hx) _ _ (RepA.avoid (av_more hB) _ _ rs)⟩
  · exact hw.elim

/-! ### over a sequence -/
theorem pior {wi wi' : TI} (h : PI X tg e wi) (h' : PI X tg e wi') : PI X tg e (fun σ H R => wi σ H R ∨ wi' σ H R) :=
  ⟨fun pins s σ H R I q => q.elim (h.run pins s σ H R I) (h'.run pins s σ H R I)⟩
def seqIV (src : Src) : IVal := fun i st => (src.get st).map fun ds => ds[i]?
theorem wd_list {K : PySem.W.Frag} {src : Src} {a : Addr} (hl : src.lst = true) (h : SrcOk K c B as H src (.ref a)) : WD K c B as H (Itl K a) (seqIV src) := by
  obtain ⟨a', e, h⟩ := h
  cases e
  refine ⟨fun B' i H' σ s d hB ev sr e => ?_, fun B' i H' σ s hB ev sr e => ?_⟩
  all_goals
    unfold seqIV at e
    cases eg : src.get s.st with
    | none => rw [eg] at e; cases e
    | some ds =>
      rw [eg] at e
      obtain ⟨vs, q, rs⟩ := h B' H' σ s ds hB ev sr eg
      unfold SqX at q
      rw [if_pos hl] at q
      simp only [Option.map_some, Option.some.injEq] at e
      first
      | (obtain ⟨v, hv, rv⟩ := rs.get e
         refine ⟨⟨vs, v, q, hv⟩, fun x H2 y => ?_⟩
         obtain ⟨rfl, y⟩ := y
         have z := y vs q
         rw [hv] at z
         cases z
         exact ⟨Evo.refl, rv⟩)
      | exact ⟨vs, q, by rw [rs.length]; exact List.getElem?_eq_none_iff.mp e⟩
theorem wd_tuple {K : PySem.W.Frag} {src : Src} {a : Addr} (hl : src.lst = false) (h : SrcOk K c B as H src (.ref a)) : WD K c B as H (Itt K a) (seqIV src) := by
  obtain ⟨a', e, h⟩ := h
  cases e
  refine ⟨fun B' i H' σ s d hB ev sr e => ?_, fun B' i H' σ s hB ev sr e => ?_⟩
  all_goals
    unfold seqIV at e
    cases eg : src.get s.st with
    | none => rw [eg] at e; cases e
    | some ds =>
      rw [eg] at e
      obtain ⟨vs, q, rs⟩ := h B' H' σ s ds hB ev sr eg
      unfold SqX at q
      rw [if_neg (by rw [hl]; exact Bool.false_ne_true)] at q
      simp only [Option.map_some, Option.some.injEq] at e
      first
      | (obtain ⟨v, hv, rv⟩ := rs.get e
         refine ⟨⟨vs, v, q, hv⟩, fun x H2 y => ?_⟩
         obtain ⟨rfl, y⟩ := y
         have z := y vs q
         rw [hv] at z
         cases z
         exact ⟨Evo.refl, rv⟩)
      | exact ⟨vs, q, by rw [rs.length]; exact List.getElem?_eq_none_iff.mp e⟩
def seqI (f : EvR) : EvI := fun s => (f s).bind fun p => match p.1.get p.2 with
  | some _ => .ok (seqIV p.1, p.2)
  | none => .stuck
theorem di_seq {f : EvR} (h : DR X c W e f) : DI X c W tg e (seqI f) := by
  obtain ⟨t, p, r⟩ := h
  refine ⟨_, pior (pi_list p) (pi_tup p), fun B as σ H s R sr hw => ?_⟩
  have hw0 := hw
  unfold seqI at hw
  cases ef : f s with
  | stuck => rw [ef] at hw; exact hw.elim
  | exc cl s' =>
    refine .inl ?_
    refine r B as σ H s _ sr ?_
    rw [ef] at hw ⊢
    exact hw
  | ok q =>
    obtain ⟨src, st⟩ := q
    rw [ef] at hw
    simp only [Res.bind_ok] at hw
    cases eg : src.get st with
    | none => rw [eg] at hw; exact hw.elim
    | some ds =>
      rw [eg] at hw
      cases hl : src.lst with
      | true =>
        refine .inl (r B as σ H s _ sr ?_)
        rw [ef]
        intro v H1 ev sr1 ok
        obtain ⟨a, rfl, h⟩ := id ok
        obtain ⟨vs, q, _⟩ := h B H1 σ _ ds (fun _ z => .inl z) Evo.refl sr1 eg
        unfold SqX at q
        rw [if_pos hl] at q
        exact ⟨a, rfl, ⟨vs, q⟩, hw _ H1 ev sr1 (wd_list hl ok)⟩
      | false =>
        refine .inr (r B as σ H s _ sr ?_)
        rw [ef]
        intro v H1 ev sr1 ok
        obtain ⟨a, rfl, h⟩ := id ok
        obtain ⟨vs, q, _⟩ := h B H1 σ _ ds (fun _ z => .inl z) Evo.refl sr1 eg
        unfold SqX at q
        rw [if_neg (by rw [hl]; exact Bool.false_ne_true)] at q
        exact ⟨a, rfl, ⟨vs, q⟩, hw _ H1 ev sr1 (wd_tuple hl ok)⟩
/-- a text, sign by sign -/
def strIV (z : Str) : IVal := fun i _ => some ((z.cps[i]?).map fun k => .str ⟨#[k]⟩)
def strI (fa : EvD) : EvI := fun s => (fa s).bind fun p => match p.1 with
  | .str z => .ok (strIV z, p.2)
  | _ => .stuck
theorem di_str (h : DE X c W e false qa fa) : DI X c W tg e (strI fa) := by
  obtain ⟨t, p, r⟩ := h.loud'
  refine ⟨_, pi_str p, fun B as σ H s R sr hw => ?_⟩
  show t σ H _
  refine WantsG.bindL (s := s) hw sr r fun v H1 d st1 e1 ev1 sr1 r1 hw1 => ?_
  simp only at hw1
  split at hw1
  · rename_i z
    have ez : v = .str z := by simpa [RepE, RepX, Rep] using r1
    refine ⟨z, ez, hw1.fin sr1 Evo.refl ⟨fun B' i H' σ s d hB ev sr e => ?_, fun B' i H' σ s hB ev sr e => ?_⟩⟩
    · unfold strIV at e
      cases ek : z.cps[i]? with
      | none => rw [ek] at e; simp at e
      | some k =>
        rw [ek] at e
        simp only [Option.map_some, Option.some.injEq] at e
        subst e
        refine ⟨(Array.getElem?_eq_some_iff.mp ek).1, fun x H2 y => ?_⟩
        obtain ⟨rfl, k', h1, rfl⟩ := y
        rw [ek] at h1
        cases h1
        exact ⟨Evo.refl, by simp [Rep]⟩
    · unfold strIV at e
      cases ek : z.cps[i]? with
      | none => exact Array.getElem?_eq_none_iff.mp ek
      | some k => rw [ek] at e; simp at e
  · exact hw1.elim
/-- either, by the kind of the value -/
def anyI (fa : EvD) : EvI := fun s => match fa s with
  | .ok (.str _, _) => strI fa s
  | _ => seqI (froR fa) s
theorem di_any (h : DE X c W e false qa fa) : DI X c W tg e (anyI fa) := by
  obtain ⟨w1, p1, r1⟩ := di_str (tg := tg) h
  obtain ⟨w2, p2, r2⟩ := di_seq (tg := tg) (dr_fro h)
  refine ⟨_, pior p1 p2, fun B as σ H s R sr hw => ?_⟩
  unfold anyI at hw
  split at hw
  · exact .inl (r1 B as σ H s R sr hw)
  · exact .inr (r2 B as σ H s R sr hw)

/-! ### ranges -/
def rangeIV (lo : Int) (n : Nat) : IVal := fun i _ => some (if i < n then some (.int (lo + i)) else none)
theorem wd_range {K : PySem.W.Frag} {lo : Int} {n : Nat} : WD K c B as H (Itr lo n) (rangeIV lo n) := by
  refine ⟨fun B' i H' σ s d hB ev sr e => ?_, fun B' i H' σ s hB ev sr e => ?_⟩
  · unfold rangeIV at e
    split at e
    · rename_i hlt
      simp only [Option.some.injEq] at e
      subst e
      refine ⟨hlt, fun x H2 y => ?_⟩
      obtain ⟨rfl, rfl⟩ := y
      exact ⟨Evo.refl, by simp [Rep]⟩
    · simp at e
  · unfold rangeIV at e
    split at e
    · simp at e
    · rename_i hlt
      exact Nat.le_of_not_lt hlt
def small62 (i : Int) : Prop := -(2 ^ 62) ≤ i ∧ i < 2 ^ 62
noncomputable instance (i : Int) : Decidable (small62 i) := Classical.propDecidable _
noncomputable def range1I (fa : EvD) : EvI := fun s => (fa s).bind fun p => match p.1 with
  | .int j => if small62 j then .ok (rangeIV 0 j.toNat, p.2) else .stuck
  | _ => .stuck
theorem di_range1 (hg : Gl X "range") (hm : X.mg "range" = none) (h : DE X c W a false qa fa) (hs : starEach [a] X.env = (false, eval a X.env) :: starEach [] X.env) : DI X c W tg (.Call (.Name "range" p) [a] [] pos) (range1I fa) := by
  obtain ⟨t, p, r⟩ := h.loud'
  refine ⟨_, pi_range1 hg hm (pa_cons p pa_nil hs) hs, fun B as σ H s R sr hw => ?_⟩
  show t σ H _
  refine WantsG.bindL (s := s) hw sr r fun v H1 d st1 e1 ev1 sr1 r1 hw1 => ?_
  simp only at hw1
  split at hw1
  · rename_i j
    have ez : v = .int j := by simpa [RepE, RepX, Rep] using r1
    subst ez
    split at hw1
    · rename_i hj
      exact ⟨j, rfl, hj.1, hj.2, hw1.fin sr1 Evo.refl wd_range⟩
    · exact hw1.elim
  · exact hw1.elim
noncomputable def range2I (fa fb : EvD) : EvI := fun s => (fa s).bind fun p => (fb ⟨s.env, p.2⟩).bind fun q => match p.1, q.1 with
  | .int i, .int j => if small62 i ∧ small62 j then .ok (rangeIV i (j - i).toNat, q.2) else .stuck
  | _, _ => .stuck
theorem di_range2 (hg : Gl X "range") (hm : X.mg "range" = none) (ha : DE X c W a false qa fa) (hb : DE X c W b false qb fb) (hs : starEach [a, b] X.env = (false, eval a X.env) :: starEach [b] X.env) (hs2 : starEach [b] X.env = (false, eval b X.env) :: starEach [] X.env) : DI X c W tg (.Call (.Name "range" p) [a, b] [] pos) (range2I fa fb) := by
  obtain ⟨t, p, r⟩ := ha.loud'
  obtain ⟨t2, p2, r2⟩ := hb.loud'
  refine ⟨_, pi_range2 hg hm (pa_cons p (pa_cons p2 pa_nil hs2) hs) (by rw [hs, hs2]; rfl) (by rw [hs2]; rfl), fun B as σ H s R sr hw => ?_⟩
  show t σ H _
  refine WantsG.bindL (s := s) hw sr r fun v H1 d st1 e1 ev1 sr1 r1 hw1 => ?_
  show t2 σ H1 _
  refine WantsG.bindL (s := ⟨s.env, st1⟩) hw1 sr1 r2 fun v2 H2 d2 st2 e2 ev2 sr2 r3 hw2 => ?_
  simp only at hw2
  split at hw2
  · rename_i i j
    have ez : v = .int i := by simpa [RepE, RepX, Rep] using r1
    have ez2 : v2 = .int j := by simpa [RepE, RepX, Rep] using r3
    subst ez ez2
    split at hw2
    · rename_i hj
      exact ⟨i, j, rfl, ⟨hj.1.1, hj.1.2, hj.2.1, hj.2.2⟩, hw2.fin sr2 Evo.refl wd_range⟩
    · exact hw2.elim
  · exact hw2.elim
def rangeCIV (lo k : Int) (n : Nat) : IVal := fun i _ => some (if i < n then some (.int (lo + (i : Nat) * k)) else none)
theorem wd_rangeC {K : PySem.W.Frag} {lo k : Int} {n : Nat} : WD K c B as H (Itc lo k n) (rangeCIV lo k n) := by
  refine ⟨fun B' i H' σ s d hB ev sr e => ?_, fun B' i H' σ s hB ev sr e => ?_⟩
  · unfold rangeCIV at e
    split at e
    · rename_i hlt
      simp only [Option.some.injEq] at e
      subst e
      refine ⟨hlt, fun x H2 y => ?_⟩
      obtain ⟨rfl, rfl⟩ := y
      exact ⟨Evo.refl, by simp [Rep]⟩
    · simp at e
  · unfold rangeCIV at e
    split at e
    · simp at e
    · rename_i hlt
      exact Nat.le_of_not_lt hlt
/-- range(i, j, -1) -/
noncomputable def rangeDI (fa fb : EvD) : EvI := fun s => (fa s).bind fun p => (fb ⟨s.env, p.2⟩).bind fun q => match p.1, q.1 with
  | .int i, .int j => if small62 i ∧ small62 j then .ok (rangeCIV i (-1) (i - j).toNat, q.2) else .stuck
  | _, _ => .stuck
theorem di_rangeD {k1 p1 p2 : Pos} {k : Option Str} {k : Nat} {cst : Expr} (hc : PE X cst (tC (.int (-1)))) (hg : Gl X "range") (hm : X.mg "range" = none) (ha : DE X c W a false qa fa) (hb : DE X c W b false qb fb) (hs : starEach [a, b, cst] X.env = (false, eval a X.env) :: starEach [b, cst] X.env) (hs2 : starEach [b, cst] X.env = (false, eval b X.env) :: starEach [cst] X.env)
    (hs3 : starEach [cst] X.env = (false, eval cst X.env) :: starEach [] X.env) (hpl : (backTo pos (starEach [b, cst] X.env)).any (·.1) = false) : DI X c W tg (.Call (.Name "range" p) [a, b, cst] [] pos) (rangeDI fa fb) := by
  obtain ⟨t, p, r⟩ := ha.loud'
  obtain ⟨t2, p2, r2⟩ := hb.loud'
  refine ⟨_, pi_range3 hg hm (pa_cons p (pa_cons p2 (pa_cons hc pa_nil hs3) hs2) hs) hs hpl, fun B as σ H s R sr hw => ?_⟩
  show t σ H _
  refine WantsG.bindL (s := s) hw sr r fun v H1 d st1 e1 ev1 sr1 r1 hw1 => ?_
  show t2 σ H1 _
  refine WantsG.bindL (s := ⟨s.env, st1⟩) hw1 sr1 r2 fun v2 H2 d2 st2 e2 ev2 sr2 r3 hw2 => ?_
  simp only at hw2
  split at hw2
  · rename_i i j
    have ez : v = .int i := by simpa [RepE, RepX, Rep] using r1
    have ez2 : v2 = .int j := by simpa [RepE, RepX, Rep] using r3
    subst ez ez2
    split at hw2
    · rename_i hj
      exact ⟨i, j, -1, _, rfl, RgC.neg hj.1.1 hj.1.2 hj.2.1 hj.2.2, hw2.fin sr2 Evo.refl wd_rangeC⟩
    · exact hw2.elim
  · exact hw2.elim

/-! ### reversed, enumerate, zip -/
def revIV (src : Src) (n : Nat) : IVal := fun i st => if i < n then (match src.get st with
  | some ds => (match ds[n - 1 - i]? with
    | some d => some (some d)
    | none => none)
  | none => none) else some none
def revI (f : EvR) : EvI := fun s => (f s).bind fun p => match p.1.get p.2 with
  | some ds => .ok (revIV p.1 ds.length, p.2)
  | none => .stuck
theorem di_rev {f : EvR} (hg : Gl X "reversed") (hm : X.mg "reversed" = none) (h : DR X c W e f) (hs : starEach [e] X.env = (false, eval e X.env) :: starEach [] X.env) : DI X c W tg (.Call (.Name "reversed" p) [e] [] pos) (revI f) := by
  obtain ⟨t, p, r⟩ := h
  refine ⟨_, RT.pi_revA hg hm p hs, fun B as σ H s R sr hw => ?_⟩
  show t σ H _
  refine WantsG.bindL (s := s) hw sr r fun v H1 src st1 e1 ev1 sr1 ok hw1 => ?_
  simp only at hw1
  split at hw1
  · rename_i ds eg
    obtain ⟨a, rfl, h⟩ := id ok
    obtain ⟨vs, q, rs⟩ := h B H1 σ _ ds (fun _ z => .inl z) Evo.refl sr1 eg
    have hlen := rs.length
    refine ⟨a, vs, rfl, ?_⟩
    have main : ∀ (J : It), (∀ B' i H d, i < ds.length → (∀ x ∈ B', x ∈ B ∨ H1 x = none) → Evo as H1 H → (∃ σ s, SR X.K c B' as H σ s ∧ ∃ ds', src.get s.st = some ds' ∧ ds'[ds.length - 1 - i]? = some d) → J.go i H ∧ ∀ x H', J.yld i H x H' → Evo [] H H' ∧ Rep X.K (B' ++ as) H' d x) → (∀ i H, ds.length ≤ i → J.stop i H) → R J H1 := by
      intro J hgo hst
      refine hw1.fin sr1 Evo.refl ⟨fun B' i H' σ s d hB ev sr e => ?_, fun B' i H' σ s hB ev sr e => ?_⟩
      · unfold revIV at e
        split at e
        · rename_i hi
          split at e
          · rename_i ds' eg'
            split at e
            · rename_i d' ed
              simp only [Option.some.injEq] at e
              subst e
              exact hgo B' i H' _ hi hB ev ⟨σ, s, sr, ds', eg', ed⟩
            · cases e
          · cases e
        · simp at e
      · unfold revIV at e
        split at e
        · split at e
          · split at e
            · simp at e
            · cases e
          · cases e
        · rename_i hi
          exact hst i H' (Nat.le_of_not_lt hi)
    unfold SqX at q
    cases hl : src.lst with
    | true =>
      rw [hl, if_pos rfl] at q
      refine .inl ⟨q, main _ (fun B' i H' d hi hB ev ⟨σ, s, sr, ds', eg', ed⟩ => ?_) fun i H' hi => ?_⟩
      · obtain ⟨vs', q', rs'⟩ := h B' H' σ s ds' hB ev sr eg'
        unfold SqX at q'
        rw [hl, if_pos rfl] at q'
        obtain ⟨v, hv, rv⟩ := rs'.get ed
        rw [hlen]
        refine ⟨⟨hi, vs', v, q', hv⟩, fun x H2 y => ?_⟩
        obtain ⟨rfl, y⟩ := y
        have z := y vs' q'
        rw [hv] at z
        cases z
        exact ⟨Evo.refl, rv⟩
      · show vs.length ≤ i
        omega
    | false =>
      rw [hl, if_neg Bool.false_ne_true] at q
      refine .inr ⟨q, main _ (fun B' i H' d hi hB ev ⟨σ, s, sr, ds', eg', ed⟩ => ?_) fun i H' hi => ?_⟩
      · obtain ⟨vs', q', rs'⟩ := h B' H' σ s ds' hB ev sr eg'
        unfold SqX at q'
        rw [hl, if_neg Bool.false_ne_true] at q'
        obtain ⟨v, hv, rv⟩ := rs'.get ed
        rw [hlen]
        refine ⟨⟨hi, vs', v, q', hv⟩, fun x H2 y => ?_⟩
        obtain ⟨rfl, y⟩ := y
        have z := y vs' q'
        rw [hv] at z
        cases z
        exact ⟨Evo.refl, rv⟩
      · show vs.length ≤ i
        omega
  · exact hw1.elim
end
end DL
end
section
set_option Elab.async false
set_option linter.all false
set_option maxRecDepth 100000
set_option maxHeartbeats 1000000
/-! The data layer, part k: list comprehensions. -/
namespace DL
open PySem PySem.Spec PyProof.Rows L2 PySem.SeqAt PySem.W
/-! ### a new list, in the making: it lies outside -/
abbrev RC := Res (List PyData × Sto)
abbrev EvC := S → RC
def WantsC (X : Cx) (c : Cfg) (W : WX) (B as : List Addr) (σ : L2.St) (H : Hp) (env : List (Option SV)) (Q : VK) : RC → Prop
  | .ok p => ∀ D vs H', Evo as H H' → H D = none → SR X.K c (D :: B) as H' σ ⟨env, p.2⟩ → H' D = some (.lst vs) → RepA X.K ((D :: B) ++ as) H' p.1 vs → Q (.ref D) H'
  | .exc cl s' => ∀ H', Evo as H H' → SR X.K c B as H' σ ⟨env, s'.st⟩ → W (c.cls cl) none σ H'
  | .stuck => False
def DC (X : Cx) (c : Cfg) (W : WX) (e : Expr) (f : EvC) : Prop :=
  ∃ t, PE X e t ∧ ∀ (B as : List Addr) (σ : L2.St) (H : Hp) (s : S) (Q : VK), SR X.K c B as H σ s → WantsC X c W B as σ H s.env Q (f s) → t σ H Q
section
variable {X : Cx} {c : Cfg} {W : WX} {B as : List Addr} {σ : L2.St} {H H1 : Hp} {env : List (Option SV)} {st : Sto} {s : S} {e : Expr} {D : Addr}
theorem SR.less {K : PySem.W.Frag} {B' : List Addr} (sr : SR K c B' as H σ s) (h : ∀ x ∈ B, x ∈ B') : SR K c B as H σ s := by
  have hav : ∀ x ∈ B ++ as, x ∈ B' ++ as ∨ H x = none := fun x hx => .inl ((List.mem_append.mp hx).elim (fun z => List.mem_append_left _ (h x z)) (List.mem_append_right _))
  refine ⟨sr.len, fun i sv q => ?_, sr.nd, sr.aslen, fun i o a h1 h2 => (sr.objs i o a h1 h2).avoid hav, fun a ha => sr.out a (h a ha), sr.tabs⟩
  obtain ⟨v, q1, q2⟩ := sr.slot i sv q
  refine ⟨v, q1, ?_⟩
  cases sv with
  | pure d => exact Rep.avoid hav d v q2
  | scr ds => obtain ⟨p, us, z1, z2, z3⟩ := q2; exact ⟨p, us, z1, z2.avoid hav, RepA.avoid hav _ us z3⟩
  | obj j => exact q2
/-- a new object outside -/
theorem SR.outN {K : PySem.W.Frag} {u : HO} (sr : SR K c B as H σ s) (hn : H D = none) : SR K c (D :: B) as (upd H D u) σ s := by
  have ev : Evo [] H (upd H D u) := Evo.new hn
  have hav : ∀ x ∈ (D :: B) ++ as, x ∈ B ++ as ∨ H x = none := fun x hx => by
    rcases List.mem_cons.mp hx with z | z
    · exact .inr (by rw [z]; exact hn)
    · exact .inl z
  have e0 : ∀ x ∈ ([] : List Addr), x ∈ (D :: B) ++ as := fun _ z => by cases z
  refine ⟨sr.len, fun i sv q => ?_, sr.nd, sr.aslen, fun i o a h1 h2 => ((sr.objs i o a h1 h2).avoid hav).evo0 ev e0 (by simp), fun a ha z => ?_, sr.tabs.evo ev⟩
  · obtain ⟨v, q1, q2⟩ := sr.slot i sv q
    refine ⟨v, q1, ?_⟩
    cases sv with
    | pure d => exact Rep.evo ev e0 d v (Rep.avoid hav d v q2)
    | scr ds => obtain ⟨p, us, z1, z2, z3⟩ := q2; exact ⟨p, us, z1, (z2.avoid hav).evo ev e0, RepA.evo ev e0 _ us (RepA.avoid hav _ us z3)⟩
    | obj j => exact q2
  · by_cases e : a = D
    · rw [e, upd_same] at z; cases z
    · rw [upd_ne e] at z
      rcases List.mem_cons.mp ha with y | y
      · exact e y
      · exact sr.out a y z
/-- what lies outside is changed -/
theorem SR.updB {K : PySem.W.Frag} {u u' : HO} (sr : SR K c B as H σ s) (hD : D ∈ B) (hd : D ∉ as) (h : H D = some u') (ht : Mut u') : SR K c B as (upd H D u) σ s := by
  have ev : Evo [D] H (upd H D u) := Evo.at h ht (List.mem_singleton.mpr rfl)
  have e0 : ∀ x ∈ [D], x ∈ B ++ as := fun x z => by rw [List.mem_singleton.mp z]; exact List.mem_append_left _ hD
  refine ⟨sr.len, fun i sv q => ?_, sr.nd, sr.aslen, fun i o a h1 h2 => (sr.objs i o a h1 h2).evo0 ev e0 fun z => ?_, fun a ha z => ?_, sr.tabs.evo ev⟩
  · obtain ⟨v, q1, q2⟩ := sr.slot i sv q
    exact ⟨v, q1, q2.evo ev e0⟩
  · rw [List.mem_singleton.mp z] at h2
    exact hd (List.mem_of_getElem? h2)
  · by_cases e : a = D
    · rw [e, upd_same] at z; cases z
    · rw [upd_ne e] at z; exact sr.out a ha z
/-- from outside it becomes an own object -/
theorem SR.own {K : PySem.W.Frag} {ds : List PyData} {vs : List V} (sr : SR K c (D :: B) as H σ ⟨env, st⟩) (hd : D ∉ as) (h : H D = some (.lst vs)) (rs : RepA K ((D :: B) ++ as) H ds vs) : SR K c B (as ++ [D]) H σ ⟨env, st ++ [.lst ds]⟩ := by
  have hav : ∀ x ∈ B ++ (as ++ [D]), x ∈ (D :: B) ++ as ∨ H x = none := fun x hx => .inl (by
    rcases List.mem_append.mp hx with z | z
    · exact List.mem_append_left _ (List.mem_cons_of_mem _ z)
    · rcases List.mem_append.mp z with z | z
      · exact List.mem_append_right _ z
      · rw [List.mem_singleton.mp z]; exact List.mem_append_left _ List.mem_cons_self)
  have hal := sr.aslen
  simp only at hal
  refine ⟨sr.len, fun i sv q => ?_, ?_, by rw [List.length_append, List.length_append, hal]; rfl, fun i o a h1 h2 => ?_, fun a ha => sr.out a (List.mem_cons_of_mem _ ha), sr.tabs⟩
  · obtain ⟨v, q1, q2⟩ := sr.slot i sv q
    refine ⟨v, q1, ?_⟩
    cases sv with
    | pure d => exact Rep.avoid hav d v q2
    | scr ds => obtain ⟨p, us, z1, z2, z3⟩ := q2; exact ⟨p, us, z1, z2.avoid hav, RepA.avoid hav _ us z3⟩
    | obj j =>
      obtain ⟨a, e, rfl⟩ := q2
      exact ⟨a, by rw [List.getElem?_append_left (List.getElem?_eq_some_iff.mp e).1]; exact e, rfl⟩
  · rw [List.nodup_append]
    refine ⟨sr.nd, by simp, fun x hx y hy z => hd ?_⟩
    rw [List.mem_singleton.mp hy] at z
    rw [← z]; exact hx
  · by_cases hi : i < as.length
    · rw [List.getElem?_append_left hi] at h2
      have hi' : i < st.length := by omega
      rw [List.getElem?_append_left hi'] at h1
      exact (sr.objs i o a h1 h2).avoid hav
    · have e1 : i = as.length := by
        have := (List.getElem?_eq_some_iff.mp h2).1
        rw [List.length_append] at this
        simp at this
        omega
      subst e1
      rw [List.getElem?_append_right (Nat.le_refl _), Nat.sub_self] at h2
      simp only [List.getElem?_cons_zero, Option.some.injEq] at h2
      subst h2
      rw [hal, List.getElem?_append_right (Nat.le_refl _), Nat.sub_self] at h1
      simp only [List.getElem?_cons_zero, Option.some.injEq] at h1
      subst h1
      exact ⟨vs, h, RepA.avoid hav ds vs rs⟩
theorem not_as (sr : SR X.K c B as H σ s) (hn : H D = none) : D ∉ as := fun z => sr.notnew hn (List.mem_append_right _ z)
def lstOf (f : EvC) : EvD := fun s => (f s).bind fun p => .ok (.list p.1, p.2)
def ownOf (f : EvC) : EvV := fun s => (f s).bind fun p => .ok (newL p.2 p.1)
theorem wants_lst {f : EvC} {Q : VK} (sr : SR X.K c B as H σ s) (hw : WantsG X c W (RepE X.K false) B as σ H s.env false Q (lstOf f s)) : WantsC X c W B as σ H s.env Q (f s) := by
  unfold lstOf at hw
  cases e : f s with
  | stuck => rw [e] at hw; exact hw
  | exc cl s' => rw [e] at hw; exact hw
  | ok p =>
    rw [e] at hw
    intro D vs H' ev hn sr' hD rs
    refine hw (.ref D) H' ev (sr'.less fun x hx => List.mem_cons_of_mem _ hx) ?_
    simp only [RepE, RepX, Bool.false_eq_true, if_false, Rep]
    exact ⟨D, vs, rfl, ⟨hD, sr.notnew hn⟩, RepA.avoid (fun x hx => .inl (List.mem_cons_of_mem _ hx)) _ _ rs⟩
theorem wants_own {f : EvC} {Q : VK} (sr : SR X.K c B as H σ s) (hw : WantsV X c W (RepV X.K) B as σ H s.env Q (ownOf f s)) : WantsC X c W B as σ H s.env Q (f s) := by
  unfold ownOf at hw
  cases e : f s with
  | stuck => rw [e] at hw; exact hw
  | exc cl s' =>
    rw [e] at hw
    exact fun H' ev sr' => hw [] H' ev (by simp) (by rw [List.append_nil]; exact sr')
  | ok p =>
    rw [e] at hw
    intro D vs H' ev hn sr' hD rs
    have hal := sr'.aslen
    simp only at hal
    refine hw (.ref D) [D] H' ev (fun a ha => by rw [List.mem_singleton.mp ha]; exact hn) (sr'.own (not_as sr hn) hD rs) ⟨D, ?_, rfl⟩
    rw [← hal, List.getElem?_append_right (Nat.le_refl _), Nat.sub_self]
    rfl
theorem de_c {f : EvC} (h : DC X c W e f) : DE X c W e false false (lstOf f) := by
  obtain ⟨t, p, r⟩ := h
  exact ⟨t, p, fun B as σ H s Q sr hw => r B as σ H s Q sr (wants_lst sr hw)⟩
theorem dv_c {f : EvC} (h : DC X c W e f) : DV X c W e (ownOf f) := by
  obtain ⟨t, p, r⟩ := h
  exact ⟨t, p, fun B as σ H s Q sr hw => r B as σ H s Q sr (wants_own sr hw)⟩
theorem WantsC.bindG {α β : Type} {R : List Addr → List Addr → Hp → α → β → Prop} {f : S → Res (α × Sto)} {k : α × Sto → RC} {ta : L2.St → Hp → (β → Hp → Prop) → Prop} {qa : Bool} {Q : VK} {Q1 : β → Hp → Prop} (hw : WantsC X c W B as σ H s.env Q ((f s).bind k)) (sr : SR X.K c B as H σ s)
    (ra : ∀ (B as : List Addr) (σ : L2.St) (H : Hp) (s : S) (Q : β → Hp → Prop), SR X.K c B as H σ s → WantsG X c W R B as σ H s.env qa Q (f s) → ta σ H Q)
    (h : ∀ v H1 d st1, f s = .ok (d, st1) → Evo as H H1 → SR X.K c B as H1 σ ⟨s.env, st1⟩ → R B as H1 d v → WantsC X c W B as σ H1 s.env Q (k (d, st1)) → Q1 v H1) : ta σ H Q1 := by
  refine ra B as σ H s Q1 sr ?_
  cases e : f s with
  | stuck => rw [e] at hw; exact hw
  | exc cl s' => rw [e] at hw; exact hw
  | ok p =>
    obtain ⟨d, st1⟩ := p
    rw [e] at hw
    refine fun v H1 ev sr1 rp => h v H1 d st1 e (ev.mono wq_as) sr1 rp ?_
    have ev' := ev.mono (W' := as) wq_as
    have hw : WantsC X c W B as σ H s.env Q (k (d, st1)) := hw
    generalize k (d, st1) = r at hw
    cases r with
    | ok p => exact fun D vs H' e hn sr' hD rs => hw D vs H' (ev'.trans' e) (sr1.fresh ev' hn) sr' hD rs
    | exc cl s' => exact fun H' e sr' => hw H' (ev'.trans' e) sr'
    | stuck => exact hw

/-! ### the readings, the same for every context over one frame of facts -/
def tDE (K : PySem.W.Frag) (X : Cx) (c : Cfg) (W : WX) (tr q : Bool) (f : EvD) : TE := fun σ H Q => ∃ (B as : List Addr) (s : S), SR X.K c B as H σ s ∧ WantsG X c W (RepE X.K tr) B as σ H s.env q Q (f s)
theorem DE.pe {tr q : Bool} {f : EvD} (h : DE X c W e tr q f) : PE X e (tDE X.K X c W tr q f) := by
  obtain ⟨t, p, r⟩ := h
  exact ⟨fun pins s σ H Q I ⟨B, as, s', sr, hw⟩ => p.run pins s σ H Q I (r B as σ H s' Q sr hw)⟩
def DTs (X : Cx) (c : Cfg) (W : WX) (es : List Expr) (f : EvT) : Prop :=
  ∃ t, PTs X es t ∧ ∀ (B as : List Addr) (σ : L2.St) (H : Hp) (s : S) (Q : Bool → Hp → Prop), SR X.K c B as H σ s → WantsG X c W RepB B as σ H s.env false Q (f s) → t σ H Q
def yesT : EvT := fun s => .ok (true, s.st)
theorem dts_nil : DTs X c W [] yesT := ⟨_, pts_nil, fun B as σ H s Q sr hw => hw.fin sr Evo.refl rfl⟩
theorem dts_one {f : EvT} (h : DT X c W e f) : DTs X c W [e] f := by
  obtain ⟨t, p, r⟩ := h
  exact ⟨t, pts_one p, r⟩
def tDTs (X : Cx) (c : Cfg) (W : WX) (f : EvT) : TT := fun σ H Q => ∃ (B as : List Addr) (s : S), SR X.K c B as H σ s ∧ WantsG X c W RepB B as σ H s.env false Q (f s)
theorem DTs.pts {es : List Expr} {f : EvT} (h : DTs X c W es f) : PTs X es (tDTs X c W f) := by
  obtain ⟨t, p, r⟩ := h
  exact ⟨fun pins s σ H Q I ⟨B, as, s', sr, hw⟩ => p.run pins s σ H Q I (r B as σ H s' Q sr hw)⟩
def gDG (X : Cx) (c : Cfg) (is : List Nat) (g : GS) : TG := fun v σ H Q => ∃ (B as : List Addr) (s : S) (d : PyData) (e1 : List (Option SV)), SR X.K c B as H σ s ∧ Rep X.K (B ++ as) H d v ∧ g d s.env = some e1 ∧
    (∀ σ', SR X.K c B as H σ' ⟨e1, s.st⟩ → Within is σ σ' → Q σ' H)
theorem DG.pg {tg : Expr} {is : List Nat} {g : GS} (h : DG X c tg is g) : PG X tg (gDG X c is g) := by
  obtain ⟨t, p, r⟩ := h
  exact ⟨fun pins s σ H v u Q I rv ⟨B, as, s', d, e1, sr, rp, eg, hQ⟩ => p.run pins s σ H v u Q I rv (r B as σ H s' d v e1 Q sr rp eg hQ)⟩

/-! ### [elt for tg in iter if ..] -/
def wipeL (env : List (Option SV)) : List Nat → List (Option SV)
  | [] => env
  | v :: vs => (wipeL env vs).set v none
theorem wipeL_len (env : List (Option SV)) : ∀ vs : List Nat, (wipeL env vs).length = env.length
  | [] => rfl
  | v :: vs => by unfold wipeL; rw [List.length_set, wipeL_len env vs]
theorem SR.wipe {K : PySem.W.Frag} (sr : SR K c B as H σ s) : ∀ vs : List Nat, SR K c B as H (L2.wipe σ vs) ⟨wipeL s.env vs, s.st⟩
  | [] => sr
  | v :: vs => by
    have ih := SR.wipe sr vs
    refine ⟨?_, fun i sv q => ?_, ih.nd, ih.aslen, ih.objs, ih.out, ih.tabs⟩
    · show ((L2.wipe σ vs).set v none).length = ((wipeL s.env vs).set v none).length
      rw [List.length_set, List.length_set]; exact ih.len
    · have q' : ((wipeL s.env vs).set v none)[i]? = some (some sv) := q
      rcases set_get q' with ⟨_, z, _⟩ | ⟨hne, z⟩
      · cases z
      · obtain ⟨u, q1, q2⟩ := ih.slot i sv z
        exact ⟨u, by show ((L2.wipe σ vs).set v none)[i]? = _; rw [List.getElem?_set_ne hne]; exact q1, q2⟩
/-- the slots that are left alone -/
theorem SR.slots {K : PySem.W.Frag} {H' : Hp} {st' : Sto} {σ' : L2.St} {env' : List (Option SV)} (sr' : SR K c B as H' σ' ⟨env', st'⟩) (sr : SR K c B as H σ s) (ev : Evo as H H') : SR K c B as H' σ ⟨s.env, st'⟩ :=
  ⟨sr.len, fun i sv q => by
    obtain ⟨v, q1, q2⟩ := sr.slot i sv q
    exact ⟨v, q1, q2.evo ev fun x hx => List.mem_append_right _ hx⟩, sr'.nd, sr'.aslen, sr'.objs, sr'.out, sr'.tabs⟩
def compN (iv : IVal) (g : GS) (ft : EvT) (fe : EvD) (env : List (Option SV)) : Nat → Nat → Sto → List PyData → RC
  | 0, _, _, _ => .stuck
  | m + 1, i, st, acc => match iv i st with
    | some (some d) => (match g d env with
      | some e1 => (match ft ⟨e1, st⟩ with
        | .ok (true, st1) => (match fe ⟨e1, st1⟩ with
          | .ok (y, st2) => if acc.length < 16777216 then compN iv g ft fe env m (i + 1) st2 (acc ++ [y]) else .stuck
          | _ => .stuck)
        | .ok (false, st1) => compN iv g ft fe env m (i + 1) st1 acc
        | _ => .stuck)
      | none => .stuck)
    | some none => .ok (acc, st)
    | none => .stuck
noncomputable def compC (fi : EvI) (vs : List Nat) (g : GS) (ft : EvT) (fe : EvD) : EvC := fun s => (fi s).bind fun p => lim fun m => compN p.1 g ft fe (wipeL s.env vs) m 0 p.2 []
abbrev W0 : WX := fun _ _ _ _ => False
theorem wipe_twice (vs : List Nat) (σ : L2.St) : L2.wipe (L2.wipe σ vs) vs = L2.wipe σ vs := by
  have key : ∀ (us ws : List Nat) (τ : L2.St), (∀ i ∈ ws, i ∈ us) → L2.wipe (L2.wipe τ ws) us = L2.wipe τ us := by
    intro us ws
    induction ws with
    | nil => intro τ _; rfl
    | cons w ws ih =>
      intro τ h
      show L2.wipe ((L2.wipe τ ws).set w none) us = _
      rw [wipe_set_in (h w List.mem_cons_self)]
      exact ih τ fun i hi => h i (List.mem_cons_of_mem _ hi)
  exact key vs vs σ fun _ h => h
/-- what the reading of a comprehension asks -/
theorem lc_ref {wi : TI} {fi : EvI} {vs is : List Nat} {g : GS} {ft : EvT} {fe : EvD} {q : Bool} (his : ∀ i ∈ is, i ∈ vs)
    (ri : ∀ (B as : List Addr) (σ : L2.St) (H : Hp) (s : S) (R : It → Hp → Prop), SR X.K c B as H σ s → WantsG X c W (RepI X.K c) B as σ H s.env false R (fi s) → wi σ H R)
    {Q : VK} (sr : SR X.K c B as H σ s) (hw : WantsC X c W B as σ H s.env Q (compC fi vs g ft fe s)) : tLc wi (gDG X c is g) (tDTs X c W0 ft) (tDE X.K X c W0 false q fe) vs σ H Q := by
  show wi σ H _
  refine WantsC.bindG (s := s) hw sr ri fun J H1 iv st1 e1 ev1 sr1 wd hw1 => ?_
  intro D hD
  have hns : lim (fun m => compN iv g ft fe (wipeL s.env vs) m 0 st1 []) ≠ .stuck := fun z => by simp only [z] at hw1; exact hw1
  obtain ⟨m, em⟩ := lim_some hns
  have hw' : WantsC X c W B as σ H1 s.env Q (compN iv g ft fe (wipeL s.env vs) m 0 st1 []) := by rw [← em]; exact hw1
  clear em hns hw1
  generalize hR : compN iv g ft fe (wipeL s.env vs) m 0 st1 [] = R at hw'
  have hDas : D ∉ as := not_as sr1 hD
  refine ⟨fun i m H => ∃ st acc us, Evo as H1 H ∧ SR X.K c (D :: B) as H σ ⟨s.env, st⟩ ∧ H D = some (.lst us) ∧ RepA X.K ((D :: B) ++ as) H acc us ∧ compN iv g ft fe (wipeL s.env vs) m i st acc = R,
    ⟨m, st1, [], [], Evo.new hD, sr1.outN hD, upd_same, .nil, hR⟩, ?_⟩
  rintro i m H2 ⟨st, acc, us, ev, sr2, eD, rs, eR⟩
  have hB : ∀ x ∈ D :: B, x ∈ B ∨ H1 x = none := fun x hx => by
    rcases List.mem_cons.mp hx with z | z
    · exact .inr (by rw [z]; exact hD)
    · exact .inl z
  cases m with
  | zero => rw [← eR] at hw'; exact hw'.elim
  | succ m =>
    unfold compN at eR
    split at eR
    · rename_i d ei
      obtain ⟨go, yl⟩ := wd.goes (D :: B) i H2 σ ⟨s.env, st⟩ d hB ev sr2 ei
      split at eR
      · rename_i env1 eg
        refine .inr ⟨go, fun H' => ∃ st acc us, Evo as H1 H' ∧ SR X.K c (D :: B) as H' σ ⟨s.env, st⟩ ∧ H' D = some (.lst us) ∧ RepA X.K ((D :: B) ++ as) H' acc us ∧ compN iv g ft fe (wipeL s.env vs) m (i + 1) st acc = R, fun H' q => ⟨m, Nat.lt_succ_self m, q⟩, fun x H3 y => ?_⟩
        obtain ⟨evn, rx⟩ := yl x H3 y
        have sr3 := sr2.evo evn
        have srw := SR.wipe sr3 vs
        refine ⟨D :: B, as, ⟨wipeL s.env vs, st⟩, d, env1, srw, rx, eg, fun σ2 sr4 wn => ⟨?_, ?_⟩⟩
        · rw [wn vs his]
          clear wn sr4 srw
          -- wiped twice
          exact wipe_twice vs σ
        · refine ⟨D :: B, as, ⟨env1, st⟩, sr4, ?_⟩
          have eD3 : H3 D = some (.lst us) := evn.keep D _ eD (by simp) (fun _ z => by cases z)
          have rs3 := RepA.evo evn (fun _ z => by cases z) _ _ rs
          have kD : ∀ {H' : Hp}, Evo as H3 H' → H' D = some (.lst us) ∧ RepA X.K ((D :: B) ++ as) H' acc us := fun e' =>
            ⟨e'.keep D _ eD3 hDas (fun _ z => by cases z), RepA.evo e' (fun x hx => List.mem_append_right _ hx) _ _ rs3⟩
          have ev3 : Evo as H1 H3 := ev.trans' evn.wide
          split at eR
          · rename_i st2 eft
            rw [eft]
            intro b H4 e4 sr5 hb
            have hb' : b = true := hb
            subst hb'
            rw [if_pos rfl]
            refine ⟨D :: B, as, ⟨env1, st2⟩, sr5, ?_⟩
            have e4' : Evo as H3 H4 := e4
            split at eR
            · rename_i y2 st3 efe
              rw [efe]
              intro v H5 e5 sr6 rv
              have e5' : Evo as H4 H5 := e5.mono wq_as
              obtain ⟨k1, k2⟩ := kD (e4'.trans' e5')
              split at eR
              · rename_i hlt
                refine ⟨us, k1, by rw [sizeLine_eq, k2.length]; exact hlt, st3, acc ++ [y2], us ++ [v], (ev3.trans' (e4'.trans' e5')).trans (Evo.at k1 ⟨(fun _ z => by cases z), (fun _ _ z => by cases z)⟩ (List.mem_singleton.mpr rfl)) fun x hx => ?_, ?_, upd_same, ?_, eR⟩
                · rw [List.mem_singleton.mp hx]; exact .inr hD
                · exact SR.updB (SR.slots (s := ⟨s.env, st⟩) (σ := σ) sr6 sr3 (e4'.trans' e5')) List.mem_cons_self hDas k1 ⟨(fun _ z => by cases z), (fun _ _ z => by cases z)⟩
                · have r1 := k2.append (.cons rv .nil)
                  exact RepA.evo (Evo.at k1 ⟨(fun _ z => by cases z), (fun _ _ z => by cases z)⟩ (List.mem_singleton.mpr rfl)) (fun x hx => by rw [List.mem_singleton.mp hx]; exact List.mem_append_left _ List.mem_cons_self) _ _ r1
              · rw [← eR] at hw'; exact hw'.elim
            · rw [← eR] at hw'; exact hw'.elim
          · rename_i st2 eft
            rw [eft]
            intro b H4 e4 sr5 hb
            have hb' : b = false := hb
            subst hb'
            rw [if_neg Bool.false_ne_true]
            have e4' : Evo as H3 H4 := e4
            obtain ⟨k1, k2⟩ := kD e4'
            exact ⟨st2, acc, us, ev3.trans' e4', SR.slots (s := ⟨s.env, st⟩) (σ := σ) sr5 sr3 e4', k1, k2, eR⟩
          · rw [← eR] at hw'; exact hw'.elim
      · rw [← eR] at hw'; exact hw'.elim
    · rename_i ei
      refine .inl ⟨wd.stops (D :: B) i H2 σ ⟨s.env, st⟩ hB ev sr2 ei, ?_⟩
      rw [← eR] at hw'
      exact hw' D us H2 ev hD sr2 eD rs
    · rw [← eR] at hw'; exact hw'.elim
end
end DL
end
section
set_option Elab.async false
set_option linter.all false
set_option maxRecDepth 100000
set_option maxHeartbeats 1000000
/-! The data layer, part l: comprehensions as expressions; defs. -/
namespace DL
open PySem PySem.Spec PyProof.Rows L2 PySem.SeqAt PySem.W
section
variable {X : Cx} {c : Cfg} {W : WX} {elt tg iter : Expr} {ifs : List Expr} {scope : Scope} {own : List (Str × Nat)} {pos : Pos} {fi : EvI} {is : List Nat} {g : GS} {ft : EvT} {fe : EvD} {q : Bool}
theorem dc_lc (own : List (Str × Nat)) (hc : X.calm = true) (hN : X.N.Nodup) (hi : DI X c W tg iter fi) (ok : BlkOk X.N X.env.scope scope own)
    (hg : ∀ (s : Shared) (H : Hp) (C : Addr) (cl : List (Str × Addr)) (fp : List Addr), DG (X.blk s H scope (compEnvC scope cl C X.env) fp) c tg is g)
    (ht : ∀ (s : Shared) (H : Hp) (C : Addr) (cl : List (Str × Addr)) (fp : List Addr), DTs (X.blk s H scope (compEnvC scope cl C X.env) fp) c W0 ifs ft)
    (he : ∀ (s : Shared) (H : Hp) (C : Addr) (cl : List (Str × Addr)) (fp : List Addr), DE (X.blk s H scope (compEnvC scope cl C X.env) fp) c W0 elt false q fe)
    (his : ∀ i ∈ is, i ∈ own.map (·.2)) (hs : ∀ x, foldedSetIterable iter X.env x = pure x) : DC X c W (.ListComp elt [⟨tg, iter, ifs, 0⟩] scope pos) (compC fi (own.map (·.2)) g ft fe) := by
  obtain ⟨wi, pi, ri⟩ := hi
  exact ⟨_, pe_lc (g := gDG X c is g) (tt := tDTs X c W0 ft) (te := tDE X.K X c W0 false q fe) hc hN pi ok (fun s H C cl fp => (hg s H C cl fp).pg) (fun s H C cl fp => (ht s H C cl fp).pts) (fun s H C cl fp => (he s H C cl fp).pe) hs,
    fun B as σ H s Q sr hw => lc_ref his ri sr hw⟩
/-- name = [..] -/
theorem ds_setLc {i : Nat} {y : Str} {py spos : Pos} {fa : EvV} (own : List (Str × Nat)) (hc : X.calm = true) (hN : X.N.Nodup) (hy : X.N[i]? = some y) (hyl : X.env.scope.names.lookup y = some .local)
    (hsw : swapsWith (.ListComp elt [⟨tg, iter, ifs, 0⟩] scope pos) (some (.Name y py)) spos.line X.env = pure true) (hi : DI X c W tg iter fi) (ok : BlkOk X.N X.env.scope scope own)
    (hg : ∀ (s : Shared) (H : Hp) (C : Addr) (cl : List (Str × Addr)) (fp : List Addr), DG (X.blk s H scope (compEnvC scope cl C X.env) fp) c tg is g)
    (ht : ∀ (s : Shared) (H : Hp) (C : Addr) (cl : List (Str × Addr)) (fp : List Addr), DTs (X.blk s H scope (compEnvC scope cl C X.env) fp) c W0 ifs ft)
    (he : ∀ (s : Shared) (H : Hp) (C : Addr) (cl : List (Str × Addr)) (fp : List Addr), DE (X.blk s H scope (compEnvC scope cl C X.env) fp) c W0 elt false q fe)
    (his : ∀ i ∈ is, i ∈ own.map (·.2)) (hs : ∀ x, foldedSetIterable iter X.env x = pure x)
    (hfa : ∀ (B as : List Addr) (σ : L2.St) (H : Hp) (s : S) (Q : VK), SR X.K c B as H σ s → WantsV X c W (RepV X.K) B as σ H s.env Q (fa s) → WantsC X c W B as σ H s.env Q (compC fi (own.map (·.2)) g ft fe s)) :
    DS X c W (.Assign [.Name y py] (.ListComp elt [⟨tg, iter, ifs, 0⟩] scope pos) spos) (setS i fa) := by
  obtain ⟨wi, pi, ri⟩ := hi
  exact ds_setBy (ps_setLc (g := gDG X c is g) (tt := tDTs X c W0 ft) (te := tDE X.K X c W0 false q fe) hc hN hy hyl hsw pi ok (fun s H C cl fp => (hg s H C cl fp).pg) (fun s H C cl fp => (ht s H C cl fp).pts) (fun s H C cl fp => (he s H C cl fp).pe) hs)
    fun B as σ H s Q sr hw => lc_ref his ri sr (hfa B as σ H s Q sr hw)
theorem wants_pure {B as : List Addr} {σ : L2.St} {H : Hp} {s : S} {f : EvC} {Q : VK} (sr : SR X.K c B as H σ s) (hw : WantsV X c W (RepV X.K) B as σ H s.env Q (pureV (lstOf f) s)) : WantsC X c W B as σ H s.env Q (f s) := by
  unfold pureV lstOf at hw
  cases e : f s with
  | stuck => rw [e] at hw; exact hw
  | exc cl s' =>
    rw [e] at hw
    exact fun H' ev sr' => hw [] H' ev (by simp) (by rw [List.append_nil]; exact sr')
  | ok p =>
    rw [e] at hw
    intro D vs H' ev hn sr' hD rs
    have hw : WantsV X c W (RepV X.K) B as σ H s.env Q (.ok (.pure (.list p.1), p.2)) := hw
    refine hw (.ref D) [] H' ev (by simp) (by rw [List.append_nil]; exact sr'.less fun x hx => List.mem_cons_of_mem _ hx) ?_
    rw [List.append_nil]
    simp only [RepV, RepS, Rep]
    exact ⟨D, vs, rfl, ⟨hD, sr.notnew hn⟩, RepA.avoid (fun x hx => .inl (List.mem_cons_of_mem _ hx)) _ _ rs⟩
end

/-! ### defs -/
def envOf (N : Nat) (svs : List SV) : List (Option SV) := svs.map some ++ List.replicate (N - svs.length) none
def endF (n : Nat) : RS → RE
  | .ok (.ret (.pure d), s') => .ok (d, s'.st.take n)
  | .ok (.ret (.obj j), s') => if n ≤ j then (match s'.st[j]? with
    | some (.lst ds) => .ok (.list ds, s'.st.take n)
    | _ => .stuck) else .stuck
  | .ok (.next, s') => .ok (.none, s'.st.take n)
  | .exc c s' => .exc c ⟨[], s'.st.take n⟩
  | _ => .stuck
def runF (N : Nat) (body : EvS) : FSem := fun svs objs => endF objs.length (body objs.length ⟨envOf N svs, objs⟩)
theorem SR.part {K : PySem.W.Frag} {c : Cfg} {B as L : List Addr} {H : Hp} {σ : L2.St} {s : S} (sr : SR K c B (as ++ L) H σ s) : SR K c B as H [] ⟨[], s.st.take as.length⟩ := by
  have hav : ∀ x ∈ B ++ as, x ∈ B ++ (as ++ L) ∨ H x = none := fun x hx => .inl (by rw [← List.append_assoc]; exact List.mem_append_left _ hx)
  have hal := sr.aslen
  rw [List.length_append] at hal
  refine ⟨rfl, fun i sv q => by simp at q, (List.nodup_append.mp sr.nd).1, by show as.length = (s.st.take as.length).length; rw [List.length_take]; omega, fun i o a h1 h2 => ?_, sr.out, sr.tabs⟩
  have h1' : (s.st.take as.length)[i]? = some o := h1
  have hi := (List.getElem?_eq_some_iff.mp h2).1
  rw [List.getElem?_take_of_lt hi] at h1'
  exact (sr.objs i o a h1' (by rw [List.getElem?_append_left hi]; exact h2)).avoid hav
theorem repSA_get {K : PySem.W.Frag} {av as : List Addr} {H : Hp} : ∀ {svs : List SV} {vs : List V} {i : Nat} {sv : SV}, RepSA K av as H svs vs → svs[i]? = some sv → ∃ v, vs[i]? = some v ∧ RepS K av as H sv v
  | [], _, _, _, _, e => by simp at e
  | d :: ds, vs, 0, x, h, e => by
    obtain ⟨v, r, rfl, h1, h2⟩ := h
    simp only [List.getElem?_cons_zero, Option.some.injEq] at e
    subst e
    exact ⟨v, rfl, h1⟩
  | d :: ds, vs, i + 1, x, h, e => by
    obtain ⟨v, r, rfl, h1, h2⟩ := h
    simpa using repSA_get (i := i) h2 (by simpa using e)
theorem SR.begin {K : PySem.W.Frag} {c : Cfg} {B as : List Addr} {H : Hp} {objs : Sto} {svs : List SV} {vs : List V} {N : List Str} (sr : SR K c B as H [] ⟨[], objs⟩) (r : RepSA K (B ++ as) as H svs vs) : SR K c B as H (L2.start N vs) ⟨envOf N.length svs, objs⟩ := by
  have hl := repSA_len r
  refine ⟨?_, fun i sv q => ?_, sr.nd, sr.aslen, sr.objs, sr.out, sr.tabs⟩
  · unfold L2.start envOf
    simp only [List.length_append, List.length_map, List.length_replicate, hl]
  · have q' : (svs.map some ++ List.replicate (N.length - svs.length) none)[i]? = some (some sv) := q
    have hi : i < svs.length := by
      by_cases hi : i < svs.length
      · exact hi
      · rw [List.getElem?_append_right (by simpa using hi)] at q'
        rw [List.getElem?_replicate] at q'
        split at q' <;> cases q'
    rw [List.getElem?_append_left (by simpa using hi), List.getElem?_map] at q'
    have e : svs[i]? = some sv := by
      cases e : svs[i]? with
      | none => rw [e] at q'; cases q'
      | some a => rw [e] at q'; cases q'; rfl
    obtain ⟨v, hv, rv⟩ := repSA_get r e
    refine ⟨v, ?_, rv⟩
    unfold L2.start
    rw [List.getElem?_append_left (by rw [List.length_map, hl]; exact hi), List.getElem?_map, hv]
    rfl
/-- how exceptions leave the body of a def -/
abbrev WB (E : XK) : WX := fun cls d _ H => E cls d H
section
variable {P : Program} {w : World} {K : PySem.W.Frag} {mg : Str → Option Value} {base : Heap} {c : Cfg} {k : Nat} {x : Str} {st : Stmt} {f : Addr} {fd : FuncData} {N ps : List Str} {body : EvS}
/-- the context of a def's body -/
abbrev bCx (P : Program) (w : World) (K : PySem.W.Frag) (mg : Str → Option Value) (base : Heap) (N : List Str) (x : Str) (st : Stmt) (f : Addr) (cdv : Value) (A : Around) (outer : List Env) (s : Shared) (H : Hp) (E : XK) : Cx :=
  cxOf (L2.CX P w) P w K mg base N x (defScope st) f cdv A outer s H E
theorem body_run {cdv : Value} {A : Around} {outer : List Env} {s : Shared} {H : Hp} {E : XK} {n : Nat} {vs : List V} {Q : VK} (hb : DSs (bCx P w K mg base N x st f cdv A outer s H E) c (WB E) (defBody st) body) (h : spD K c n (runF N.length body) vs H Q E) :
    ∃ t, PSs (bCx P w K mg base N x st f cdv A outer s H E) (defBody st) t ∧ t { nx := fun _ H' => Q .non H', rt := Q } (L2.start N vs) H := by
    obtain ⟨B, as, svs, objs, hl, sr, r, hw⟩ := h
    obtain ⟨t, p, ref⟩ := hb
    refine ⟨t, p, ?_⟩
    refine ref B as [] (L2.start N vs) H ⟨envOf N.length svs, objs⟩ _ ⟨by rw [List.append_nil]; exact sr.begin r, fun _ z => by cases z⟩ ?_
    have hal : as.length = objs.length := sr.aslen
    unfold runF at hw
    rw [hal]
    generalize body objs.length ⟨envOf N.length svs, objs⟩ = R at hw
    have ev0 : ∀ {H' : Hp}, Evo (as ++ []) H H' → Evo as H H' := fun e => by rwa [List.append_nil] at e
    cases R with
    | stuck => exact hw
    | exc cl s' =>
      intro L' σ' H' ev fr srl
      have := srl.sr.part
      rw [hal] at this
      exact hw H' (ev0 ev) this
    | ok q =>
      obtain ⟨fl, s'⟩ := q
      cases fl with
      | next =>
        intro L' σ' H' ev fr srl
        have := srl.sr.part
        rw [hal] at this
        exact hw .non H' (ev0 ev) this (by simp [Rep])
      | brk => exact hw.elim
      | cont => exact hw.elim
      | ret sv =>
        intro L' σ' H' ev fr srl v rv
        have hp := srl.sr.part
        rw [hal] at hp
        have hav : ∀ y ∈ B ++ as, y ∈ B ++ (as ++ L') ∨ H' y = none := fun y hy => .inl (by rw [← List.append_assoc]; exact List.mem_append_left _ hy)
        cases sv with
        | scr ds => exact hw.elim
        | pure d => exact hw v H' (ev0 ev) hp (Rep.avoid hav d v rv)
        | obj j =>
          unfold endF at hw
          by_cases hj : objs.length ≤ j
          · simp only [if_pos hj] at hw
            cases ej : s'.st[j]? with
            | none => rw [ej] at hw; exact hw.elim
            | some o =>
              rw [ej] at hw
              cases o with
              | lst ds =>
                obtain ⟨a, ea, rfl⟩ := rv
                obtain ⟨us, hu, ru⟩ := srl.sr.objs j _ a ej ea
                refine hw (.ref a) H' (ev0 ev) hp ?_
                simp only [Rep]
                refine ⟨a, us, rfl, ⟨hu, ?_⟩, RepA.avoid hav _ _ ru⟩
                rw [List.getElem?_append_right (by omega)] at ea
                exact srl.off a (List.mem_of_getElem? ea)
              | dK _ => exact hw.elim
              | dM _ => exact hw.elim
              | dead => exact hw.elim
          · simp only [if_neg hj] at hw
theorem fn_ok (F : L2.Fun K x x st f fd) (S : FnScope N ps (defScope st))
    (hb : ∀ (cdv : Value) (A : Around) (outer : List Env) (s : Shared) (H : Hp) (E : XK), Room k (bCx P w K mg base N x st f cdv A outer s H E).A → DSs (bCx P w K mg base N x st f cdv A outer s H E) c (WB E) (defBody st) body) :
    FnOk P w K mg base (L2.CX P w) (k + 1) f fd ps (spD K c ps.length (runF N.length body)) := by
  refine F.okX S (fun vs H Q E h => ?_) fun cdv A outer s H vs Q E hr h => ?_
  · obtain ⟨B, as, svs, objs, hl, sr, r, _⟩ := h
    rw [repSA_len r, hl]
  · exact body_run (hb cdv A outer s H E hr) h
/-! a def that hands out a new list -/
def spN (K : PySem.W.Frag) (c : Cfg) (n : Nat) (F : FSem) : Sp := fun vs H Q E => ∃ (B as : List Addr) (svs : List SV) (objs : Sto), svs.length = n ∧ SR K c B as H [] ⟨[], objs⟩ ∧ RepSA K (B ++ as) as H svs vs ∧
  match F svs objs with
  | .ok (.list ds, st') => ∀ D us H', Evo as H H' → H D = none → SR K c (D :: B) as H' [] ⟨[], st'⟩ → H' D = some (.lst us) → RepA K ((D :: B) ++ as) H' ds us → Q (.ref D) H'
  | .exc cl s' => ∀ H', Evo as H H' → SR K c B as H' [] ⟨[], s'.st⟩ → E (c.cls cl) none H'
  | _ => False
def endN (n : Nat) : RS → RE
  | .ok (.ret (.obj j), s') => if n ≤ j then (match s'.st[j]? with
    | some (.lst ds) => .ok (.list ds, s'.st.take n)
    | _ => .stuck) else .stuck
  | .exc c s' => .exc c ⟨[], s'.st.take n⟩
  | _ => .stuck
def runN (N : Nat) (body : EvS) : FSem := fun svs objs => endN objs.length (body objs.length ⟨envOf N svs, objs⟩)
theorem body_runN {cdv : Value} {A : Around} {outer : List Env} {s : Shared} {H : Hp} {E : XK} {n : Nat} {vs : List V} {Q : VK} (hb : DSs (bCx P w K mg base N x st f cdv A outer s H E) c (WB E) (defBody st) body) (h : spN K c n (runN N.length body) vs H Q E) :
    ∃ t, PSs (bCx P w K mg base N x st f cdv A outer s H E) (defBody st) t ∧ t { nx := fun _ H' => Q .non H', rt := Q } (L2.start N vs) H := by
    obtain ⟨B, as, svs, objs, hl, sr, r, hw⟩ := h
    obtain ⟨t, p, ref⟩ := hb
    refine ⟨t, p, ?_⟩
    refine ref B as [] (L2.start N vs) H ⟨envOf N.length svs, objs⟩ _ ⟨by rw [List.append_nil]; exact sr.begin r, fun _ z => by cases z⟩ ?_
    have hal : as.length = objs.length := sr.aslen
    unfold runN at hw
    rw [hal]
    generalize body objs.length ⟨envOf N.length svs, objs⟩ = R at hw
    have ev0 : ∀ {H' : Hp}, Evo (as ++ []) H H' → Evo as H H' := fun e => by rwa [List.append_nil] at e
    cases R with
    | stuck => exact hw
    | exc cl s' =>
      intro L' σ' H' ev fr srl
      have := srl.sr.part
      rw [hal] at this
      exact hw H' (ev0 ev) this
    | ok q =>
      obtain ⟨fl, s'⟩ := q
      cases fl with
      | next => exact hw.elim
      | brk => exact hw.elim
      | cont => exact hw.elim
      | ret sv =>
        cases sv with
        | scr ds => exact hw.elim
        | pure d => exact hw.elim
        | obj j =>
          unfold endN at hw
          by_cases hj : objs.length ≤ j
          · simp only [if_pos hj] at hw
            cases ej : s'.st[j]? with
            | none => rw [ej] at hw; exact hw.elim
            | some o =>
              rw [ej] at hw
              cases o with
              | lst ds =>
                intro L' σ' H' ev fr srl v rv
                obtain ⟨a, ea, rfl⟩ := rv
                obtain ⟨us, hu, ru⟩ := srl.sr.objs j _ a ej ea
                have hp := srl.sr.part
                rw [hal] at hp
                rw [List.getElem?_append_right (by omega)] at ea
                have haL := List.mem_of_getElem? ea
                have hav : ∀ y ∈ (a :: B) ++ as, y ∈ B ++ (as ++ L') ∨ H' y = none := fun y hy => .inl (by
                  rw [← List.append_assoc]
                  rcases List.mem_append.mp hy with z | z
                  · rcases List.mem_cons.mp z with z | z
                    · rw [z]; exact List.mem_append_right _ haL
                    · exact List.mem_append_left _ (List.mem_append_left _ z)
                  · exact List.mem_append_left _ (List.mem_append_right _ z))
                refine hw a us H' (ev0 ev) ((fr a haL).resolve_left (by simp)) ⟨rfl, fun i sv q => by simp at q, hp.nd, hp.aslen, fun i o b h1 h2 => ?_, fun b hb => ?_, hp.tabs⟩ hu (RepA.avoid hav _ _ ru)
                · have h1' : (s'.st.take objs.length)[i]? = some o := h1
                  have hi := (List.getElem?_eq_some_iff.mp h2).1
                  rw [List.getElem?_take_of_lt (by omega)] at h1'
                  exact (srl.sr.objs i o b h1' (by rw [List.getElem?_append_left hi]; exact h2)).avoid hav
                · rcases List.mem_cons.mp hb with z | z
                  · rw [z, hu]; simp
                  · exact hp.out b z
              | dK _ => exact hw.elim
              | dM _ => exact hw.elim
              | dead => exact hw.elim
          · simp only [if_neg hj] at hw
theorem fn_okN (F : L2.Fun K x x st f fd) (S : FnScope N ps (defScope st))
    (hb : ∀ (cdv : Value) (A : Around) (outer : List Env) (s : Shared) (H : Hp) (E : XK), Room k (bCx P w K mg base N x st f cdv A outer s H E).A → DSs (bCx P w K mg base N x st f cdv A outer s H E) c (WB E) (defBody st) body) :
    FnOk P w K mg base (L2.CX P w) (k + 1) f fd ps (spN K c ps.length (runN N.length body)) := by
  refine F.okX S (fun vs H Q E h => ?_) fun cdv A outer s H vs Q E hr h => ?_
  · obtain ⟨B, as, svs, objs, hl, sr, r, _⟩ := h
    rw [repSA_len r, hl]
  · exact body_runN (hb cdv A outer s H E hr) h
/-- a def of the text, under its name -/
structure Def (K : PySem.W.Frag) (mg : Str → Option Value) (x : Str) (st : Stmt) (ps : List Str) : Prop where
  ex : ∃ (f : Addr) (fd : FuncData), L2.Fun K x x st f fd ∧ mg x = some (.ref f) ∧ Binds K fd ps []
/-- a def that may be called: what it does -/
structure Cal (P : Program) (w : World) (K : PySem.W.Frag) (mg : Str → Option Value) (base : Heap) (k : Nat) (x : Str) (sp : Sp) : Prop where
  ex : ∃ (f : Addr) (fd : FuncData) (ps : List Str), FnOk P w K mg base (L2.CX P w) k f fd ps sp ∧ mg x = some (.ref f) ∧ PySem.W.keepIn K (.ref f) = true ∧ Binds K fd ps []
theorem Cal.mono {j : Nat} {sp : Sp} (C : Cal P w K mg base j x sp) (h : j ≤ k) : Cal P w K mg base k x sp := by
  obtain ⟨f, fd, ps, a, r⟩ := C.ex
  exact ⟨f, fd, ps, a.mono h, r⟩
theorem cal_of (D : Def K mg x st ps) (S : FnScope N ps (defScope st))
    (hb : ∀ (f : Addr) (cdv : Value) (A : Around) (outer : List Env) (s : Shared) (H : Hp) (E : XK), Room k (bCx P w K mg base N x st f cdv A outer s H E).A → DSs (bCx P w K mg base N x st f cdv A outer s H E) c (WB E) (defBody st) body) :
    Cal P w K mg base (k + 1) x (spD K c ps.length (runF N.length body)) := by
  obtain ⟨f, fd, F, g, b⟩ := D.ex
  exact ⟨f, fd, ps, fn_ok F S (hb f), g, F.kp, b⟩
theorem cal_ofN (D : Def K mg x st ps) (S : FnScope N ps (defScope st))
    (hb : ∀ (f : Addr) (cdv : Value) (A : Around) (outer : List Env) (s : Shared) (H : Hp) (E : XK), Room k (bCx P w K mg base N x st f cdv A outer s H E).A → DSs (bCx P w K mg base N x st f cdv A outer s H E) c (WB E) (defBody st) body) :
    Cal P w K mg base (k + 1) x (spN K c ps.length (runN N.length body)) := by
  obtain ⟨f, fd, F, g, b⟩ := D.ex
  exact ⟨f, fd, ps, fn_okN F S (hb f), g, F.kp, b⟩
end
/-! ### calls -/
section
variable {X : Cx} {c : Cfg} {W : WX} {k j n : Nat} {F : FSem} {x : Str} {p pos : Pos} {e : Expr} {es : List Expr} {fa : EvA} {qa : Bool}
theorem de_fn (C : Cal X.prog X.w X.K X.mg X.base j x (spD X.K c n F)) (hr : Room k X.A) (hk : j ≤ k) (hg : Gl X x) (tk : Takes X W) (ha : DA X c W (e :: es) qa fa) (hdb : (x == ("__debug__" : Str)) = false) (he : starEach (e :: es) X.env = (false, eval e X.env) :: starEach es X.env)
    (hpl : (backTo pos (starEach es X.env)).any (·.1) = false) : DE X c W (.Call (.Name x p) (e :: es) [] pos) false false (callE n F fa) := by
  obtain ⟨f, fd, ps, G, hm, kp, b⟩ := C.ex
  obtain ⟨ta, pa, ra⟩ := ha
  refine ⟨_, pe_callSD (dvs := []) (E := fun σ cls d H => W cls d σ H) (G.mono hk) hr hg hm kp b .nil (fun σ => passAt tk σ) pa hdb he hpl, fun B as σ H s Q sr hw => ?_⟩
  show ta σ H fun vs H1 => spD X.K c n F (vs ++ []) H1 Q _
  simp only [List.append_nil]
  unfold callE at hw
  refine WantsG.bindL (s := s) hw sr ra fun vs H1 svs st1 e1 ev1 sr1 r1 hw1 => ?_
  exact callS_ref sr1 r1 hw1
def listC : RE → RC
  | .ok (.list ds, st) => .ok (ds, st)
  | .ok _ => .stuck
  | .exc c s => .exc c s
  | .stuck => .stuck
def callC (n : Nat) (F : FSem) (f : EvA) : EvC := fun s => (f s).bind fun p => listC (callS n F p.1 ⟨s.env, p.2⟩)
theorem dc_fn (C : Cal X.prog X.w X.K X.mg X.base j x (spN X.K c n F)) (hr : Room k X.A) (hk : j ≤ k) (hg : Gl X x) (tk : Takes X W) (ha : DA X c W (e :: es) qa fa) (hdb : (x == ("__debug__" : Str)) = false) (he : starEach (e :: es) X.env = (false, eval e X.env) :: starEach es X.env)
    (hpl : (backTo pos (starEach es X.env)).any (·.1) = false) : DC X c W (.Call (.Name x p) (e :: es) [] pos) (callC n F fa) := by
  obtain ⟨f, fd, ps, G, hm, kp, b⟩ := C.ex
  obtain ⟨ta, pa, ra⟩ := ha
  refine ⟨_, pe_callSD (dvs := []) (E := fun σ cls d H => W cls d σ H) (G.mono hk) hr hg hm kp b .nil (fun σ => passAt tk σ) pa hdb he hpl, fun B as σ H s Q sr hw => ?_⟩
  show ta σ H fun vs H1 => spN X.K c n F (vs ++ []) H1 Q _
  simp only [List.append_nil]
  unfold callC at hw
  refine WantsC.bindG (s := s) hw sr ra fun vs H1 svs st1 e1 ev1 sr1 r hw => ?_
  unfold callS at hw
  split at hw
  · rename_i hc
    obtain ⟨hn, nd⟩ := hc
    simp only at hw
    split at hw
    · rename_i objs hg
      obtain ⟨g1, g2⟩ := gather_get hg
      have hal : as.length = st1.length := sr1.aslen
      have hlt : ∀ (k i : Nat), (idsOf svs)[k]? = some i → i < as.length := fun k i h => by rw [hal]; exact (g2 k i h).2
      have hsub : ∀ x ∈ asC as (idsOf svs), x ∈ as := fun x h => asC_in hlt h
      refine ⟨B ++ as, asC as (idsOf svs), svs.map (renum (idsOf svs)), objs, by rw [List.length_map]; exact hn, sr1.callee nd hg, repSA_renum hlt (fun i h => idsOf_mem h) r, ?_⟩
      generalize F (svs.map (renum (idsOf svs))) objs = R at hw ⊢
      cases R with
      | stuck => exact hw
      | exc cl s' => exact fun H' ev sr' => hw H' (ev.mono hsub) (sr1.back nd hg ev sr')
      | ok q =>
        obtain ⟨d, st'⟩ := q
        cases d with
        | list ds =>
          intro D us H' ev hD sr' hu ru
          have hav : ∀ y ∈ (D :: B) ++ as, y ∈ D :: (B ++ as) := fun y hy => hy
          have srD : SR X.K c (D :: B) as (upd H1 D (.lst [])) σ ⟨s.env, st1⟩ := sr1.outN hD
          have hDas : D ∉ as := not_as sr1 hD
          -- the caller's own state, with the new list outside
          have evD : Evo (asC as (idsOf svs)) H1 H' := ev
          have base : SR X.K c (D :: B) as H' σ ⟨s.env, scatter st1 (idsOf svs) st'⟩ := by
            have hg' := hg
            have srD' : SR X.K c (D :: B) as (upd H1 D (.lst us)) σ ⟨s.env, st1⟩ := sr1.outN hD
            refine SR.back (H := upd H1 D (.lst us)) srD' nd hg ?_ ?_
            · refine ⟨fun a o q n t => ?_, fun a c P q => ?_, fun a ps q => ?_, fun P t => ev.tab P (t.kept (fun a ps q => ?_) fun a c P q => ?_)⟩
              · by_cases e : a = D
                · rw [e, upd_same] at q; cases q; rw [e]; exact hu
                · rw [upd_ne e] at q; exact ev.keep a o q n t
              · by_cases e : a = D
                · rw [e, upd_same] at q; cases q
                · rw [upd_ne e] at q; exact ev.ext a c P q
              · by_cases e : a = D
                · rw [e, upd_same] at q; cases q
                · rw [upd_ne e] at q; exact ev.tbl a ps q
              · by_cases e : a = D
                · rw [e, upd_same] at q; cases q
                · rw [upd_ne e] at q; exact q
              · by_cases e : a = D
                · rw [e, upd_same] at q; cases q
                · rw [upd_ne e] at q; exact q
            · exact sr'
          refine hw D us H' (ev.mono hsub) hD base hu (RepA.avoid (fun x hx => .inl ?_) _ _ ru)
          exact List.mem_append_left _ hx
        | _ => exact hw
    · exact hw.elim
  · exact hw.elim
theorem takesB {P : Program} {w : World} {K : PySem.W.Frag} {mg : Str → Option Value} {base : Heap} {N : List Str} {x : Str} {st : Stmt} {f : Addr} {cdv : Value} {A : Around} {outer : List Env} {s : Shared} {H : Hp} {E : XK} : Takes (bCx P w K mg base N x st f cdv A outer s H E) (WB E) :=
  takes_of rfl rfl rfl rfl
theorem passesB {P : Program} {w : World} {K : PySem.W.Frag} {mg : Str → Option Value} {base : Heap} {N : List Str} {x : Str} {st : Stmt} {f : Addr} {cdv : Value} {A : Around} {outer : List Env} {s : Shared} {H : Hp} {E : XK} :
    PassesOwn (model (bCx P w K mg base N x st f cdv A outer s H E).prog (bCx P w K mg base N x st f cdv A outer s H E).w) (bCx P w K mg base N x st f cdv A outer s H E).A (bCx P w K mg base N x st f cdv A outer s H E).env (bCx P w K mg base N x st f cdv A outer s H E).xe :=
  passes_of rfl
theorem takesW0 {X : Cx} : Takes X W0 := takes0
end
end DL
end
section
set_option Elab.async false
set_option linter.all false
set_option maxRecDepth 100000
set_option maxHeartbeats 1000000
/-! The data layer, part m: all(..), any(..) of a generator expression, its element any expression. -/
namespace DL
open PySem PySem.Spec PyProof.Rows L2 PySem.SeqAt PySem.W GxR GenW

/-- the block of a generator expression: it starts at s; its frame at C -/
abbrev gCx (X : Cx) (A : Around) (s : Shared) (H : Hp) (scope : Scope) (C : Addr) (cl : List (Str × Addr)) (code : Value) (fp : List Addr) (pn : List (Addr × Obj)) : Cx :=
  { X with A := A, s_0 := s, H_0 := H, env := genEnv scope cl C code builtinsNs X.env, outer := X.stack, stack := genEnv scope cl C code builtinsNs X.env :: X.stack, ex := fp, fn := fun x => scope.names.lookup x == some .cell, pn := pn, xe := fun _ _ => False }
structure GenOk (N : List Str) (sc scope : Scope) (own : List (Str × Nat)) : Prop where
  kind : scope.kind = .function
  co : scope.isCoroutine = false
  dot : scope.names.lookup (".0" : Str) = some NameKind.local
  uniq : ∀ y ∈ scope.names, scope.names.lookup y.1 = some y.2
  ix : ∀ p ∈ own, N[p.2]? = some p.1
  free : ∀ y ∈ scope.names, y.2 = .free → sc.names.lookup y.1 = some .cell ∨ sc.names.lookup y.1 = some .free
  own : ∀ y ∈ scope.names, y.2 = .local ∨ y.2 = .cell → y.1 ∈ own.map (·.1) ∨ y.1 ∉ N
section
variable {X : Cx} {pins : List (Addr × Obj)} {σ : L2.St} {H : Hp} {s s' : Shared}
/-- the cells of a generator's frame at C -/
abbrev clG (X : Cx) (scope : Scope) (C : Addr) : List (Str × Addr) := cellsFrom (C + 1) scope.names (cloFrom X.env.cells scope.names [])
/-- the heap with the new frame and its empty cells -/
abbrev frG (h : Heap) (scope : Scope) : Heap := pushCells (h.push { cls := .type "frame", data := .dict #[] }) scope.names
theorem frG_keeps {h : Heap} {scope : Scope} : ∀ b o, h.get? b = some o → (frG h scope).get? b = some o := fun b o e => pushCells_keeps _ _ b o (Heap.get?_push_of_some _ e)
theorem gen_make {M : Model} {A : Around} {E : Value → Shared → Prop} {s : Shared} {env : Env} {elt target iter : Expr} {ifs : List Expr} {scope : Scope} {cl : List (Str × Addr)} {pos : Pos} {Q : Value → Shared → Prop}
    (hco : scope.isCoroutine = false) (hclos : closureFor scope env = pure cl) (h0 : scope.names.lookup (".0" : Str) = some NameKind.local) (hkind : scope.kind = .function) (hroom : A.depth < recursionLimit)
    (h : wpAny M A (eval iter env) (fun xv s₁ => wpAny M A (pyIter xv) (fun it s₂ => s₂.heap.NoLimit ∧
      wpAny M A (genexprCode env pos (env.qual ++ "<genexpr>") scope) (fun code s₃ => wpAny M A (builtinsFor env.globals env.builtins) (fun bi s₄ =>
        ∀ h', h'.Ns s₄.heap.objs.size (fun y => if y = ".0" then some it else none) → Heap.SameBut s₄.heap.objs.size (frG s₄.heap scope) h' →
          Q (.ref h'.objs.size) { s₄ with
            gens := s₄.gens.push (.fresh (.compStart (.GeneratorExp elt [⟨target, iter, ifs, 0⟩] scope pos) 0 it .none (genEnv scope (cellsFrom (s₄.heap.objs.size + 1) scope.names cl) s₄.heap.objs.size code bi env))),
            toks := s₄.toks + 1 + 1 + 1,
            heap := h'.push { cls := .type "generator", data := .fields #[.int s₄.gens.size 0, .str "<genexpr>" (s₄.toks + 1), .str (env.qual ++ "<genexpr>") (s₄.toks + 1 + 1)] } }) E s₃) E s₂) E s₁) E s)
    (hs : ∀ x, genFold iter env x = pure x) : wpAny M A (eval (.GeneratorExp elt [⟨target, iter, ifs, 0⟩] scope pos) env) Q E s := by
  rw [eval_GeneratorExp1 _ _ _ _ _ _ _ hco, hclos]
  refine wpAny_bind (wpAny_mono h (fun xv s₁ h₁ => ?_) fun _ _ e => e)
  refine wpAny_bind (wpAny_standAt ?_)
  refine wpAny_bind (wpAny_of_eq (hs xv) ?_)
  refine wpAny_bind (wpAny_holding (wpAny_mono h₁ (fun it s₂ h₂ => ?_) fun _ _ e => e))
  refine wpAny_bind (wpAny_enterFrame h₂.1 hroom ?_)
  refine wpAny_bind (wpAny_pure ?_)
  refine wpAny_bind (wpAny_mono h₂.2 (fun code s₃ h₃ => ?_) fun _ _ e => e)
  refine wpAny_bind (wpAny_mono h₃ (fun bi s₄ h₄ => ?_) fun _ _ e => e)
  refine wpAny_bind ?_
  simp only [newFunctionEnv, Option.isSome_none, Bool.false_eq_true, if_false]
  refine wpAny_bind (wpAny_alloc ?_)
  refine wpAny_bind (wpAny_layCells _ (fun name kind cells => by cases hkc : kind == NameKind.cell <;> simp [hkc]) _ _ _ _ ?_)
  rw [show ({ s₄ with heap := s₄.heap.push { cls := .type "frame", data := .dict #[] } } : Shared).heap.objs.size = s₄.heap.objs.size + 1 from Heap.size_push ..]
  simp only [List.forIn_cons, List.forIn_nil]
  refine wpAny_bind (wpAny_bind (wpAny_bind (wpAny_storeName_local (m := fun _ => none) h0 ((Heap.Ns.new s₄.heap (.type "frame")).keeps (pushCells_keeps _ _)) (fun h' hn' hs' => wpAny_pure (wpAny_pure (wpAny_pure ?_))) (by rw [hkind]; rfl))))
  simp only [newGenerator, newFields]
  refine wpAny_bind (wpAny_newGen (wpAny_bind (wpAny_mkText (wpAny_bind (wpAny_mkText (wpAny_newObj_type ?_ (by size_fits)))))))
  exact h₄ h' hn' hs'
theorem gen_start {scope : Scope} {own : List (Str × Nat)} {fp : List Addr} {A : Around} {code it : Value} {a : Addr} {go : Obj} (I : Inv X pins σ H s) (ok : GenOk X.N X.env.scope scope own) (hN : X.N.Nodup) (hfp : ∀ b ∈ fp, FpOk X pins H b ∧ b < s.heap.objs.size)
    (hA : A.frames = some (genEnv scope (clG X scope s.heap.objs.size) s.heap.objs.size code builtinsNs X.env :: X.stack)) (hd : X.calm = true → A.handled = none)
    (kp : ∀ b o, s.heap.get? b = some o → s'.heap.get? b = some o) (hns : s'.heap.Ns s.heap.objs.size (fun y => if y = ".0" then some it else none)) (hcl : ∀ c, s.heap.objs.size + 1 ≤ c → (frG s.heap scope).IsCell c none → s'.heap.IsCell c none) (hos : s'.os = s.os) (hg : AllBare s'.gens)
    (ha : s'.heap.get? a = some go) (hsa : s.heap.objs.size < a) (hgd : ∀ v, go.data ≠ .cell v) :
    Inv (gCx X A s H scope s.heap.objs.size (clG X scope s.heap.objs.size) code fp [(a, go)]) [] (L2.wipe σ (own.map (·.2))) H s' := by
  have hfree : ∀ y ∈ scope.names, y.2 = .free → ∃ c, X.env.cells.lookup y.1 = some c := fun y hy e => by
    rcases ok.free y hy e with k | k
    · exact I.ok.has _ (.inl k)
    · exact I.ok.has _ (.inr k)
  have cm : ∀ {y c}, (y, c) ∈ cloFrom X.env.cells scope.names [] → X.env.cells.lookup y = some c ∧ c < s.heap.objs.size := fun {y c} e => by
    rcases cloFrom_mem e with hm | ⟨h1, rfl⟩
    · cases hm
    · obtain ⟨c, hc⟩ := hfree _ h1 rfl
      rw [hc]
      obtain ⟨w, z⟩ := I.cell _ _ hc
      exact ⟨rfl, z.lt⟩
  have sz : (s.heap.push { cls := .type "frame", data := .dict #[] }).objs.size = s.heap.objs.size + 1 := Heap.size_push ..
  -- where a cell is from
  have mem : ∀ {y c}, (clG X scope s.heap.objs.size).lookup y = some c → (X.env.cells.lookup y = some c ∧ c < s.heap.objs.size) ∨ ((y, NameKind.cell) ∈ scope.names ∧ s.heap.objs.size + 1 ≤ c ∧ s'.heap.IsCell c none) := fun {y c} e => by
    have e : (cellsFrom (s.heap.objs.size + 1) scope.names (cloFrom X.env.cells scope.names [])).lookup y = some c := e
    rw [← sz] at e
    rcases cells_mem (PySem.mem_of_lookup e) with hm | ⟨h1, h2, h3⟩
    · exact .inl (cm hm)
    · rw [sz] at h2
      exact .inr ⟨h1, h2, hcl c h2 h3⟩
  have look : ∀ {y}, scope.names.lookup y = some .free → ∃ c, (clG X scope s.heap.objs.size).lookup y = some c ∧ X.env.cells.lookup y = some c := fun {y} hl => by
    have hy : (y, NameKind.free) ∈ scope.names := PySem.mem_of_lookup hl
    obtain ⟨c', e'⟩ := mem_lookup (cells_acc (names := scope.names) (n := s.heap.objs.size + 1) (cloFrom_has (cells := X.env.cells) (acc := []) hy))
    refine ⟨c', e', ?_⟩
    rcases mem e' with ⟨h1, _⟩ | ⟨h1, _⟩
    · exact h1
    · have := ok.uniq _ h1
      rw [hl] at this; cases this
  have lt_a : s.heap.objs.size ≤ a := Nat.le_of_lt hsa
  have okB : (gCx X A s H scope s.heap.objs.size (clG X scope s.heap.objs.size) code fp [(a, go)]).Ok := by
    refine ⟨I.ok.mod, ok.kind, I.ok.glob, rfl, Nat.le_refl _, fun y z c e1 e2 => ?_, fun y hy => ?_, fun y c z e => ?_, hd, hA, .inr ⟨rfl, rfl⟩, fun b hb => ⟨Nat.ne_of_lt (hfp b hb).2, fun y c e z => ?_⟩, I.bs, Nat.le_trans I.ok.bsz I.sz,
      fun b o e hb => ?_, fun b hb z => ?_, I.stack, I.stkFree⟩
    · have e1 : (cellsFrom (s.heap.objs.size + 1) scope.names (cloFrom X.env.cells scope.names [])).lookup y = some c := e1
      have e2 : (cellsFrom (s.heap.objs.size + 1) scope.names (cloFrom X.env.cells scope.names [])).lookup z = some c := e2
      rw [← sz] at e1 e2
      refine cells_inj (fun p hp => ?_) (fun y z c a b => I.ok.inj y z c (cm a).1 (cm b).1) (PySem.mem_of_lookup e1) (PySem.mem_of_lookup e2)
      rw [sz]
      exact Nat.lt_succ_of_lt (cm (y := p.1) (c := p.2) hp).2
    · have hy : scope.names.lookup y = some .cell ∨ scope.names.lookup y = some .free := hy
      rcases hy with hy | hy
      · obtain ⟨c, hm⟩ := cells_has (n := s.heap.objs.size + 1) (acc := cloFrom X.env.cells scope.names []) (PySem.mem_of_lookup hy)
        exact mem_lookup hm
      · obtain ⟨c, h1, _⟩ := look hy
        exact ⟨c, h1⟩
    · have z : (scope.names.lookup y == some NameKind.cell) = true := z
      have z : scope.names.lookup y = some .cell := by simpa using z
      have e : (cellsFrom (s.heap.objs.size + 1) scope.names (cloFrom X.env.cells scope.names [])).lookup y = some c := e
      rw [← sz] at e
      rcases cells_mem (PySem.mem_of_lookup e) with hm | ⟨_, h2, _⟩
      · rcases cloFrom_mem hm with hm | ⟨h1, _⟩
        · cases hm
        · have q := ok.uniq _ h1
          rw [z] at q; cases q
      · rw [sz] at h2
        exact Nat.le_of_succ_le h2
    · rcases mem (show (clG X scope s.heap.objs.size).lookup y = some c from e) with ⟨h1, _⟩ | ⟨_, h1, _⟩
      · exact (hfp b hb).1.2.2.2.2.1 y c h1 z
      · have h2 : s.heap.objs.size + 1 ≤ b := by rw [← z]; exact h1
        exact absurd (Nat.lt_of_lt_of_le (hfp b hb).2 (Nat.le_of_succ_le h2)) (Nat.lt_irrefl _)
    · rcases (hfp b hb).1.2.2.2.1 with z | z
      · exact I.ok.noex b o e z
      · exact absurd (Nat.lt_of_lt_of_le (Heap.lt_size e) (Nat.le_trans I.ok.bsz z)) (Nat.lt_irrefl _)
    · rcases List.mem_cons.mp (I.stkSub b z) with z | z
      · exact (hfp b hb).1.2.1 z
      · exact (hfp b hb).1.2.2.1 z
  refine ⟨okB, hos, hg, Un.kept kp, ⟨_, hns, fun i y av e1 e2 e3 => ?_⟩, fun y c e => ?_, I.hok.fresh (Nat.le_refl _), fun y c e => ?_, fun p hp => ?_, I.hok.kept kp, by rw [wipe_length]; exact I.len⟩
  · obtain ⟨e2, hne⟩ := wipe_some e2
    have hfr : scope.names.lookup y = some .free := by
      have no : ¬ (scope.names.lookup y = some .local ∨ scope.names.lookup y = some .cell) := fun e => by
        have key : ∀ k, scope.names.lookup y = some k → k = .local ∨ k = .cell → False := fun k ek hk => by
          rcases ok.own _ (PySem.mem_of_lookup ek) hk with e' | e'
          · obtain ⟨p, hp, hpy⟩ := List.mem_map.mp e'
            have e3 := ok.ix p hp
            have : p.1 = y := hpy
            rw [this] at e3
            exact hne (List.mem_map.mpr ⟨p, hp, nodup_ix hN e3 e1⟩)
          · exact e' (List.mem_of_getElem? e1)
        rcases e with e | e
        · exact key _ e (.inl rfl)
        · exact key _ e (.inr rfl)
      have e3 : Vis scope y := e3
      rcases e3 with e3 | e3 | e3
      · exact absurd (.inl e3) no
      · exact absurd (.inr e3) no
      · exact e3
    obtain ⟨m, hn, hl⟩ := I.loc
    have hvis : Vis X.env.scope y := (ok.free _ (PySem.mem_of_lookup hfr) rfl).elim (fun k => .inr (.inl k)) (fun k => .inr (.inr k))
    obtain ⟨w, r, q⟩ := hl i y av e1 e2 hvis
    refine ⟨w, r, .inr ⟨.inr hfr, ?_⟩⟩
    obtain ⟨c, h1, h2⟩ := look hfr
    rcases q with ⟨k, _⟩ | ⟨_, c', e', z⟩
    · have k : X.env.scope.names.lookup y = some .local := k
      rcases ok.free _ (PySem.mem_of_lookup hfr) rfl with k' | k' <;> rw [show X.env.scope.names.lookup y = _ from k'] at k <;> cases k
    · rw [h2] at e'; cases e'
      exact ⟨c, h1, z.keeps kp⟩
  · rcases mem (show (clG X scope s.heap.objs.size).lookup y = some c from e) with ⟨h1, _⟩ | ⟨_, _, h1⟩
    · obtain ⟨w, z⟩ := I.cell y c h1
      exact ⟨w, z.keeps kp⟩
    · exact ⟨_, h1⟩
  · rcases mem (show (clG X scope s.heap.objs.size).lookup y = some c from e) with ⟨h1, _⟩ | ⟨_, h1, _⟩
    · exact I.freeC y c h1
    · exact I.hok.fresh (Nat.le_of_succ_le h1)
  · have hp : p ∈ [(a, go)] := by simpa using hp
    rw [List.mem_singleton.mp hp]
    refine ⟨ha, I.hok.fresh lt_a, Nat.ne_of_gt hsa, fun z => ?_, hgd⟩
    have z : a ∈ frs X.stack := z
    obtain ⟨_, o, ho, _⟩ := I.stack.mem z
    exact absurd (Nat.lt_of_lt_of_le (Heap.lt_size ho) lt_a) (Nat.lt_irrefl _)
/-- the generator's code, as a frame -/
theorem over_loopG {A : Around} {elt tg iter : Expr} {ifs : List Expr} {scope : Scope} {pos : Pos} {it acc : Value} {env : Env} : A.over (.compLoop (.GeneratorExp elt [⟨tg, iter, ifs, 0⟩] scope pos) 0 it acc env) [] = A.deeper env := by
  rfl
theorem over_startG {A : Around} {elt tg iter : Expr} {ifs : List Expr} {scope : Scope} {pos : Pos} {it acc : Value} {env : Env} : A.over (.compStart (.GeneratorExp elt [⟨tg, iter, ifs, 0⟩] scope pos) 0 it acc env) [] = A.deeper env := by
  rfl
/-- the turns of the generator: what all and any need -/
structure QRun (J : It) (vs : List Nat) (σ0 : L2.St) (W : Nat → Nat → Hp → Prop) (stopAt : Bool) (Q : VK) (g : TG) (tt : TT) (te : TE) : Prop where
  turn : ∀ i m H, W i m H → (J.stop i H ∧ Q (.bl (!stopAt)) H) ∨ (J.go i H ∧ ∃ Nx : Hp → Prop, (∀ H', Nx H' → ∃ m', m' < m ∧ W (i + 1) m' H') ∧ ∀ x H', J.yld i H x H' → g x σ0 H' fun (σ2 : L2.St) (H3 : Hp) => L2.wipe σ2 vs = σ0 ∧
    tt σ2 H3 fun b H4 => if b = true then te σ2 H4 fun y H5 => ∃ k, y = .bl k ∧ (if k = stopAt then Q (.bl stopAt) H5 else Nx H5) else Nx H4)
def QInv (Xg : Cx) (fp : List Addr) (tn : Nat → Heap → Prop) (σ0 : L2.St) (W : Nat → Nat → Hp → Prop) (n : Nat) (s : Shared) : Prop :=
  ∃ i H', Inv Xg [] σ0 H' s ∧ tn i s.heap ∧ (∀ b ∈ fp, H' b = none) ∧ W i n H'
def QEnd (Xg : Cx) (σ0 : L2.St) (stopAt : Bool) (Q : VK) (s₁ : Shared) : Prop := ∃ H', Inv Xg [] σ0 H' s₁ ∧ Q (.bl (!stopAt)) H'
def QR (Xg : Cx) (σ0 : L2.St) (stopAt : Bool) (Q : VK) : GenEnd := fun _ _ r s₁ => ((r = .ok (.ret .none) ∨ r = .ok .next) ∧ QEnd Xg σ0 stopAt Q s₁) ∨ ∃ e, r = .error e ∧ False
def QY (Xg : Cx) (stopAt : Bool) (Q : VK) : Protocol := fun _ _ v s₁ kap => ∃ (b : Bool) (σ' : L2.St) (H' : Hp), v = .bool b ∧ Inv Xg [] σ' H' s₁ ∧
  (if b = stopAt then Q (.bl stopAt) H' else ∀ s'' : Shared, s''.heap = s₁.heap → s''.os = s₁.os → AllBare s''.gens → kap (.send .none) s'')
theorem Inv.same {X : Cx} {pins : List (Addr × Obj)} {σ : L2.St} {H : Hp} {s s'' : Shared} (I : Inv X pins σ H s) (h1 : s''.heap = s.heap) (h2 : s''.os = s.os) (h3 : AllBare s''.gens) : Inv X pins σ H s'' := by
  obtain ⟨hp, gs, dr, tk, os⟩ := s''
  simp only at h1 h2 h3
  subst h1 h2
  exact ⟨I.ok, I.os, h3, I.base, I.loc, I.cell, I.free, I.freeC, I.pin, I.hok, I.len⟩
theorem seg_q {Xg : Cx} {A : Around} {J : It} {fp : List Addr} {it : Addr} {tn : Nat → Heap → Prop} {vs : List Nat} {σ0 : L2.St} {W : Nat → Nat → Hp → Prop} {stopAt : Bool} {Q : VK} {g : TG} {tt : TT} {te : TE} {elt tg iter : Expr} {ifs : List Expr} {scope : Scope} {pos : Pos}
    (hA : Xg.A = A.deeper Xg.env) (hc : Xg.calm = true) (hx : Xg.xe = fun _ _ => False) (hex : Xg.ex = fp) (hco : Xg.env.scope.isCoroutine = false) (T : Turn Xg.prog Xg.w Xg.K tg J fp it tn) (R : QRun J vs σ0 W stopAt Q g tt te)
    (pg : PG Xg tg g) (pt : PTs Xg ifs tt) (pe : PE Xg elt te) (hpn : ∀ b ∈ fp, ∀ p ∈ Xg.pn, p.1 ≠ b) :
    ∀ (n N : Nat) (s₀ s : Shared), n < N → QInv Xg fp tn σ0 W n s → Seg (model Xg.prog Xg.w) A (QR Xg σ0 stopAt Q) (QY Xg stopAt Q) N s₀ (.compLoop (.GeneratorExp elt [⟨tg, iter, ifs, 0⟩] scope pos) 0 (.ref it) .none Xg.env)
      ((model Xg.prog Xg.w).den (.compLoop (.GeneratorExp elt [⟨tg, iter, ifs, 0⟩] scope pos) 0 (.ref it) .none Xg.env)) [] s := by
  have stat : ∀ {σ' : L2.St} {H' : Hp} {s' : Shared}, Inv Xg [] σ' H' s' → (∀ b ∈ fp, H' b = none) → ∀ b ∈ fp, FpOk Xg [] H' b := fun {σ' H' s'} I' hn b hb => by
    have hb' : b ∈ Xg.ex := by rw [hex]; exact hb
    exact ⟨hn b hb, (I'.ok.exf b hb').1, I'.ok.exfs b hb', .inl hb', fun x c e => (I'.ok.exf b hb').2 x c e, fun p hp => hpn b hb p (by simpa using hp)⟩
  intro n
  induction n using Nat.strongRecOn with
  | ind n ih =>
  rintro N s₀ s hN ⟨i, H1, I1, st1, n1, w1⟩
  show Seg _ A _ _ N s₀ _ ((compTurn (.GeneratorExp elt [⟨tg, iter, ifs, 0⟩] scope pos) 0 (.ref it) .none Xg.env).onRaise (leaving Xg.env)) [] s
  rw [compTurn_gen, Sem.onRaise_eq_wrap]
  refine seg_bind_wrap (wpAny_standAt ?_)
  have hAo : A.over (.compLoop (.GeneratorExp elt [⟨tg, iter, ifs, 0⟩] scope pos) 0 (.ref it) .none Xg.env) [] = Xg.A := hA.symm
  rcases R.turn i n H1 w1 with ⟨stop, qq⟩ | ⟨go, Nx, hNx, step⟩
  · refine seg_bind_wrap ?_
    rw [hAo]
    refine wpAny_mono (T.done Xg rfl rfl rfl hc i [] s σ0 H1 (fun _ _ => False) I1 (stat I1 n1) st1 stop) (fun r s2 ⟨hr, I2⟩ => ?_) fun _ _ z => z.elim
    subst hr
    exact seg_end (.ok .next) (.inl ⟨.inr rfl, H1, I2, qq⟩)
  · refine seg_bind_wrap ?_
    rw [hAo]
    refine wpAny_mono (T.item Xg rfl rfl rfl hc i [] s σ0 H1 (fun _ _ => False) I1 (stat I1 n1) st1 go) (fun r s2 ⟨u, hr, h2⟩ => ?_) fun _ _ z => z.elim
    subst hr
    refine seg_bind_wrap ?_
    rw [hAo]
    refine wpAny_mono h2 (fun _ s3 ⟨x, H3, I3, r3, y3, st3, n3⟩ => ?_) fun _ _ z => z.elim
    have I3' := I3.pinned (stat I3 n3) (T.obj _ _ st3)
    refine seg_bind_wrap ?_
    rw [hAo]
    refine wpAny_mono (pg.run _ s3 _ H3 x u _ I3' r3 (step x H3 y3)) (fun _ s4 ⟨σ4, H4, I4, hw4, q4⟩ => ?_) fun _ _ z => by rw [hx] at z; exact z.elim
    refine seg_bind_wrap ?_
    rw [hAo]
    refine wpAny_mono (pt.run _ s4 σ4 H4 _ I4 q4) (fun b s5 ⟨H5, I5, q5⟩ => ?_) fun _ _ z => by rw [hx] at z; exact z.elim
    -- the turn's end
    have fin : ∀ {s' : Shared} {H' : Hp}, Inv Xg ([] ++ pinsAt fp s3.heap) σ4 H' s' → Nx H' → ∃ m, m < n ∧ QInv Xg fp tn σ0 W m s' := fun {s' H'} I' nx => by
      obtain ⟨m', hm, w'⟩ := hNx H' nx
      have pin' : ∀ b ∈ fp, ∀ o, s3.heap.get? b = some o → s'.heap.get? b = some o ∧ H' b = none := fun b hb o e =>
        let z := I'.pin (b, o) (List.mem_append_right _ (List.mem_append_right _ (mem_pinsAt hb e)))
        ⟨z.1, z.2.1⟩
      refine ⟨m', hm, i + 1, H', (I'.unpinned (pins := [])).weak (by rw [← hw4, wipe_length]) (fun j v e => by rw [← hw4] at e; exact (wipe_some e).1), T.keep _ _ _ st3 fun b hb o e => (pin' b hb o e).1, fun b hb => ?_, w'⟩
      obtain ⟨o, e, _⟩ := T.obj _ _ st3 b hb
      exact (pin' b hb o e).2
    cases b with
    | false =>
      rw [if_neg Bool.false_ne_true] at q5
      simp only [Bool.false_eq_true, if_false]
      obtain ⟨m, hm, hq⟩ := fin I5 q5
      exact seg_again rfl (ih m hm N s₀ s5 (by omega) hq)
    | true =>
      rw [if_pos rfl] at q5
      simp only [if_true]
      have hy : ∀ v, yieldOut Xg.env v = yieldValue v := fun v => by simp only [yieldOut, hco, Bool.false_eq_true, if_false]
      simp only [hy]
      rw [Sem.bind_eq_wrap', Sem.bind_eq_wrap', Sem.wrap_wrap, Sem.wrap_wrap]
      refine seg_wrap ?_
      rw [hAo]
      refine wpAny_mono (pe.run _ s5 σ4 H5 _ I5 q5) (fun v s6 ⟨yv, H6, I6, r6, k, ek, q6⟩ => ?_) fun _ _ z => by rw [hx] at z; exact z.elim
      subst ek
      have ev : v = Value.bool k := r6
      subst ev
      have hN1 : ∃ N', N = N' + 1 := ⟨N - 1, by omega⟩
      obtain ⟨N', rfl⟩ := hN1
      refine seg_at (seg_yield rfl rfl rfl ⟨k, σ4, H6, rfl, I6.unpinned (pins := []), ?_⟩)
      by_cases hk : k = stopAt
      · rw [if_pos hk] at q6 ⊢
        exact q6
      · rw [if_neg hk] at q6 ⊢
        intro s'' e1 e2 e3
        obtain ⟨m, hm, hq⟩ := fin (Inv.same I6 e1 e2 e3) q6
        exact seg_again rfl (ih m hm N' s'' s'' (by omega) hq)
/-- the loop of all over the generator -/
theorem loop_all {Xg : Cx} {A : Around} {a : Addr} {g : Nat} {go : Obj} {σ0 : L2.St} {Q : VK} {Rr : Result → Shared → Prop} (hh : A.handled = none) (hd : A.depth < recursionLimit) (hpn : Xg.pn = [(a, go)]) (hgo : ∀ h : Heap, h.get? a = some go → h.IsGen a g)
    (hend : ∀ s' b, (∃ σ' H', Inv Xg [] σ' H' s' ∧ Q (.bl b) H') → Rr (.ok (.ret (.bool b))) s') :
    ∀ (N : Nat) (s : Shared), s.heap.IsGen a g → s.heap.NoLimit → (∃ gs, s.gens[g]? = some gs ∧ gs.Goes (model Xg.prog Xg.w) A.in1.in1 (QR Xg σ0 false Q) (QY Xg false Q) N (.send .none) (s.setGen g .running)) →
      codeAny (model Xg.prog Xg.w) A (.builtin "all.loop" ⟨[.ref a], []⟩) Rr s := by
  have isg : ∀ {σ' : L2.St} {H' : Hp} {s' : Shared}, Inv Xg [] σ' H' s' → s'.heap.IsGen a g := fun {σ' H' s'} I => hgo _ (I.pin (a, go) (by rw [hpn]; simp)).1
  intro N
  induction N with
  | zero =>
    rintro s hg hl ⟨gs, hgs, hgoes⟩
    refine codeAny_builtin F.entry_all_loop ?_
    rw [Around.under_plainId F.plain_all_loop _]
    show wpAny _ A.in1 (pyNext (.ref a) >>= _) _ _ s
    refine wpAny_bind (next_genG (A := A.in1) (F := fun _ _ s₁ => QEnd Xg σ0 false Q s₁) (Er := fun _ _ => False) hh hl hd hg hgs hgoes (fun v s₁ gs' hbare hv => ?_) (fun s₁ hp h' hk => ?_) fun e s₁ he => he.elim)
    · obtain ⟨b, σ', H', rfl, I, q⟩ := hv
      refine wpAny_bind (wpAny_holding (wpAny_truthy_bool (wpAny_bind (wpAny_letGo ?_))))
      cases b with
      | false =>
        rw [if_pos rfl] at q
        simp only [Bool.false_eq_true, if_false]
        refine wpAny_bind (wpAny_rule (wpAny_pure (hend _ false ⟨σ', H', Inv.same I rfl rfl (allBare_setGen I.bare hbare), q⟩)))
      | true =>
        rw [if_neg (by decide)] at q
        exact (q _ rfl rfl I.bare).elim
    · obtain ⟨H', I, q⟩ := hp
      refine wpAny_bind (wpAny_rule (wpAny_pure (hend _ true ⟨σ0, H', ?_, q⟩)))
      exact Inv.same (Inv.kept (t' := s₁.toks) I hk) rfl rfl (allBare_setGen I.bare rfl)
  | succ N ih =>
    rintro s hg hl ⟨gs, hgs, hgoes⟩
    have hgl : g < s.gens.size := (Array.getElem?_eq_some_iff.mp hgs).1
    refine codeAny_builtin F.entry_all_loop ?_
    rw [Around.under_plainId F.plain_all_loop _]
    show wpAny _ A.in1 (pyNext (.ref a) >>= _) _ _ s
    refine wpAny_bind (wpAny_gsz (n := g + 1) hgl (next_genG (A := A.in1) (F := fun _ _ s₁ => QEnd Xg σ0 false Q s₁) (Er := fun _ _ => False) hh hl hd hg hgs hgoes (fun v s₁ gs' hbare hv => ?_) (fun s₁ hp h' hk => ?_) fun e s₁ he => he.elim))
    · intro hsz
      obtain ⟨b, σ', H', rfl, I, q⟩ := hv
      refine wpAny_bind (wpAny_holding (wpAny_truthy_bool (wpAny_bind (wpAny_letGo ?_))))
      have I2 : Inv Xg [] σ' H' (s₁.setGen g gs') := Inv.same I rfl rfl (allBare_setGen I.bare hbare)
      cases b with
      | false =>
        rw [if_pos rfl] at q
        simp only [Bool.false_eq_true, if_false]
        refine wpAny_bind (wpAny_rule (wpAny_pure (hend _ false ⟨σ', H', I2, q⟩)))
      | true =>
        rw [if_neg (by decide)] at q
        simp only [if_true]
        have hsz1 : g < s₁.gens.size := by
          have q : (s₁.setGen g gs').gens.size = s₁.gens.size := setGen_size _ _ _
          omega
        refine wpAny_pure ⟨plainId_quiet F.plain_all_loop _, ih (s₁.setGen g gs') (isg I2) I2.nolimit ⟨gs', setGen_at hsz1, ?_⟩⟩
        exact q _ rfl rfl (allBare_setGen (s := s₁.setGen g gs') I2.bare rfl)
    · intro _
      obtain ⟨H', I, q⟩ := hp
      refine wpAny_bind (wpAny_rule (wpAny_pure (hend _ true ⟨σ0, H', ?_, q⟩)))
      exact Inv.same (Inv.kept (t' := s₁.toks) I hk) rfl rfl (allBare_setGen I.bare rfl)
/-- the loop of any over the generator -/
theorem loop_any {Xg : Cx} {A : Around} {a : Addr} {g : Nat} {go : Obj} {σ0 : L2.St} {Q : VK} {Rr : Result → Shared → Prop} (hh : A.handled = none) (hd : A.depth < recursionLimit) (hpn : Xg.pn = [(a, go)]) (hgo : ∀ h : Heap, h.get? a = some go → h.IsGen a g)
    (hend : ∀ s' b, (∃ σ' H', Inv Xg [] σ' H' s' ∧ Q (.bl b) H') → Rr (.ok (.ret (.bool b))) s') :
    ∀ (N : Nat) (s : Shared), s.heap.IsGen a g → s.heap.NoLimit → (∃ gs, s.gens[g]? = some gs ∧ gs.Goes (model Xg.prog Xg.w) A.in1.in1 (QR Xg σ0 true Q) (QY Xg true Q) N (.send .none) (s.setGen g .running)) →
      codeAny (model Xg.prog Xg.w) A (.builtin "any.loop" ⟨[.ref a], []⟩) Rr s := by
  have isg : ∀ {σ' : L2.St} {H' : Hp} {s' : Shared}, Inv Xg [] σ' H' s' → s'.heap.IsGen a g := fun {σ' H' s'} I => hgo _ (I.pin (a, go) (by rw [hpn]; simp)).1
  intro N
  induction N with
  | zero =>
    rintro s hg hl ⟨gs, hgs, hgoes⟩
    refine codeAny_builtin F.entry_any_loop ?_
    rw [Around.under_plainId F.plain_any_loop _]
    show wpAny _ A.in1 (pyNext (.ref a) >>= _) _ _ s
    refine wpAny_bind (next_genG (A := A.in1) (F := fun _ _ s₁ => QEnd Xg σ0 true Q s₁) (Er := fun _ _ => False) hh hl hd hg hgs hgoes (fun v s₁ gs' hbare hv => ?_) (fun s₁ hp h' hk => ?_) fun e s₁ he => he.elim)
    · obtain ⟨b, σ', H', rfl, I, q⟩ := hv
      refine wpAny_bind (wpAny_holding (wpAny_truthy_bool (wpAny_bind (wpAny_letGo ?_))))
      cases b with
      | true =>
        rw [if_pos rfl] at q
        simp only [if_true]
        refine wpAny_bind (wpAny_rule (wpAny_pure (hend _ true ⟨σ', H', Inv.same I rfl rfl (allBare_setGen I.bare hbare), q⟩)))
      | false =>
        rw [if_neg (by decide)] at q
        exact (q _ rfl rfl I.bare).elim
    · obtain ⟨H', I, q⟩ := hp
      refine wpAny_bind (wpAny_rule (wpAny_pure (hend _ false ⟨σ0, H', ?_, q⟩)))
      exact Inv.same (Inv.kept (t' := s₁.toks) I hk) rfl rfl (allBare_setGen I.bare rfl)
  | succ N ih =>
    rintro s hg hl ⟨gs, hgs, hgoes⟩
    have hgl : g < s.gens.size := (Array.getElem?_eq_some_iff.mp hgs).1
    refine codeAny_builtin F.entry_any_loop ?_
    rw [Around.under_plainId F.plain_any_loop _]
    show wpAny _ A.in1 (pyNext (.ref a) >>= _) _ _ s
    refine wpAny_bind (wpAny_gsz (n := g + 1) hgl (next_genG (A := A.in1) (F := fun _ _ s₁ => QEnd Xg σ0 true Q s₁) (Er := fun _ _ => False) hh hl hd hg hgs hgoes (fun v s₁ gs' hbare hv => ?_) (fun s₁ hp h' hk => ?_) fun e s₁ he => he.elim))
    · intro hsz
      obtain ⟨b, σ', H', rfl, I, q⟩ := hv
      refine wpAny_bind (wpAny_holding (wpAny_truthy_bool (wpAny_bind (wpAny_letGo ?_))))
      have I2 : Inv Xg [] σ' H' (s₁.setGen g gs') := Inv.same I rfl rfl (allBare_setGen I.bare hbare)
      cases b with
      | true =>
        rw [if_pos rfl] at q
        simp only [if_true]
        refine wpAny_bind (wpAny_rule (wpAny_pure (hend _ true ⟨σ', H', I2, q⟩)))
      | false =>
        rw [if_neg (by decide)] at q
        simp only [Bool.false_eq_true, if_false]
        have hsz1 : g < s₁.gens.size := by
          have q : (s₁.setGen g gs').gens.size = s₁.gens.size := setGen_size _ _ _
          omega
        refine wpAny_pure ⟨plainId_quiet F.plain_any_loop _, ih (s₁.setGen g gs') (isg I2) I2.nolimit ⟨gs', setGen_at hsz1, ?_⟩⟩
        exact q _ rfl rfl (allBare_setGen (s := s₁.setGen g gs') I2.bare rfl)
    · intro _
      obtain ⟨H', I, q⟩ := hp
      refine wpAny_bind (wpAny_rule (wpAny_pure (hend _ false ⟨σ0, H', ?_, q⟩)))
      exact Inv.same (Inv.kept (t' := s₁.toks) I hk) rfl rfl (allBare_setGen I.bare rfl)
/-! ### the tables grow, what they tell is known -/
theorem among_snoc {pos pos' : Pos} {c cv : Value} (l : List Value) (h : TriplesOk l) (hn : codeAmong pos' (l ++ [rawInt pos.line, rawInt pos.col, c]) = some cv) : codeAmong pos' l = some cv ∨ cv = c := by
  fun_induction TriplesOk l with
  | case1 =>
    simp only [List.nil_append, rawInt, codeAmong] at hn
    split at hn
    · exact .inr (Option.some.inj hn).symm
    · cases hn
  | case2 a t b u x rest ih =>
    simp only [List.cons_append, codeAmong] at hn ⊢
    split at hn
    · rename_i hc; rw [if_pos hc]; exact .inl hn
    · rename_i hc; rw [if_neg hc]; exact ih h hn
  | case3 l h1 h2 => exact h.elim
/-- the code object cp.1 is known, with its table at cp.2; the table at P may have grown by it -/
def Grown (P : Addr) (cp : Addr × Addr) (H H' : Hp) : Prop := (H' = H ∧ H cp.1 = some (CodeT cp.1 cp.2) ∧ TabT H cp.2) ∨
  ∃ (ps : Array Value) (pos : Pos), H P = some (.tbl ps) ∧ TriplesOk ps.toList ∧ H cp.1 = none ∧ H cp.2 = none ∧ cp.1 ≠ cp.2 ∧
    H' = upd (upd (upd H P (.tbl (ps ++ #[rawInt pos.line, rawInt pos.col, .ref cp.1]))) cp.1 (CodeT cp.1 cp.2)) cp.2 (.tbl #[])
theorem Grown.evo {P : Addr} {cp : Addr × Addr} {H H' : Hp} (h : Grown P cp H H') : Evo [] H H' ∧ H' cp.1 = some (CodeT cp.1 cp.2) ∧ TabT H' cp.2 := by
  obtain ⟨c', P'⟩ := cp
  rcases h with ⟨rfl, h1, h2⟩ | ⟨ps, pos, hP, ht, n1, n2, ne, rfl⟩
  · exact ⟨Evo.refl, h1, h2⟩
  simp only at n1 n2 ne ⊢
  have at_ : ∀ b u, H b = some u → b ≠ P → upd (upd (upd H P (.tbl (ps ++ #[rawInt pos.line, rawInt pos.col, .ref c']))) c' (CodeT c' P')) P' (.tbl #[]) b = some u := fun b u e h => by
    rw [upd_ne (ne_of_none e n2), upd_ne (ne_of_none e n1), upd_ne h]; exact e
  have atP : upd (upd (upd H P (.tbl (ps ++ #[rawInt pos.line, rawInt pos.col, .ref c']))) c' (CodeT c' P')) P' (.tbl #[]) P = some (.tbl (ps ++ #[rawInt pos.line, rawInt pos.col, .ref c'])) := by
    rw [upd_ne (ne_of_none hP n2), upd_ne (ne_of_none hP n1), upd_same]
  have atc : upd (upd (upd H P (.tbl (ps ++ #[rawInt pos.line, rawInt pos.col, .ref c']))) c' (CodeT c' P')) P' (.tbl #[]) c' = some (CodeT c' P') := by
    rw [upd_ne ne, upd_same]
  have hex : ∀ a cc Q, H a = some (CodeT cc Q) → upd (upd (upd H P (.tbl (ps ++ #[rawInt pos.line, rawInt pos.col, .ref c']))) c' (CodeT c' P')) P' (.tbl #[]) a = some (CodeT cc Q) := fun a cc Q q =>
    at_ a _ q fun z => by rw [z, hP] at q; cases q
  refine ⟨⟨fun a o q _ t => at_ a o q fun z => ?_, hex, fun a qs q => ?_, fun R t => ?_⟩, atc, fun x => x = P', rfl, fun R hR => ?_⟩
  · rw [z, hP] at q
    exact t ps (Option.some.inj q).symm
  · by_cases e : a = P
    · rw [e, hP] at q; cases q
      exact ⟨_, by rw [e]; exact atP⟩
    · exact ⟨#[], by rw [at_ a _ q e]; simp⟩
  · obtain ⟨S, h1, h2⟩ := t
    refine ⟨fun x => S x ∨ x = P', .inl h1, fun Z hZ => ?_⟩
    rcases hZ with hZ | rfl
    · obtain ⟨qs, q1, q2, q3⟩ := h2 Z hZ
      have known : ∀ p cv, codeAmong p qs.toList = some cv → ∃ c2 P2, cv = .ref c2 ∧ upd (upd (upd H P (.tbl (ps ++ #[rawInt pos.line, rawInt pos.col, .ref c']))) c' (CodeT c' P')) P' (.tbl #[]) c2 = some (CodeT c2 P2) ∧ (S P2 ∨ P2 = P') := fun p cv e => by
        obtain ⟨c2, P2, r1, r2, r3⟩ := q3 p cv e
        exact ⟨c2, P2, r1, hex _ _ _ r2, .inl r3⟩
      by_cases e : Z = P
      · subst e
        rw [hP] at q1
        cases q1
        have hl : (ps ++ #[rawInt pos.line, rawInt pos.col, Value.ref c']).toList = ps.toList ++ [rawInt pos.line, rawInt pos.col, .ref c'] := by simp
        refine ⟨_, atP, by rw [hl]; exact TriplesOk_snoc _ _ _ _ ht, fun p cv e => ?_⟩
        rw [hl] at e
        rcases among_snoc _ ht e with e | e
        · exact known p cv e
        · exact ⟨c', P', e, atc, .inr rfl⟩
      · exact ⟨qs, at_ Z _ q1 e, q2, known⟩
    · exact ⟨#[], upd_same, trivial, fun p cv e => by simp [codeAmong] at e⟩
  · have hR : R = P' := hR
    rw [hR]
    exact ⟨#[], upd_same, trivial, fun p cv e => by simp [codeAmong] at e⟩
theorem inv_code {P c' P' : Addr} {ps more : Array Value} {h' : Heap} {t' : Nat} (I : Inv X pins σ H s) (hP : H P = some (.tbl ps)) (k : ∀ b o, b ≠ P → s.heap.get? b = some o → h'.get? b = some o)
    (hm : h'.get? P = some { cls := .none, data := .fields (ps ++ more) }) (hc : s.heap.objs.size ≤ c') (hp : s.heap.objs.size ≤ P') (ne : c' ≠ P') (ho : PySem.W.CodeHd h' c' P') (hnm : CodeN h' c') (hm' : h'.get? P' = some { cls := .none, data := .fields #[] }) :
    Inv X pins σ (upd (upd (upd H P (.tbl (ps ++ more))) c' (CodeT c' P')) P' (.tbl #[])) { s with heap := h', toks := t' } := by
  have nC : H c' = none := I.hok.fresh hc
  have nQ : H P' = none := I.hok.fresh hp
  have at_ : ∀ b, b ≠ P → b ≠ c' → b ≠ P' → upd (upd (upd H P (.tbl (ps ++ more))) c' (CodeT c' P')) P' (.tbl #[]) b = H b := fun b h1 h2 h3 => by rw [upd_ne h3, upd_ne h2, upd_ne h1]
  have atP : upd (upd (upd H P (.tbl (ps ++ more))) c' (CodeT c' P')) P' (.tbl #[]) P = some (.tbl (ps ++ more)) := by rw [upd_ne (ne_of_none hP nQ), upd_ne (ne_of_none hP nC), upd_same]
  have nP : ∀ b u, H b = some u → (∀ q, u ≠ .tbl q) → b ≠ P := fun b u e q z => by
    rw [z, hP] at e
    exact q ps (Option.some.inj e).symm
  have nN : ∀ b, H b = none → b ≠ P := fun b e z => by
    rw [z, hP] at e
    cases e
  have far : ∀ b o x, s.heap.objs.size ≤ x → s.heap.get? b = some o → b ≠ x := fun b o x hx e z => by
    rw [z] at e
    exact Nat.lt_irrefl _ (Nat.lt_of_lt_of_le (Heap.lt_size e) hx)
  have stays : ∀ b u, H b = some u → b ≠ P → upd (upd (upd H P (.tbl (ps ++ more))) c' (CodeT c' P')) P' (.tbl #[]) b = some u := fun b u e h => by rw [at_ b h (ne_of_none e nC) (ne_of_none e nQ)]; exact e
  refine I.step (g' := s.gens) (d' := s.drawn) (ch := []) (fun b hb => absurd hb (by simp)) (fun b o _ _ _ e n => k b o (nN b n) e) (fun b o _ _ _ e n => ⟨o.slots, k b o (nN b n) e⟩)
    (fun b o _ e n => by rw [at_ b (nN b n) (far b o c' hc e) (far b o P' hp e)]; exact n) (fun b o _ e => ?_) (fun b xs e => stays b _ e (nP b _ e (fun q z => by cases z))) (fun b o u e => stays b _ e (nP b _ e (fun q z => by cases z))) (fun b qs e => ?_) (fun m hn => ?_) (fun b u e => ?_) I.bare
  · by_cases hb : b = P
    · rw [hb]
      exact ⟨_, hm⟩
    · exact ⟨o, k b o hb e⟩
  · by_cases hb : b = P
    · rw [hb, hP] at e
      cases e
      rw [hb, atP]
      exact ⟨more, rfl⟩
    · rw [stays b _ e hb]
      exact ⟨#[], by simp⟩
  · obtain ⟨ob, es, ep, ho, r⟩ := hn
    exact ⟨ob, es, ep, k _ ob (nN _ I.free) ho, r⟩
  · by_cases hq : b = P'
    · rw [hq, upd_same] at e
      cases e
      rw [hq]
      exact hm'
    by_cases hb : b = c'
    · rw [hb, upd_ne ne, upd_same] at e
      cases e
      rw [hb]
      obtain ⟨oc, e1, e2⟩ := (show ∃ oc, h'.get? c' = some oc ∧ True by obtain ⟨o, _, _, _, _, _, _, _, _, q, _⟩ := ho; exact ⟨o, q, trivial⟩)
      refine ⟨⟨ho, hnm⟩, ⟨oc, e1⟩, fun h1 h2 q st => ?_⟩
      obtain ⟨⟨o, vs, file, tf, flags, tg, inF, text, tt, q1, q2⟩, oc3, vs3, q3, t3, q4, q5⟩ := q
      exact ⟨⟨o, vs, file, tf, flags, tg, inF, text, tt, st _ q1, q2⟩, oc3, vs3, q3, t3, st _ q4, q5⟩
    · by_cases hb2 : b = P
      · rw [hb2, atP] at e
        cases e
        rw [hb2]
        exact hm
      · rw [at_ b hb2 hb hq] at e
        refine (I.hok b u e).stay (fun d v hd q => k d v ?_ q) (fun d q => stays d _ q (nP d _ q (fun q z => by cases z))) fun d xs q => stays d _ q (nP d _ q (fun q z => by cases z))
        rcases hd with z | z
        · rw [z]
          exact hb2
        · exact nP d _ z (fun q z => by cases z)
/-- the code object c is known: from the beginning, or tracked -/
def Kn (base : Heap) (c P : Addr) (H : Hp) : Prop := PySem.W.CodeHd base c P ∨ H c = some (CodeT c P)
def tQ (stopAt : Bool) (base : Heap) (c P : Addr) (wi : TI) (g : Addr × Addr → TG) (tt : Addr × Addr → TT) (te : Addr × Addr → TE) (vs : List Nat) : TE := fun σ H Q => wi σ H fun J H1 => Kn base c P H1 ∧ TabT H1 P ∧ ∀ cp H2, Grown P cp H1 H2 → ∃ W : Nat → Nat → Hp → Prop, (∃ m, W 0 m H2) ∧ ∀ i m H, W i m H →
  (J.stop i H ∧ Q (.bl (!stopAt)) H) ∨ (J.go i H ∧ ∃ Nx : Hp → Prop, (∀ H', Nx H' → ∃ m', m' < m ∧ W (i + 1) m' H') ∧ ∀ x H', J.yld i H x H' → g cp x (L2.wipe σ vs) H' fun σ2 H3 => L2.wipe σ2 vs = L2.wipe σ vs ∧
    tt cp σ2 H3 fun b H4 => if b = true then te cp σ2 H4 fun y H5 => ∃ k, y = .bl k ∧ (if k = stopAt then Q (.bl stopAt) H5 else Nx H5) else Nx H4)
theorem run_gen {X : Cx} {pins : List (Addr × Obj)} {σ : L2.St} {H : Hp} {s : Shared} {stopAt : Bool} {P P0 c : Addr} {k : Nat} {wi : TI} {g : Addr × Addr → TG} {tt : Addr × Addr → TT} {te : Addr × Addr → TE} {own : List (Str × Nat)} {elt tg iter : Expr} {ifs : List Expr} {scope : Scope} {gpos : Pos} {Q : VK} {Q' : Value → Shared → Prop}
    (hc : X.calm = true) (hN : X.N.Nodup) (hr : Room (k + 3) X.A) (bm : X.base.BuiltinsAt X.mg P0) (hcode : X.env.code = .ref c) (ok : GenOk X.N X.env.scope scope own) (hi : PI X tg iter wi)
    (hg : ∀ (cp : Addr × Addr) (s : Shared) (H : Hp) (C : Addr) (cl : List (Str × Addr)) (fp : List Addr) (pn : List (Addr × Obj)), PG (gCx X (X.A.in1.in1.deeper (genEnv scope cl C (.ref cp.1) builtinsNs X.env)) s H scope C cl (.ref cp.1) fp pn) tg (g cp))
    (ht : ∀ (cp : Addr × Addr) (s : Shared) (H : Hp) (C : Addr) (cl : List (Str × Addr)) (fp : List Addr) (pn : List (Addr × Obj)), PTs (gCx X (X.A.in1.in1.deeper (genEnv scope cl C (.ref cp.1) builtinsNs X.env)) s H scope C cl (.ref cp.1) fp pn) ifs (tt cp))
    (he : ∀ (cp : Addr × Addr) (s : Shared) (H : Hp) (C : Addr) (cl : List (Str × Addr)) (fp : List Addr) (pn : List (Addr × Obj)), PE (gCx X (X.A.in1.in1.deeper (genEnv scope cl C (.ref cp.1) builtinsNs X.env)) s H scope C cl (.ref cp.1) fp pn) elt (te cp))
    (hs : ∀ v, genFold iter X.env v = pure v) (I : Inv X pins σ H s) (h : tQ stopAt X.base c P wi g tt te (own.map (·.2)) σ H Q)
    (hQ : ∀ (Xg : Cx) (a : Addr) (gi : Nat) (go : Obj) (N : Nat) (σ0 : L2.St) (s5 : Shared), Xg.prog = X.prog → Xg.w = X.w → Xg.pn = [(a, go)] → (∀ h : Heap, h.get? a = some go → h.IsGen a gi) → s5.heap.IsGen a gi → s5.heap.NoLimit →
      (∃ gs, s5.gens[gi]? = some gs ∧ gs.Goes (model Xg.prog Xg.w) X.A.in1.in1 (QR Xg σ0 stopAt Q) (QY Xg stopAt Q) N (.send .none) (s5.setGen gi .running)) →
      (∀ s' b, (∃ σ' H', Inv Xg [] σ' H' s' ∧ Q (.bl b) H') → EP X pins σ Q (.bool b) s') → Q' (.ref a) s5) :
    wpAny (model X.prog X.w) X.A (eval (.GeneratorExp elt [⟨tg, iter, ifs, 0⟩] scope gpos) X.env) Q' X.xe s := by
  have hfree : ∀ y ∈ scope.names, y.2 = .free → ∃ c, X.env.cells.lookup y.1 = some c := fun y hy e => by
    rcases ok.free y hy e with k | k
    · exact I.ok.has _ (.inl k)
    · exact I.ok.has _ (.inr k)
  refine gen_make ok.co (closure_ok hfree) ok.dot ok.kind hr.depth ?_ hs
  refine thn (hi.run pins s σ H _ I h) fun xv s1 hx => thn hx fun itv s2 h2 => ?_
  obtain ⟨it, fp, tn, J, H1, e, I2, T, st2, f2, kn, tP, q⟩ := h2
  subst e
  refine ⟨I2.nolimit, ?_⟩
  obtain ⟨ps, hP, htr⟩ := tP.g
  have hPs : s2.heap.get? P = some { cls := .none, data := .fields ps } := I2.hok P _ hP
  have cd : PySem.W.CodeHd s2.heap c P := by
    rcases kn with z | z
    · exact z.keeps fun b u e => I2.bk b u e
    · exact (I2.hok c _ z).1.1
  have cont : ∀ (cp : Addr × Addr) (h3 : Heap) (tk : Nat) (H3 : Hp), (∀ b o, b ≠ P → s2.heap.get? b = some o → h3.get? b = some o) → Inv X pins σ H3 { s2 with heap := h3, toks := tk } → Grown P cp H1 H3 → (∀ b o, s2.heap.get? b = some o → H1 b = none → H3 b = none) →
      wpAny (model X.prog X.w) X.A (builtinsFor X.env.globals X.env.builtins) (fun bi s₄ =>
        ∀ h', h'.Ns s₄.heap.objs.size (fun y => if y = ".0" then some (.ref it) else none) → Heap.SameBut s₄.heap.objs.size (frG s₄.heap scope) h' →
          Q' (.ref h'.objs.size) { s₄ with
            gens := s₄.gens.push (.fresh (.compStart (.GeneratorExp elt [⟨tg, iter, ifs, 0⟩] scope gpos) 0 (.ref it) .none (genEnv scope (cellsFrom (s₄.heap.objs.size + 1) scope.names (cloFrom X.env.cells scope.names [])) s₄.heap.objs.size (.ref cp.1) bi X.env))),
            toks := s₄.toks + 1 + 1 + 1,
            heap := h'.push { cls := .type "generator", data := .fields #[.int s₄.gens.size 0, .str "<genexpr>" (s₄.toks + 1), .str (X.env.qual ++ "<genexpr>") (s₄.toks + 1 + 1)] } }) X.xe { s2 with heap := h3, toks := tk } := by
    intro cp h3 tk H3 k3 I3 hgr nH3
    obtain ⟨bm, ob, e1, e2, e3, e4, e5, e6, e7, e8⟩ := bm
    have gl3 : h3.Ns mainGlobals X.mg := I3.mod.glob.keeps I3.bk
    refine wpAny_builtinsFor (m := X.mg) (by rw [I3.ok.glob]; exact gl3) e1 e2 (I3.bk _ _ e5) e6 e7 e8 ?_
    intro h' hn' hs'
    generalize hgo : ({ cls := .type "generator", data := .fields #[.int s2.gens.size 0, .str "<genexpr>" (tk + 1), .str (X.env.qual ++ "<genexpr>") (tk + 1 + 1)] } : Obj) = go
    have keep0 : ∀ b o, b ≠ h3.objs.size → (frG h3 scope).get? b = some o → h'.get? b = some o := fun b o n e => hs'.extBut b o n e
    have hsz : h3.objs.size < h'.objs.size := by
      rw [hs'.1]
      exact Heap.lt_size (pushCells_keeps _ _ _ _ (Heap.get?_push_size _ rfl))
    have keep' : ∀ b o, h3.get? b = some o → h'.get? b = some o := fun b o e => keep0 b o (Nat.ne_of_lt (Heap.lt_size e)) (frG_keeps b o e)
    have keep5 : ∀ b o, h3.get? b = some o → (h'.push go).get? b = some o := fun b o e => Heap.get?_push_of_some _ (keep' b o e)
    have cells5 : ∀ c, h3.objs.size + 1 ≤ c → (frG h3 scope).IsCell c none → (h'.push go).IsCell c none := fun c hc ⟨o, e, d⟩ => ⟨o, Heap.get?_push_of_some _ (keep0 c o (Nat.ne_of_gt hc) e), d⟩
    have hgoA : (h'.push go).get? h'.objs.size = some go := Heap.get?_push_size _ (by rw [← hgo]; rfl)
    have hgen : ∀ h : Heap, h.get? h'.objs.size = some go → h.IsGen h'.objs.size s2.gens.size := fun h e => ⟨go, _, _, e, by rw [← hgo], by rw [← hgo], by rw [← hgo]⟩
    obtain ⟨W, ⟨m0, w0⟩, turn⟩ := q cp _ hgr
    have nP : ∀ b ∈ fp, b ≠ P := fun b hb z => by have := (f2 b hb).1; rw [z, hP] at this; cases this
    have f3 : ∀ b ∈ fp, FpOk X pins H3 b ∧ b < h3.objs.size := fun b hb => by
      obtain ⟨o, e, _⟩ := T.obj _ _ st2 b hb
      exact ⟨⟨nH3 b o e (f2 b hb).1, (f2 b hb).2⟩, Heap.lt_size (k3 b o (nP b hb) e)⟩
    have st3 : tn 0 h3 := T.keep _ _ _ st2 fun b hb o e => k3 b o (nP b hb) e
    have st5 : tn 0 (h'.push go) := T.keep _ _ _ st3 fun b _ o e => keep5 b o e
    let env' := genEnv scope (clG X scope h3.objs.size) h3.objs.size (.ref cp.1) builtinsNs X.env
    let Xg := gCx X (X.A.in1.in1.deeper env') { s2 with heap := h3, toks := tk } H3 scope h3.objs.size (clG X scope h3.objs.size) (.ref cp.1) fp [(h'.objs.size, go)]
    have start : ∀ (gs : Array GenState) (tk' : Nat), AllBare gs → Inv Xg [] (L2.wipe σ (own.map (·.2))) H3 { s2 with heap := h'.push go, toks := tk', gens := gs } := fun gs tk' hb =>
      gen_start (s' := { s2 with heap := h'.push go, toks := tk', gens := gs }) I3 ok hN f3 (Around.frames_deeper (show X.A.in1.in1.frames = some X.stack from I3.ok.frames)) (fun z => I3.ok.hd z) keep5 (hn'.push _) cells5 rfl hb hgoA hsz (fun v z => by rw [← hgo] at z; cases z)
    have R : QRun J (own.map (·.2)) (L2.wipe σ (own.map (·.2))) W stopAt Q (g cp) (tt cp) (te cp) := ⟨turn⟩
    have bare5 : AllBare (s2.gens.push (.fresh (.compStart (.GeneratorExp elt [⟨tg, iter, ifs, 0⟩] scope gpos) 0 (.ref it) .none env'))) := AllBare.push I2.bare rfl
    refine hQ Xg h'.objs.size s2.gens.size go (m0 + 1) (L2.wipe σ (own.map (·.2))) _ rfl rfl rfl hgen (hgen _ hgoA) (I3.nolimit.keeps keep5) ⟨_, Array.getElem?_push_size .., rfl, ?_⟩ fun s' b ⟨σ', H', I', hq⟩ => ?_
    · -- the code begins
      generalize hs6 : ({ s2 with heap := h'.push go, toks := tk + 1 + 1 + 1, gens := s2.gens.push (.fresh (.compStart (.GeneratorExp elt [⟨tg, iter, ifs, 0⟩] scope gpos) 0 (.ref it) .none env')) } : Shared).setGen s2.gens.size .running = s6
      have I6 : Inv Xg [] (L2.wipe σ (own.map (·.2))) H3 s6 := by
        rw [← hs6]
        exact Inv.same (start _ (tk + 1 + 1 + 1) bare5) rfl rfl (allBare_setGen (s := { s2 with heap := h'.push go, toks := tk + 1 + 1 + 1, gens := s2.gens.push (.fresh (.compStart (.GeneratorExp elt [⟨tg, iter, ifs, 0⟩] scope gpos) 0 (.ref it) .none env')) }) bare5 rfl)
      have st6 : tn 0 s6.heap := by rw [← hs6]; exact st5
      have loop := seg_q (Xg := Xg) (A := X.A.in1.in1) (pos := gpos) (scope := scope) (iter := iter) rfl hc rfl rfl ok.co T R (hg cp _ _ _ _ _ _) (ht cp _ _ _ _ _ _) (he cp _ _ _ _ _ _) (fun b hb p hp z => by
        have hp : p ∈ [(h'.objs.size, go)] := hp
        rw [List.mem_singleton.mp hp] at z
        have := (f3 b hb).2
        rw [← z] at this
        exact absurd (Nat.lt_trans this hsz) (Nat.lt_irrefl _)) m0 (m0 + 1) s6 s6 (Nat.lt_succ_self _) ⟨0, _, I6, st6, fun b hb => (f3 b hb).1.1, w0⟩
      have hA2 : X.A.in1.in1.over (.compStart (.GeneratorExp elt [⟨tg, iter, ifs, 0⟩] scope gpos) 0 (.ref it) .none env') [] = Xg.A := rfl
      show Seg _ X.A.in1.in1 _ _ (m0 + 1) s6 _ ((compStart (.GeneratorExp elt [⟨tg, iter, ifs, 0⟩] scope gpos) 0 (.ref it) .none env').onRaise (leaving env')) [] s6
      unfold compStart
      rw [Sem.onRaise_eq_wrap]
      show Seg _ X.A.in1.in1 _ _ (m0 + 1) s6 _ ((ask >>= _).wrap _ _ _ _) [] s6
      refine seg_bind_wrap (wpAny_askSetting ?_)
      split
      · exact seg_again rfl loop
      · first
          | exact seg_bind_wrap (wpAny_rule (seg_bind_wrap (wpAny_standAt (seg_bind_wrap (T.self _ 0 s6 _ _ st6 (seg_again rfl loop))))))
          | (refine seg_bind_wrap (wpAny_rule ?_); show Seg _ X.A.in1.in1 _ _ (m0 + 1) s6 _ ((standAt iter.pos >>= _).wrap _ _ _ _) [] s6; exact seg_bind_wrap (wpAny_standAt (seg_bind_wrap (T.self _ 0 s6 _ _ st6 (seg_again rfl loop)))))
    · exact ⟨.bl b, H', I3.call' (ch := fp) I'.os I'.base I'.hok I'.bare fun b hb => ⟨(f3 b hb).1.2.2.2.1, (f3 b hb).1.2.1, (f3 b hb).1.2.2.2.2.1, (f3 b hb).1.2.2.2.2.2⟩, rfl, hq⟩
  cases hf : codeAmong gpos ps.toList with
  | none =>
    refine wpAny_genexprCodeX hcode (cd.code hPs htr) (cd.tab hPs) hf fun c' h' tk hx hge hlt hco' hrec' htab' hnew => ?_
    obtain ⟨P', hgeP, hcP, htP⟩ := hnew
    have ne : c' ≠ P' := by
      obtain ⟨_, _, _, _, _, _, _, _, _, _, _, _, _, _, _, _, _, _, _, _, z⟩ := hcP
      exact z
    have nC : H1 c' = none := I2.hok.fresh hge
    have nQ : H1 P' = none := I2.hok.fresh hgeP
    have hx' : ∀ b o, b ≠ P → s2.heap.get? b = some o → h'.get? b = some o := fun b o n e => hx b o n e
    refine cont (c', P') h' tk _ hx' (inv_code I2 hP hx' htab'.2 hge hgeP ne (PySem.W.CodeHd.of hcP htP) (by obtain ⟨c2, oc, vs, t, e2, hoc, hd, hv⟩ := hrec'; cases e2; exact ⟨oc, vs, _, t, hoc, hd, hv⟩) htP.2) (.inr ⟨ps, gpos, hP, htr, nC, nQ, ne, rfl⟩) fun b o e n => ?_
    have far : ∀ x, s2.heap.objs.size ≤ x → b ≠ x := fun x hx z => by
      rw [z] at e
      exact Nat.lt_irrefl _ (Nat.lt_of_lt_of_le (Heap.lt_size e) hx)
    rw [upd_ne (far P' hgeP), upd_ne (far c' hge), upd_ne (fun z => by rw [z, hP] at n; cases n)]
    exact n
  | some cv =>
    refine wpAny_genexprCode_hit hcode (cd.code hPs htr) hf ?_
    obtain ⟨c', P', rfl, k1, k2⟩ := tP.out hP hf
    exact cont (c', P') s2.heap s2.toks H1 (fun b o _ e => e) I2 (.inl ⟨rfl, k1, k2⟩) fun _ _ _ n => n
end
end DL
end
section
set_option Elab.async false
set_option linter.all false
set_option maxRecDepth 100000
set_option maxHeartbeats 1000000
/-! The data layer, part n: all and any over data. -/
namespace DL
open PySem PySem.Spec PyProof.Rows L2 PySem.SeqAt PySem.W GxR GenW
section
variable {X : Cx}
theorem pe_allQ {c P P0 : Addr} {k : Nat} {wi : TI} {g : Addr × Addr → TG} {tt : Addr × Addr → TT} {te : Addr × Addr → TE} {own : List (Str × Nat)} {elt tg iter : Expr} {ifs : List Expr} {scope : Scope} {p pos gpos : Pos}
    (hc : X.calm = true) (hN : X.N.Nodup) (hr : Room (k + 3) X.A) (hgl : Gl X "all") (hm : X.mg "all" = none) (hb : bootBuiltins "all" = some (.builtin "all")) (bm : X.base.BuiltinsAt X.mg P0) (hcode : X.env.code = .ref c) (ok : GenOk X.N X.env.scope scope own) (hi : PI X tg iter wi)
    (hg : ∀ (cp : Addr × Addr) (s : Shared) (H : Hp) (C : Addr) (cl : List (Str × Addr)) (fp : List Addr) (pn : List (Addr × Obj)), PG (gCx X (X.A.in1.in1.deeper (genEnv scope cl C (.ref cp.1) builtinsNs X.env)) s H scope C cl (.ref cp.1) fp pn) tg (g cp))
    (ht : ∀ (cp : Addr × Addr) (s : Shared) (H : Hp) (C : Addr) (cl : List (Str × Addr)) (fp : List Addr) (pn : List (Addr × Obj)), PTs (gCx X (X.A.in1.in1.deeper (genEnv scope cl C (.ref cp.1) builtinsNs X.env)) s H scope C cl (.ref cp.1) fp pn) ifs (tt cp))
    (he : ∀ (cp : Addr × Addr) (s : Shared) (H : Hp) (C : Addr) (cl : List (Str × Addr)) (fp : List Addr) (pn : List (Addr × Obj)), PE (gCx X (X.A.in1.in1.deeper (genEnv scope cl C (.ref cp.1) builtinsNs X.env)) s H scope C cl (.ref cp.1) fp pn) elt (te cp))
    (hs : ∀ v, genFold iter X.env v = pure v)
    (hst : starEach [.GeneratorExp elt [⟨tg, iter, ifs, 0⟩] scope gpos] X.env = (false, eval (.GeneratorExp elt [⟨tg, iter, ifs, 0⟩] scope gpos) X.env) :: starEach [] X.env) :
    PE X (.Call (.Name "all" p) [.GeneratorExp elt [⟨tg, iter, ifs, 0⟩] scope gpos] [] pos) (tQ false X.base c P wi g tt te (own.map (·.2))) := by
  refine ⟨fun pins s σ H Q I h => ?_⟩
  refine wpAny_Call_Name_kw (ld_blt I hgl hm hb ?_)
  refine PyProof.Rows.callWith_builtin1 ?_ hst (by rfl)
  rw [hst]
  show wpAny _ _ (spliced ((false, eval (.GeneratorExp elt [⟨tg, iter, ifs, 0⟩] scope gpos) X.env) :: backTo pos (starEach [] X.env))) _ _ s
  refine Calls.spliced_cons (run_gen hc hN hr bm hcode ok hi hg ht he hs I h fun Xg a gi go N σ0 s5 e1 e2 e3 hgo hg5 hl5 hgoes hend => ?_)
  refine Calls.spliced_nil ?_
  refine call_function_tree F.kind_all F.plain_all F.entry_all (F.args_all1 _) ?_
  unfold Builtin.«all»
  refine wpAny_bind (m := oneArg "all" _) (wpAny_pure ?_)
  refine wpAny_bind (wpAny_pyIter_gen hg5 ?_)
  refine wpAny_pure ⟨plainId_quiet F.plain_all_loop _, ?_⟩
  rw [← e1, ← e2]
  exact loop_all (Xg := Xg) (A := X.A) (σ0 := σ0) (Q := Q) hr.hd (by have := hr.dp; show X.A.depth < _; omega) e3 hgo (fun s' b q => hend s' b q) N s5 hg5 hl5 hgoes
theorem pe_anyQ {c P P0 : Addr} {k : Nat} {wi : TI} {g : Addr × Addr → TG} {tt : Addr × Addr → TT} {te : Addr × Addr → TE} {own : List (Str × Nat)} {elt tg iter : Expr} {ifs : List Expr} {scope : Scope} {p pos gpos : Pos}
    (hc : X.calm = true) (hN : X.N.Nodup) (hr : Room (k + 3) X.A) (hgl : Gl X "any") (hm : X.mg "any" = none) (bm : X.base.BuiltinsAt X.mg P0) (hcode : X.env.code = .ref c) (ok : GenOk X.N X.env.scope scope own) (hi : PI X tg iter wi)
    (hg : ∀ (cp : Addr × Addr) (s : Shared) (H : Hp) (C : Addr) (cl : List (Str × Addr)) (fp : List Addr) (pn : List (Addr × Obj)), PG (gCx X (X.A.in1.in1.deeper (genEnv scope cl C (.ref cp.1) builtinsNs X.env)) s H scope C cl (.ref cp.1) fp pn) tg (g cp))
    (ht : ∀ (cp : Addr × Addr) (s : Shared) (H : Hp) (C : Addr) (cl : List (Str × Addr)) (fp : List Addr) (pn : List (Addr × Obj)), PTs (gCx X (X.A.in1.in1.deeper (genEnv scope cl C (.ref cp.1) builtinsNs X.env)) s H scope C cl (.ref cp.1) fp pn) ifs (tt cp))
    (he : ∀ (cp : Addr × Addr) (s : Shared) (H : Hp) (C : Addr) (cl : List (Str × Addr)) (fp : List Addr) (pn : List (Addr × Obj)), PE (gCx X (X.A.in1.in1.deeper (genEnv scope cl C (.ref cp.1) builtinsNs X.env)) s H scope C cl (.ref cp.1) fp pn) elt (te cp))
    (hs : ∀ v, genFold iter X.env v = pure v)
    (hst : starEach [.GeneratorExp elt [⟨tg, iter, ifs, 0⟩] scope gpos] X.env = (false, eval (.GeneratorExp elt [⟨tg, iter, ifs, 0⟩] scope gpos) X.env) :: starEach [] X.env) :
    PE X (.Call (.Name "any" p) [.GeneratorExp elt [⟨tg, iter, ifs, 0⟩] scope gpos] [] pos) (tQ true X.base c P wi g tt te (own.map (·.2))) := by
  refine ⟨fun pins s σ H Q I h => ?_⟩
  refine wpAny_Call_Name_kw (ld_blt I hgl hm boot_any ?_)
  refine PyProof.Rows.callWith_builtin1 ?_ hst (by rfl)
  rw [hst]
  show wpAny _ _ (spliced ((false, eval (.GeneratorExp elt [⟨tg, iter, ifs, 0⟩] scope gpos) X.env) :: backTo pos (starEach [] X.env))) _ _ s
  refine Calls.spliced_cons (run_gen hc hN hr bm hcode ok hi hg ht he hs I h fun Xg a gi go N σ0 s5 e1 e2 e3 hgo hg5 hl5 hgoes hend => ?_)
  refine Calls.spliced_nil ?_
  refine call_function_tree F.kind_any F.plain_any F.entry_any (F.args_any1 _) ?_
  unfold Builtin.«any»
  refine wpAny_bind (m := oneArg "any" _) (wpAny_pure ?_)
  refine wpAny_bind (wpAny_pyIter_gen hg5 ?_)
  refine wpAny_pure ⟨plainId_quiet F.plain_any_loop _, ?_⟩
  rw [← e1, ← e2]
  exact loop_any (Xg := Xg) (A := X.A) (σ0 := σ0) (Q := Q) hr.hd (by have := hr.dp; show X.A.depth < _; omega) e3 hgo (fun s' b q => hend s' b q) N s5 hg5 hl5 hgoes
end
/-! ### over data -/
def quantN (stopAt : Bool) (iv : IVal) (g : GS) (ft : EvT) (fe : EvD) (env : List (Option SV)) : Nat → Nat → Sto → RT
  | 0, _, _ => .stuck
  | m + 1, i, st => match iv i st with
    | some (some d) => (match g d env with
      | some e1 => (match ft ⟨e1, st⟩ with
        | .ok (true, st1) => (match fe ⟨e1, st1⟩ with
          | .ok (.bool k, st2) => if k = stopAt then .ok (stopAt, st2) else quantN stopAt iv g ft fe env m (i + 1) st2
          | _ => .stuck)
        | .ok (false, st1) => quantN stopAt iv g ft fe env m (i + 1) st1
        | _ => .stuck)
      | none => .stuck)
    | some none => .ok (!stopAt, st)
    | none => .stuck
noncomputable def quantE (stopAt : Bool) (fi : EvI) (vs : List Nat) (g : GS) (ft : EvT) (fe : EvD) : EvD := fun s => (fi s).bind fun p => (lim fun m => quantN stopAt p.1 g ft fe (wipeL s.env vs) m 0 p.2).bind fun q => .ok (.bool q.1, q.2)
section
variable {X : Cx} {c : Cfg} {W : WX} {B as : List Addr} {σ : L2.St} {H H1 : Hp} {s : S}
/-- one code object more is known -/
def Cfg.add (c : Cfg) (cp : Addr × Addr) : Cfg := ⟨c.TT, cp :: c.CC, c.cls, c.hs⟩
theorem SR.add {K : PySem.W.Frag} {cp : Addr × Addr} (sr : SR K c B as H σ s) (h : H cp.1 = some (CodeT cp.1 cp.2) ∧ TabT H cp.2) : SR K (c.add cp) B as H σ s :=
  ⟨sr.len, sr.slot, sr.nd, sr.aslen, sr.objs, sr.out, sr.tabs.tab, fun p hp => by
    rcases List.mem_cons.mp hp with rfl | hp
    · exact h
    · exact sr.tabs.code p hp⟩
theorem SR.sub {K : PySem.W.Frag} {cp : Addr × Addr} (sr : SR K (c.add cp) B as H σ s) : SR K c B as H σ s :=
  ⟨sr.len, sr.slot, sr.nd, sr.aslen, sr.objs, sr.out, sr.tabs.tab, fun p hp => sr.tabs.code p (List.mem_cons_of_mem _ hp)⟩
/-- the code object cc is known, and its table at P -/
def KnC (base : Heap) (c : Cfg) (cc P : Addr) : Prop := (PySem.W.CodeHd base cc P ∧ P ∈ c.TT) ∨ (cc, P) ∈ c.CC
theorem KnC.at {K : PySem.W.Frag} {base : Heap} {cc P : Addr} (k : KnC base c cc P) (sr : SR K c B as H σ s) : Kn base cc P H ∧ TabT H P := by
  rcases k with ⟨h1, h2⟩ | h
  · exact ⟨.inl h1, sr.tabs.tab P h2⟩
  · exact ⟨.inr (sr.tabs.code _ h).1, (sr.tabs.code _ h).2⟩
theorem KnC.new {base : Heap} {cp : Addr × Addr} : KnC base (c.add cp) cp.1 cp.2 := .inr List.mem_cons_self
theorem quant_ref {stopAt : Bool} {cc P : Addr} {wi : TI} {fi : EvI} {vs is : List Nat} {g : GS} {ft : EvT} {fe : EvD} {q : Bool} (kn : KnC X.base c cc P) (his : ∀ i ∈ is, i ∈ vs)
    (ri : ∀ (B as : List Addr) (σ : L2.St) (H : Hp) (s : S) (R : It → Hp → Prop), SR X.K c B as H σ s → WantsG X c W (RepI X.K c) B as σ H s.env false R (fi s) → wi σ H R)
    {Q : VK} (sr : SR X.K c B as H σ s) (hw : WantsG X c W (RepE X.K false) B as σ H s.env false Q (quantE stopAt fi vs g ft fe s)) : tQ stopAt X.base cc P wi (fun cp => gDG X (c.add cp) is g) (fun cp => tDTs X (c.add cp) W0 ft) (fun cp => tDE X.K X (c.add cp) W0 false q fe) vs σ H Q := by
  show wi σ H _
  refine WantsG.bindL (s := s) hw sr ri fun J H1 iv st1 e1 ev1 sr1 wd hw1 => ?_
  obtain ⟨kn1, kn2⟩ := kn.at sr1
  refine ⟨kn1, kn2, fun cp H2 hgr => ?_⟩
  obtain ⟨evg, new⟩ := hgr.evo
  have sr2 := (sr1.evo evg).add new
  have hns : lim (fun m => quantN stopAt iv g ft fe (wipeL s.env vs) m 0 st1) ≠ .stuck := fun z => by simp only [z] at hw1; exact hw1
  obtain ⟨m, em⟩ := lim_some hns
  generalize hR : quantN stopAt iv g ft fe (wipeL s.env vs) m 0 st1 = R at em
  have hw' : WantsG X c W (RepE X.K false) B as σ H1 s.env false Q (R.bind fun q => .ok (.bool q.1, q.2)) := by
    have h := hw1
    simp only [em] at h
    exact h
  clear em hns hw1
  refine ⟨fun i m H => ∃ st, Evo as H1 H ∧ SR X.K (c.add cp) B as H σ ⟨s.env, st⟩ ∧ quantN stopAt iv g ft fe (wipeL s.env vs) m i st = R, ⟨m, st1, evg.wide, sr2, hR⟩, ?_⟩
  rintro i m H3 ⟨st, ev, sr3, eR⟩
  cases m with
  | zero => rw [← eR] at hw'; exact hw'.elim
  | succ m =>
    unfold quantN at eR
    split at eR
    · rename_i d ei
      obtain ⟨go, yl⟩ := wd.goes B i H3 σ ⟨s.env, st⟩ d (fun _ z => .inl z) ev sr3.sub ei
      split at eR
      · rename_i env1 eg
        refine .inr ⟨go, fun H' => ∃ st, Evo as H1 H' ∧ SR X.K (c.add cp) B as H' σ ⟨s.env, st⟩ ∧ quantN stopAt iv g ft fe (wipeL s.env vs) m (i + 1) st = R, fun H' q => ⟨m, Nat.lt_succ_self m, q⟩, fun x H4 y => ?_⟩
        obtain ⟨evn, rx⟩ := yl x H4 y
        have sr4 := sr3.evo evn
        have ev4 : Evo as H1 H4 := ev.trans' evn.wide
        refine ⟨B, as, ⟨wipeL s.env vs, st⟩, d, env1, SR.wipe sr4 vs, rx, eg, fun σ2 sr5 wn => ⟨by rw [wn vs his]; exact wipe_twice vs σ, ?_⟩⟩
        refine ⟨B, as, ⟨env1, st⟩, sr5, ?_⟩
        split at eR
        · rename_i st2 eft
          rw [eft]
          intro b H5 e5 sr6 hb
          have hb' : b = true := hb
          subst hb'
          rw [if_pos rfl]
          refine ⟨B, as, ⟨env1, st2⟩, sr6, ?_⟩
          split at eR
          · rename_i k st3 efe
            rw [efe]
            intro v H6 e6 sr7 rv
            have e56 : Evo as H4 H6 := Evo.trans' e5 (e6.mono wq_as)
            have ekv : v = .bl k := by simpa [RepE, RepX, Rep] using rv
            refine ⟨k, ekv, ?_⟩
            have srk : SR X.K (c.add cp) B as H6 σ ⟨s.env, st3⟩ := SR.slots (s := ⟨s.env, st⟩) (σ := σ) sr7 sr4 e56
            split at eR
            · rename_i hk
              rw [if_pos hk]
              rw [← eR] at hw'
              exact hw' (.bl stopAt) H6 (ev4.trans' e56) srk.sub (by simp [RepE, RepX, Rep])
            · rename_i hk
              rw [if_neg hk]
              exact ⟨st3, ev4.trans' e56, srk, eR⟩
          · rw [← eR] at hw'; exact hw'.elim
        · rename_i st2 eft
          rw [eft]
          intro b H5 e5 sr6 hb
          have hb' : b = false := hb
          subst hb'
          rw [if_neg Bool.false_ne_true]
          have e5' : Evo as H4 H5 := e5
          exact ⟨st2, ev4.trans' e5', SR.slots (s := ⟨s.env, st⟩) (σ := σ) sr6 sr4 e5', eR⟩
        · rw [← eR] at hw'; exact hw'.elim
      · rw [← eR] at hw'; exact hw'.elim
    · rename_i ei
      refine .inl ⟨wd.stops B i H3 σ ⟨s.env, st⟩ (fun _ z => .inl z) ev sr3.sub ei, ?_⟩
      rw [← eR] at hw'
      exact hw' (.bl (!stopAt)) H3 ev sr3.sub (by simp [RepE, RepX, Rep])
    · rw [← eR] at hw'; exact hw'.elim
variable {cc P P0 : Addr} {k : Nat} {fi : EvI} {is : List Nat} {g : GS} {ft : EvT} {fe : EvD} {q : Bool} {elt tg iter : Expr} {ifs : List Expr} {scope : Scope} {p pos gpos : Pos}
theorem de_all (own : List (Str × Nat)) (kn : KnC X.base c cc P) (hc : X.calm = true) (hN : X.N.Nodup) (hr : Room (k + 3) X.A) (hgl : Gl X "all") (hm : X.mg "all" = none) (hb : bootBuiltins "all" = some (.builtin "all")) (bm : X.base.BuiltinsAt X.mg P0) (hcode : X.env.code = .ref cc) (ok : GenOk X.N X.env.scope scope own) (hi : DI X c W tg iter fi)
    (hg : ∀ (cp : Addr × Addr) (s : Shared) (H : Hp) (C : Addr) (cl : List (Str × Addr)) (fp : List Addr) (pn : List (Addr × Obj)), DG (gCx X (X.A.in1.in1.deeper (genEnv scope cl C (.ref cp.1) builtinsNs X.env)) s H scope C cl (.ref cp.1) fp pn) (c.add cp) tg is g)
    (ht : ∀ (cp : Addr × Addr) (s : Shared) (H : Hp) (C : Addr) (cl : List (Str × Addr)) (fp : List Addr) (pn : List (Addr × Obj)), DTs (gCx X (X.A.in1.in1.deeper (genEnv scope cl C (.ref cp.1) builtinsNs X.env)) s H scope C cl (.ref cp.1) fp pn) (c.add cp) W0 ifs ft)
    (he : ∀ (cp : Addr × Addr) (s : Shared) (H : Hp) (C : Addr) (cl : List (Str × Addr)) (fp : List Addr) (pn : List (Addr × Obj)), DE (gCx X (X.A.in1.in1.deeper (genEnv scope cl C (.ref cp.1) builtinsNs X.env)) s H scope C cl (.ref cp.1) fp pn) (c.add cp) W0 elt false q fe)
    (his : ∀ i ∈ is, i ∈ own.map (·.2)) (hs : ∀ v, genFold iter X.env v = pure v)
    (hst : starEach [.GeneratorExp elt [⟨tg, iter, ifs, 0⟩] scope gpos] X.env = (false, eval (.GeneratorExp elt [⟨tg, iter, ifs, 0⟩] scope gpos) X.env) :: starEach [] X.env) :
    DE X c W (.Call (.Name "all" p) [.GeneratorExp elt [⟨tg, iter, ifs, 0⟩] scope gpos] [] pos) false false (quantE false fi (own.map (·.2)) g ft fe) := by
  obtain ⟨wi, pi, ri⟩ := hi
  exact ⟨_, pe_allQ (g := fun cp => gDG X (c.add cp) is g) (tt := fun cp => tDTs X (c.add cp) W0 ft) (te := fun cp => tDE X.K X (c.add cp) W0 false q fe) hc hN hr hgl hm hb bm hcode ok pi (fun cp s H C cl fp pn => (hg cp s H C cl fp pn).pg) (fun cp s H C cl fp pn => (ht cp s H C cl fp pn).pts) (fun cp s H C cl fp pn => (he cp s H C cl fp pn).pe) hs hst,
    fun B as σ H s Q sr hw => quant_ref kn his ri sr hw⟩
theorem de_any (own : List (Str × Nat)) (kn : KnC X.base c cc P) (hc : X.calm = true) (hN : X.N.Nodup) (hr : Room (k + 3) X.A) (hgl : Gl X "any") (hm : X.mg "any" = none) (bm : X.base.BuiltinsAt X.mg P0) (hcode : X.env.code = .ref cc) (ok : GenOk X.N X.env.scope scope own) (hi : DI X c W tg iter fi)
    (hg : ∀ (cp : Addr × Addr) (s : Shared) (H : Hp) (C : Addr) (cl : List (Str × Addr)) (fp : List Addr) (pn : List (Addr × Obj)), DG (gCx X (X.A.in1.in1.deeper (genEnv scope cl C (.ref cp.1) builtinsNs X.env)) s H scope C cl (.ref cp.1) fp pn) (c.add cp) tg is g)
    (ht : ∀ (cp : Addr × Addr) (s : Shared) (H : Hp) (C : Addr) (cl : List (Str × Addr)) (fp : List Addr) (pn : List (Addr × Obj)), DTs (gCx X (X.A.in1.in1.deeper (genEnv scope cl C (.ref cp.1) builtinsNs X.env)) s H scope C cl (.ref cp.1) fp pn) (c.add cp) W0 ifs ft)
    (he : ∀ (cp : Addr × Addr) (s : Shared) (H : Hp) (C : Addr) (cl : List (Str × Addr)) (fp : List Addr) (pn : List (Addr × Obj)), DE (gCx X (X.A.in1.in1.deeper (genEnv scope cl C (.ref cp.1) builtinsNs X.env)) s H scope C cl (.ref cp.1) fp pn) (c.add cp) W0 elt false q fe)
    (his : ∀ i ∈ is, i ∈ own.map (·.2)) (hs : ∀ v, genFold iter X.env v = pure v)
    (hst : starEach [.GeneratorExp elt [⟨tg, iter, ifs, 0⟩] scope gpos] X.env = (false, eval (.GeneratorExp elt [⟨tg, iter, ifs, 0⟩] scope gpos) X.env) :: starEach [] X.env) :
    DE X c W (.Call (.Name "any" p) [.GeneratorExp elt [⟨tg, iter, ifs, 0⟩] scope gpos] [] pos) false false (quantE true fi (own.map (·.2)) g ft fe) := by
  obtain ⟨wi, pi, ri⟩ := hi
  exact ⟨_, pe_anyQ (g := fun cp => gDG X (c.add cp) is g) (tt := fun cp => tDTs X (c.add cp) W0 ft) (te := fun cp => tDE X.K X (c.add cp) W0 false q fe) hc hN hr hgl hm bm hcode ok pi (fun cp s H C cl fp pn => (hg cp s H C cl fp pn).pg) (fun cp s H C cl fp pn => (ht cp s H C cl fp pn).pts) (fun cp s H C cl fp pn => (he cp s H C cl fp pn).pe) hs hst,
    fun B as σ H s Q sr hw => quant_ref kn his ri sr hw⟩
end
end DL
end
section
set_option Elab.async false
set_option linter.all false
set_option maxRecDepth 100000
set_option maxHeartbeats 1000000
/-! The data layer, part o: list(reversed(..)). -/
namespace DL
open PySem PySem.Spec PyProof.Rows L2 PySem.SeqAt PySem.W RT
section
variable {prog : Program} {w : World} {A : Around} {E : Value → Shared → Prop} {s : Shared}
theorem call_list_rev {it l : Addr} {items : Array Value} {Q : Value → Shared → Prop} (hh : A.handled = none) (hit : s.heap.IsRevIter it l ((items.size : Int) - 1)) (hl : s.heap.IsList l items) (hne : l ≠ it) (hn : items.size ≤ sizeLine)
    (hQ : ∀ (h' : Heap) (tk : Nat) (acc : Array Value) (c : Nat), (∀ b o, b ≠ it → s.heap.get? b = some o → h'.get? b = some o) → h'.get? s.heap.objs.size = some { cls := .type "list", dict := none, data := .seq acc c, slots := #[] } → ItemsOf (fun i v => items[items.size - 1 - i]? = some v) acc items.size →
      Q (.ref s.heap.objs.size) { s with heap := h', toks := tk }) :
    wpAny (model prog w) A (call (.type "list") [.ref it]) Q E s := by
  obtain ⟨oi, hoi, _⟩ := id hit
  obtain ⟨ol, hol, _⟩ := id hl
  have hSi : s.heap.objs.size ≠ it := Nat.ne_of_gt (Heap.lt_size hoi)
  have hSl : s.heap.objs.size ≠ l := Nat.ne_of_gt (Heap.lt_size hol)
  have hSf : s.heap.objs.size ∉ [it, l] := by simp only [List.mem_cons, List.not_mem_nil, or_false, not_or]; exact ⟨hSi, hSl⟩
  refine callType_codes (Q₁ := fun obj s₁ => obj = .ref s.heap.objs.size ∧ s₁ = { s with heap := s.heap.push { cls := .type "list", data := .seq #[] } }) F.called_list (F.typeCall_list_1 _) F.entry_list_init
    (code_list_new _ ⟨rfl, rfl⟩) fun obj s₁ h₁ => ?_
  obtain ⟨rfl, rfl⟩ := h₁
  have hS : (s.heap.push { cls := .type "list", data := .seq #[] }).get? s.heap.objs.size = some { cls := .type "list", data := .seq #[] } := Heap.get?_push_size _ rfl
  refine ⟨⟨_, hS, rfl⟩, F.args_list_init_2 _ _, ?_⟩
  show wpAny _ A.in1.in1 (do let old ← Builtin.List.listItems (.ref s.heap.objs.size); Builtin.List.listUpdate (.ref s.heap.objs.size) (fun _ => #[]); letGo old.toList.reverse; Builtin.List.listExtendWith (.ref s.heap.objs.size) (.ref it) .none) _ _ _
  refine wpAny_bind ?_
  unfold Builtin.List.listItems
  refine wpAny_bind (wpAny_seqItems hS rfl (wpAny_pure ?_))
  show wpAny _ A.in1.in1 (updateSeq s.heap.objs.size (fun _ => #[]) >>= fun _ => letGo (#[] : Array Value).toList.reverse >>= fun _ => Builtin.List.listExtendWith (.ref s.heap.objs.size) (.ref it) .none) _ _ _
  refine wpAny_bind (wpAny_updateSeq hS rfl ?_)
  have hS2 := Heap.get?_update_self (Obj.mapSeq (fun _ => (#[] : Array Value))) hS rfl
  refine wpAny_bind (wpAny_letGo ?_)
  have k1 : ∀ b o, s.heap.get? b = some o → (s.heap.push { cls := .type "list", data := .seq #[] }).get? b = some o := fun b o e => Heap.get?_push_of_some _ e
  have k2 : ∀ b o, s.heap.get? b = some o → ((s.heap.push { cls := .type "list", data := .seq #[] }).update s.heap.objs.size (Obj.mapSeq (fun _ => (#[] : Array Value)))).get? b = some o := fun b o e =>
    (Heap.get?_update_other _ _ (Ne.symm (Nat.ne_of_lt (Heap.lt_size e)))).trans (k1 b o e)
  generalize hh2 : (s.heap.push { cls := .type "list", data := .seq #[] }).update s.heap.objs.size (Obj.mapSeq (fun _ => (#[] : Array Value))) = h2 at hS2 k2 ⊢
  have hit1 : h2.IsRevIter it l ((items.size : Int) - 1) := hit.at fun o e => k2 _ _ e
  have hl1 : h2.IsList l items := let ⟨o, e, r⟩ := hl; ⟨o, k2 _ _ e, r⟩
  have hT : ({ s with heap := h2 } : Shared).TypeIs (.ref it) "list_reverseiterator" := Heap.IsRevIter.typeIs (s := { s with heap := h2 }) hit1
  have h1 : Builtin.List.listSameRef (.ref s.heap.objs.size) (.ref it) = false := by simp [Builtin.List.listSameRef, hSi]
  have W := (Walks.listRev (prog := prog) (w := w) (A := A.in1.in1) hh it l hne items).toS
  unfold Builtin.List.listExtendWith
  refine wpAny_bind (wpAny_typeOf hT ?_)
  rw [if_neg (by rw [h1]; decide)]
  refine wpAny_bind (wpAny_pyIter_revIter (s := { s with heap := h2 }) hit1 ?_)
  refine wpAny_bind (wpAny_holding ?_)
  unfold Builtin.List.listLengthHint
  refine wpAny_bind (wpAny_specialOf hT nolen_lri ?_)
  show wpAny _ A.in1.in1 (specialOf (Value.ref it) (Str.ofString "__length_hint__") >>= _) _ _ _
  refine wpAny_bind (wpAny_specialOf hT hint_lri ?_)
  generalize hid : ("list_reverseiterator.__length_hint__" : String) = id0
  wp_delta
  rw [show splitId id0 = some ("list_reverseiterator", "__length_hint__") from by subst hid; decide +kernel]
  subst hid
  refine wpAny_bind (wpAny_isInstance (b := true) hT (by rw [isSubtype_type]; kernel_rfl) ?_)
  refine wpAny_pure ?_
  rw [if_neg (by decide)]
  have e0 : ((items.size : Nat) : Int) - 1 - ((0 : Nat) : Int) = (items.size : Int) - 1 := by omega
  refine wpAny_pure ⟨plainId_quiet F.plain_extend_loop _, codeAny_extend_loopS W hn _ hSf _ items.size 0 { s with heap := h2 } _ _ rfl (Nat.zero_le _) ⟨Nat.zero_le _, by rw [e0]; exact hit1, hl1⟩ hS2 (ItemsOf.nil _) fun s' acc' c' hm hS' hacc => ?_⟩
  refine ⟨rfl, ?_⟩
  rw [Moved.eq_with hm]
  refine hQ s'.heap s'.toks acc' c' (fun b o hb e => hm.heap b o (fun hmem => ?_) (k2 b o e)) hS' hacc
  rcases List.mem_cons.mp hmem with e' | hmem
  · exact absurd (Heap.lt_size e) (by rw [e']; exact Nat.lt_irrefl _)
  · exact hb (List.mem_singleton.mp hmem)
end
def tLstRev (K : PySem.W.Frag) (te : TE) : TE := fun σ H Q => te σ H fun v H1 => ∃ (a : Addr) (xs : List V), v = .ref a ∧ SqL K H1 a xs ∧ ∀ q, H1 q = none → Q (.ref q) (upd H1 q (.lst xs.reverse))
section
variable {X : Cx}
theorem pe_lstRev {e : Expr} {te : TE} {p p2 pos pos2 : Pos} (hc : X.calm = true) (hg : Gl X "list") (hm : X.mg "list" = none) (hbl : bootBuiltins "list" = some (.type "list")) (hg2 : Gl X "reversed") (hm2 : X.mg "reversed" = none) (he : PE X e te)
    (hs : starEach [e] X.env = (false, eval e X.env) :: starEach [] X.env)
    (hs2 : starEach [.Call (.Name "reversed" p2) [e] [] pos2] X.env = (false, eval (.Call (.Name "reversed" p2) [e] [] pos2) X.env) :: starEach [] X.env) :
    PE X (.Call (.Name "list" p) [.Call (.Name "reversed" p2) [e] [] pos2] [] pos) (tLstRev X.K te) := by
  refine ⟨fun pins s σ H Q I h => ?_⟩
  refine Call_ (ld_blt I hg hm hbl (PyProof.Rows.callWith_type1 (args_cons (Call_ (ld_blt I hg2 hm2 PyProof.Rows.boot_reversed (PyProof.Rows.callWith_type1 (args_cons (thn (he.run pins s σ H _ I h) fun u s1 ⟨v, H1, I1, r1, q1⟩ => args_nil ?_) hs) hs rfl))) hs2) hs2 rfl))
  obtain ⟨a, xs, ev, hq, q⟩ := q1
  subst ev
  obtain rfl : u = Value.ref a := r1
  obtain ⟨its, rv, p', hz⟩ := I1.list hq
  refine call_reversed_list p'.isList (args_nil ?_)
  have k0 : ∀ b o, s1.heap.get? b = some o → (s1.heap.push (revObj a ((its.toArray.size : Int) - 1))).get? b = some o := fun b o e => Heap.get?_push_of_some _ e
  have I2 : Inv X pins σ H1 { s1 with heap := s1.heap.push (revObj a ((its.toArray.size : Int) - 1)) } := I1.kept (t' := s1.toks) k0
  obtain ⟨f0, f1, f2, f3, f4, f5⟩ := I1.fpOk (H' := H1) (b := s1.heap.objs.size) (Nat.le_refl _) (I1.hok.fresh (Nat.le_refl _))
  have hl := p'.isList
  obtain ⟨ol, hol, _⟩ := id hl
  have hne : a ≠ s1.heap.objs.size := Nat.ne_of_lt (Heap.lt_size hol)
  have hn : its.toArray.size ≤ sizeLine := by rw [List.size_toArray, ← rv.length]; exact hz
  refine call_list_rev (s := { s1 with heap := s1.heap.push (revObj a ((its.toArray.size : Int) - 1)) }) (I1.ok.hd hc) ⟨_, Heap.get?_push_size _ rfl, rfl, rfl⟩ (hl.push _) hne hn fun h' tk acc c hk hS hi => ?_
  have hS' : h'.get? (s1.heap.objs.size + 1) = some { cls := .type "list", dict := none, data := .seq acc c, slots := #[] } := by rw [← Heap.size_push]; exact hS
  have I3 : Inv X pins σ H1 { s1 with heap := h', toks := tk } := I2.turned (t' := tk) (fun b o hb e => hk b o hb e) f0 f1 f3 f4 f5
  have hfr : H1 (s1.heap.objs.size + 1) = none := I1.hok.fresh (Nat.le_succ _)
  have kk : ∀ b o, s1.heap.get? b = some o → h'.get? b = some o := fun b o e => hk b o (Nat.ne_of_lt (Heap.lt_size e)) (k0 b o e)
  have J := I1.drained (s' := { s1 with heap := h', toks := tk }) (out := xs.reverse) (Nat.le_succ _) (by rw [List.length_reverse]; exact hz) hS' (vals_rev rv hi) ExOk.nil rfl I1.bare (Un.kept kk) I3.hok hfr
  rw [show (s1.heap.push (revObj a ((its.toArray.size : Int) - 1))).objs.size = s1.heap.objs.size + 1 from Heap.size_push ..]
  exact ⟨.ref _, _, J, rfl, q _ hfr⟩
end
section
variable {X : Cx} {c : Cfg} {W : WX} {e : Expr} {p p2 pos pos2 : Pos}
/-- list(reversed(x)), x a list -/
def revC (f : EvR) : EvC := fun s => (f s).bind fun q => match q.1.lst, q.1.get q.2 with
  | true, some ds => .ok (ds.reverse, q.2)
  | _, _ => .stuck
theorem dc_rev {f : EvR} (hc : X.calm = true) (hg : Gl X "list") (hm : X.mg "list" = none) (hbl : bootBuiltins "list" = some (.type "list")) (hg2 : Gl X "reversed") (hm2 : X.mg "reversed" = none) (h : DR X c W e f)
    (hs : starEach [e] X.env = (false, eval e X.env) :: starEach [] X.env)
    (hs2 : starEach [.Call (.Name "reversed" p2) [e] [] pos2] X.env = (false, eval (.Call (.Name "reversed" p2) [e] [] pos2) X.env) :: starEach [] X.env) :
    DC X c W (.Call (.Name "list" p) [.Call (.Name "reversed" p2) [e] [] pos2] [] pos) (revC f) := by
  obtain ⟨t, pe, r⟩ := h
  refine ⟨_, pe_lstRev hc hg hm hbl hg2 hm2 pe hs hs2, fun B as σ H s Q sr hw => ?_⟩
  show t σ H _
  refine WantsC.bindG (s := s) hw sr r fun v H1 src st1 e1 ev1 sr1 ok hw1 => ?_
  simp only at hw1
  split at hw1
  · rename_i hl hgt
    rename_i ds
    obtain ⟨a, rfl, h⟩ := id ok
    obtain ⟨vs, q, rs⟩ := h B H1 σ _ ds (fun _ z => .inl z) Evo.refl sr1 hgt
    unfold SqX at q
    rw [if_pos hl] at q
    refine ⟨a, vs, rfl, q, fun D hD => ?_⟩
    refine hw1 D vs.reverse _ (Evo.new hD) hD (sr1.outN hD) upd_same ?_
    exact RepA.evo (Evo.new (W := []) hD) (fun _ z => by cases z) _ _ (RepA.avoid (fun x hx => by
      rcases List.mem_cons.mp hx with z | z
      · exact .inr (by rw [z]; exact hD)
      · exact .inl z) _ _ rs.reverse)
  · exact hw1.elim
end
end DL
end
section
set_option Elab.async false
set_option linter.all false
set_option maxRecDepth 100000
set_option maxHeartbeats 1000000
/-! The data layer, part p: op=, dicts, pairs stored in order. -/
namespace DL
open PySem PySem.Spec PyProof.Rows L2 PySem.SeqAt PySem.W
section
variable {X : Cx} {c : Cfg} {W : WX} {B as P L : List Addr} {σ : L2.St} {H H1 : Hp} {s : S} {e a b : Expr} {pos : Pos} {fa fb : EvD} {q qa qb : Bool}
/-! ### x op= e -/
def IpD (X : Cx) (op : Operator) (g : PyData → PyData → Option PyData) : Prop :=
  ∃ r, PIp X op r ∧ ∀ (H : Hp) (x y : V) (dx dy d : PyData) (av : List Addr) (Q : VK), (∀ p, H p = none → p ∉ av) → Rep X.K av H dx x → Rep X.K av H dy y → g dx dy = some d →
    (∀ z H', Evo [] H H' → Rep X.K av H' d z → Q z H') → r x y H Q
def iaddD : PyData → PyData → Option PyData
  | .int a, .int b => some (.int (a + b))
  | _, _ => none
def isubD : PyData → PyData → Option PyData
  | .int a, .int b => some (.int (a - b))
  | _, _ => none
theorem id_add : IpD X .Add iaddD := by
  refine ⟨_, ip_add, fun H x y dx dy d av Q hav r1 r2 e hQ => ?_⟩
  unfold iaddD at e
  split at e
  · cases e
    simp only [Rep] at r1 r2
    exact ⟨_, _, r1, r2, hQ _ H Evo.refl (by simp [Rep])⟩
  · cases e
theorem id_sub : IpD X .Sub isubD := by
  refine ⟨_, ip_sub, fun H x y dx dy d av Q hav r1 r2 e hQ => ?_⟩
  unfold isubD at e
  split at e
  · cases e
    simp only [Rep] at r1 r2
    exact ⟨_, _, r1, r2, hQ _ H Evo.refl (by simp [Rep])⟩
  · cases e
def augS (i : Nat) (g : PyData → PyData → Option PyData) (fe : EvD) : EvS := fun n s => match s.env[i]? with
  | some (some (.pure dx)) => (fe s).bx s.env fun p => (match g dx p.1 with
    | some d => .ok (.next, ⟨s.env.set i (some (.pure d)), p.2⟩)
    | none => .stuck)
  | _ => .stuck
theorem ds_aug {i : Nat} {x : Str} {op : Operator} {g : PyData → PyData → Option PyData} {pos' : Pos} (hN : X.N.Nodup) (hi : X.N[i]? = some x) (hx : Loc X.env.scope x) (h : DE X c W e false q fa) (ho : IpD X op g) (hf : X.fn x = true ∨ X.env.scope.names.lookup x = some .local) :
    DS X c W (.AugAssign (.Name x pos') op e pos) (augS i g fa) := by
  obtain ⟨t, p, r⟩ := h
  obtain ⟨u, p2, r2⟩ := ho
  refine ⟨_, ps_aug hN hi hx p p2 hf, fun B P L σ H s D srl hw => ?_⟩
  unfold augS at hw
  split at hw
  · rename_i dx es
    obtain ⟨v, q1, rv⟩ := srl.sr.slot i _ es
    refine ⟨v, q1, ?_⟩
    show t σ H _
    refine WantsS.bindG (s := s) hw srl r fun y H1 d st1 e1 ev1 sr1 r1 hw1 => ?_
    simp only at hw1
    split at hw1
    · rename_i d' eg
      have rv : Rep X.K (B ++ (P ++ L)) H dx v := rv
      refine r2 H1 v y dx d d' _ _ (fun p hp => sr1.sr.notnew hp) (Rep.evo ev1 (fun x hx => List.mem_append_right _ hx) _ _ rv) r1 eg fun z H2 ev2 rz => ?_
      exact hw1.fin ev2.wide ⟨(sr1.sr.evo ev2).setV (sv := .pure d') rz, sr1.off⟩
    · exact hw1.elim
  · exact hw.elim

/-! ### a, b = x, y stored in order -/
def asg2S (i j : Nat) (fa : EvA) : EvS := fun n s => (fa s).bx s.env fun p => match p.1 with
  | [a, b] => .ok (.next, ⟨(s.env.set i (some a)).set j (some b), p.2⟩)
  | _ => .stuck
theorem ds_asg2 {i j : Nat} {x y : Str} {es : List Expr} {fa : EvA} {px py pt : Pos} {kt k2 : Nat} {pt2 : Pos} (hc : X.calm = true) (hN : X.N.Nodup) (hi : X.N[i]? = some x) (hj : X.N[j]? = some y)
    (hx : Loc X.env.scope x) (hy : Loc X.env.scope y) (hfx : X.fn x = true ∨ X.env.scope.names.lookup x = some .local) (hfy : X.fn y = true ∨ X.env.scope.names.lookup y = some .local) (ha : DVA X c W es fa)
    (hn : (assignEach [.Name x px, .Name y py] X.env).length = 2) (hst : (assignEach [.Name x px, .Name y py] X.env).findIdx? (·.1) = none)
    (ho1 : (assignEach [.Name x px, .Name y py] X.env).map (·.2) = assign (.Name x px) X.env :: (assignEach [.Name y py] X.env).map (·.2)) (ho2 : (assignEach [.Name y py] X.env).map (·.2) = assign (.Name y py) X.env :: (assignEach [] X.env).map (·.2))
    (hs : swapsWithSole [.Tuple [.Name x px, .Name y py] kt pt] (.Tuple es k2 pt2) pos.line X.env = pure false) (hw : swappedStores [.Tuple [.Name x px, .Name y py] kt pt] (.Tuple es k2 pt2) X.env = pure none)
    (h1 : (assignEach [.Tuple [.Name x px, .Name y py] kt pt] X.env).map (·.2) = [assign (.Tuple [.Name x px, .Name y py] kt pt) X.env]) :
    DS X c W (.Assign [.Tuple [.Name x px, .Name y py] kt pt] (.Tuple es k2 pt2) pos) (asg2S i j fa) := by
  obtain ⟨t, p, r⟩ := ha
  refine ⟨_, ps_asg (pe_tup p) (pg_tup hc (pgs_cons (pg_name hN hi hx hfx) (pgs_cons (pg_name hN hj hy hfy) pgs_nil ho2) ho1) hn hst) hs hw h1, fun B P L σ H s D srl hw => ?_⟩
  show t σ H _
  refine WantsS.bindV (s := s) hw srl r fun vs N H1 d st1 e1 ev1 sr1 r1 hw1 => ?_
  simp only at hw1
  split at hw1
  · obtain ⟨v, q1, rfl, h1, w, q2, rfl, h2, z⟩ := r1
    have z' : q2 = [] := z
    subst z'
    refine ⟨by show 2 ≤ sizeLine; decide, fun p hp => ?_⟩
    have evn : Evo [] H1 (upd H1 p (.tup [v, w])) := Evo.new hp
    refine ⟨p, [v, w], rfl, .inl (.of upd_same), rfl, v, [w], rfl, w, [], rfl, rfl, ?_⟩
    have sr2 := sr1.sr.evo evn
    exact hw1.fin evn.wide ⟨(sr2.setV (h1.evo evn fun _ z => by cases z)).setV (h2.evo evn fun _ z => by cases z), sr1.off⟩
  · exact hw1.elim

/-! ### dicts whose keys are ints and texts -/
def keyOf : PyData → Option Key
  | .int i => some (.inl i)
  | .str x => some (.inr x)
  | _ => none
theorem keyOf_rep {K : PySem.W.Frag} {av : List Addr} {H : Hp} {d : PyData} {k : Key} {v : V} (h : keyOf d = some k) (r : Rep K av H d v) : v = kV k := by
  unfold keyOf at h
  split at h
  · cases h; simpa [Rep, kV] using r
  · cases h; simpa [Rep, kV] using r
  · cases h
def valD (kvs : List (Key × PyData)) (k : Key) : Option PyData := (kvs.find? fun kv => decide (kv.1 = k)).map (·.2)
def putD (kvs : List (Key × PyData)) (k : Key) (d : PyData) : List (Key × PyData) := if (kvs.any fun kv => decide (kv.1 = k)) = true then kvs.map fun kv => if kv.1 = k then (kv.1, d) else kv else kvs ++ [(k, d)]
theorem KRep.val {K : PySem.W.Frag} {av : List Addr} {H : Hp} {kvs : List (Key × PyData)} {kvv : List (Key × V)} (r : KRep K av H kvs kvv) (k : Key) : (valD kvs k = none ∧ valV kvv k = none) ∨ ∃ d v, valD kvs k = some d ∧ valV kvv k = some v ∧ Rep K av H d v := by
  induction r with
  | nil => exact .inl ⟨rfl, rfl⟩
  | @cons p q ps qs h t ih =>
    by_cases e : p.1 = k
    · refine .inr ⟨p.2, q.2, ?_, valV_pos (by rw [← h.1]; exact e), h.2⟩
      simp [valD, List.find?_cons, e]
    · rw [valV_neg (by rw [← h.1]; exact e)]
      have : valD (p :: ps) k = valD ps k := by simp [valD, List.find?_cons, e]
      rw [this]
      exact ih
theorem KRep.any {K : PySem.W.Frag} {av : List Addr} {H : Hp} {kvs : List (Key × PyData)} {kvv : List (Key × V)} (r : KRep K av H kvs kvv) (k : Key) : (kvs.any fun kv => decide (kv.1 = k)) = kvv.any fun kv => decide (kv.1 = k) := by
  induction r with
  | nil => rfl
  | @cons p q ps qs h t ih => rw [List.any_cons, List.any_cons, ih, h.1]
theorem KRep.put {K : PySem.W.Frag} {av : List Addr} {H : Hp} {kvs : List (Key × PyData)} {kvv : List (Key × V)} (r : KRep K av H kvs kvv) (k : Key) {d : PyData} {v : V} (rv : Rep K av H d v) : KRep K av H (putD kvs k d) (putK kvv k v) := by
  unfold putD putK
  rw [r.any k]
  split
  · rename_i hh
    clear hh
    induction r with
    | nil => exact .nil
    | @cons p q ps qs h t ih =>
      rw [List.map_cons, List.map_cons]
      refine .cons ?_ ih
      rw [h.1]
      split
      · exact ⟨rfl, rv⟩
      · exact ⟨h.1, h.2⟩
  · rename_i hh
    clear hh
    induction r with
    | nil => exact .cons ⟨rfl, rv⟩ .nil
    | @cons p q ps qs h t ih => exact .cons h ih
theorem KRep.len {K : PySem.W.Frag} {av : List Addr} {H : Hp} {kvs : List (Key × PyData)} {kvv : List (Key × V)} (r : KRep K av H kvs kvv) : kvv.length = kvs.length := (Paired.length r).symm
/-- d[k], d an own dict -/
def dgetE (i : Nat) (fk : EvD) : EvD := fun s => match objAt s.env i with
  | some j => (fk s).bind fun p => (match p.2[j]?, keyOf p.1 with
    | some (.dK kvs), some k => (match valD kvs k with
      | some d => .ok (d, p.2)
      | none => .stuck)
    | _, _ => .stuck)
  | none => .stuck
theorem de_dget {i : Nat} {x : Str} {p1 : Pos} (hu : X.A.units + 64 < cLine) (hN : X.N[i]? = some x) (hv : Vis X.env.scope x) (hd : (x == ("__debug__" : Str)) = false) (hcd : (x == ("__classdict__" : Str)) = false) (h : DE X c W e false q fa) (hs : NoSl e) : DE X c W (.Subscript (.Name x p1) e pos) false q (dgetE i fa) := by
  obtain ⟨t, p, r⟩ := h
  refine ⟨_, pe_dget (by omega) (pe_var hN hv hd hcd) p hs, fun B as σ H s Q sr hw => ?_⟩
  unfold dgetE at hw
  cases ej : objAt s.env i with
  | none => rw [ej] at hw; exact hw.elim
  | some j =>
    rw [ej] at hw
    obtain ⟨a, q1, q2⟩ := objAt_get sr ej
    refine ⟨_, q1, ?_⟩
    show t σ H _
    rw [← Bool.and_true q] at hw
    refine WantsG.bind (s := s) hw sr r fun y H1 d st1 e1 ev1 sr1 r1 hw1 => ?_
    simp only at hw1
    split at hw1
    · rename_i kvs k el ek
      split at hw1
      · rename_i d' ed
        obtain ⟨kvv, h1, h2⟩ := sr1.objs j _ a el q2
        rcases h2.val k with ⟨z, _⟩ | ⟨d2, v, z1, z2, z3⟩
        · rw [ed] at z; cases z
        · rw [ed] at z1
          cases z1
          have ey := keyOf_rep ek r1
          subst ey
          refine ⟨a, v, rfl, ?_, hw1.fin sr1 Evo.refl z3⟩
          rw [← z2]
          exact DGet.k h1
      · exact hw1.elim
    · exact hw1.elim
/-- d[k] = e -/
def dputS (i : Nat) (fk fe : EvD) : EvS := fun n s => (fe s).bx s.env fun p => match objAt s.env i with
  | some j => (fk ⟨s.env, p.2⟩).bx s.env fun q => (match q.2[j]?, keyOf q.1 with
    | some (.dK kvs), some k => if kvs.length < 16777216 then .ok (.next, ⟨s.env, q.2.set j (.dK (putD kvs k p.1))⟩) else .stuck
    | _, _ => .stuck)
  | none => .stuck
theorem ds_dput {i : Nat} {x : Str} {p1 p2 : Pos} {ke : Expr} {fk : EvD} (hu : X.A.units + 64 < cLine) (hN : X.N[i]? = some x) (hv : Vis X.env.scope x) (hd : (x == ("__debug__" : Str)) = false) (hcd : (x == ("__classdict__" : Str)) = false) (hk : DE X c W ke false qb fk) (h : DE X c W e false q fa)
    (hs : swapsWith e (some (.Subscript (.Name x p1) ke p2)) pos.line X.env = pure false) : DS X c W (.Assign [.Subscript (.Name x p1) ke p2] e pos) (dputS i fk fa) := by
  obtain ⟨t, p, r⟩ := h
  obtain ⟨tk, pk, rk⟩ := hk
  refine ⟨_, ps_dput (by omega) (pe_var hN hv hd hcd) pk p hs, fun B P L σ H s D srl hw => ?_⟩
  show t σ H _
  refine WantsS.bindG (s := s) hw srl r fun v H1 d st1 e1 ev1 sr1 r1 hw1 => ?_
  show tVar i σ H1 _
  simp only at hw1
  cases ej : objAt s.env i with
  | none => rw [ej] at hw1; exact hw1.elim
  | some j =>
    rw [ej] at hw1
    obtain ⟨a, q1, q2⟩ := objAt_get sr1.sr ej
    refine ⟨_, q1, ?_⟩
    show tk σ H1 _
    refine WantsS.bindG (s := ⟨s.env, st1⟩) hw1 sr1 rk fun y H2 d2 st2 e2 ev2 sr2 r2 hw2 => ?_
    simp only at hw2
    split at hw2
    · rename_i kvs k el ek
      split at hw2
      · rename_i hlt
        obtain ⟨kvv, h1, h2⟩ := sr2.sr.objs j _ a el q2
        have ey := keyOf_rep ek r2
        subst ey
        have rv : Rep X.K (B ++ (P ++ L)) H2 d v := Rep.evo ev2 (fun x hx => List.mem_append_right _ hx) _ _ r1
        have hm := List.mem_of_getElem? q2
        have evw : Evo [a] H2 (upd H2 a (.dK (putK kvv k v))) := Evo.at h1 ⟨(fun _ z => by cases z), (fun _ _ z => by cases z)⟩ (List.mem_singleton.mpr rfl)
        obtain ⟨w1, w2⟩ := sr2.sr.write (o := .dK (putD kvs k d)) (u := .dK (putK kvv k v)) q2 ⟨_, upd_same, KRep.evo evw (fun x hx => by rw [List.mem_singleton.mp hx]; exact List.mem_append_right _ hm) (h2.put k rv)⟩
        exact ⟨a, _, rfl, DPut.k h1 (by rw [sizeLine_eq, h2.len]; exact hlt), hw2.fin w1 ⟨w2, sr2.off⟩⟩
      · exact hw2.elim
    · exact hw2.elim
/-- {} -/
def dict0V : EvV := fun s => .ok (.obj s.st.length, s.st ++ [.dK []])
theorem dv_dict0 : DV X c W (.Dict [] [] pos) dict0V := ⟨_, pe_dnewK, fun B as σ H s Q sr hw p hp => WantsV.new hw sr hp (Evo.new hp) ⟨[], upd_same, .nil⟩⟩
/-- {k: v} -/
def dict1V (fk fv : EvD) : EvV := fun s => (fk s).bind fun p => (fv ⟨s.env, p.2⟩).bind fun q => match keyOf p.1 with
  | some k => .ok (.obj q.2.length, q.2 ++ [.dK [(k, q.1)]])
  | none => .stuck
/-- from outside it becomes an own object -/
theorem SR.ownO {K : PySem.W.Frag} {env : List (Option SV)} {st : Sto} {o : O} {D : Addr} (sr : SR K c (D :: B) as H σ ⟨env, st⟩) (hd : D ∉ as) (ho : ORep K c.hs ((D :: B) ++ as) H D o) : SR K c B (as ++ [D]) H σ ⟨env, st ++ [o]⟩ := by
  have hav : ∀ x ∈ B ++ (as ++ [D]), x ∈ (D :: B) ++ as ∨ H x = none := fun x hx => .inl (by
    rcases List.mem_append.mp hx with z | z
    · exact List.mem_append_left _ (List.mem_cons_of_mem _ z)
    · rcases List.mem_append.mp z with z | z
      · exact List.mem_append_right _ z
      · rw [List.mem_singleton.mp z]; exact List.mem_append_left _ List.mem_cons_self)
  have hal := sr.aslen
  simp only at hal
  refine ⟨sr.len, fun i sv q => ?_, ?_, by rw [List.length_append, List.length_append, hal]; rfl, fun i o' a h1 h2 => ?_, fun a ha => sr.out a (List.mem_cons_of_mem _ ha), sr.tabs⟩
  · obtain ⟨v, q1, q2⟩ := sr.slot i sv q
    refine ⟨v, q1, ?_⟩
    cases sv with
    | pure d => exact Rep.avoid hav d v q2
    | scr ds => obtain ⟨p, us, z1, z2, z3⟩ := q2; exact ⟨p, us, z1, z2.avoid hav, RepA.avoid hav _ us z3⟩
    | obj j =>
      obtain ⟨a, e, rfl⟩ := q2
      exact ⟨a, by rw [List.getElem?_append_left (List.getElem?_eq_some_iff.mp e).1]; exact e, rfl⟩
  · rw [List.nodup_append]
    refine ⟨sr.nd, by simp, fun x hx y hy z => hd ?_⟩
    rw [List.mem_singleton.mp hy] at z
    rw [← z]; exact hx
  · by_cases hi : i < as.length
    · rw [List.getElem?_append_left hi] at h2
      have hi' : i < st.length := by omega
      rw [List.getElem?_append_left hi'] at h1
      exact (sr.objs i o' a h1 h2).avoid hav
    · have e1 : i = as.length := by
        have := (List.getElem?_eq_some_iff.mp h2).1
        rw [List.length_append] at this
        simp at this
        omega
      subst e1
      rw [List.getElem?_append_right (Nat.le_refl _), Nat.sub_self] at h2
      simp only [List.getElem?_cons_zero, Option.some.injEq] at h2
      subst h2
      rw [hal, List.getElem?_append_right (Nat.le_refl _), Nat.sub_self] at h1
      simp only [List.getElem?_cons_zero, Option.some.injEq] at h1
      subst h1
      exact ho.avoid hav
/-- an evaluation amid which a new object p lies outside -/
theorem out_step {α β : Type} {R : List Addr → List Addr → Hp → α → β → Prop} {Q : VK} {p : Addr} {H0 : Hp} {f : S → Res (α × Sto)} {k : α × Sto → RV} {ta : L2.St → Hp → (β → Hp → Prop) → Prop} {Q1 : β → Hp → Prop} (hw : WantsV X c W (RepV X.K) B as σ H0 s.env Q ((f s).bind k)) (ev : Evo as H0 H) (sr : SR X.K c (p :: B) as H σ s)
    (ra : ∀ (B as : List Addr) (σ : L2.St) (H : Hp) (s : S) (Q : β → Hp → Prop), SR X.K c B as H σ s → WantsG X c W R B as σ H s.env q Q (f s) → ta σ H Q)
    (h : ∀ v H1 d st1, f s = .ok (d, st1) → Evo as H H1 → SR X.K c (p :: B) as H1 σ ⟨s.env, st1⟩ → R (p :: B) as H1 d v → WantsV X c W (RepV X.K) B as σ H0 s.env Q (k (d, st1)) → Q1 v H1) : ta σ H Q1 := by
  refine ra (p :: B) as σ H s Q1 sr ?_
  cases e : f s with
  | stuck => rw [e] at hw; exact hw
  | exc cl s' =>
    rw [e] at hw
    exact fun H' ev' sr' => hw [] H' (ev.trans' ev') (by simp) (by rw [List.append_nil]; exact sr'.less fun x hx => List.mem_cons_of_mem _ hx)
  | ok r =>
    obtain ⟨d, st1⟩ := r
    rw [e] at hw
    exact fun v H1 ev' sr1 rp => h v H1 d st1 e (ev'.mono wq_as) sr1 rp hw
theorem dv_dict1 (h15 : ([some a] : List (Option Expr)).length ≤ 15) (hk : DE X c W a false qa fa) (hv : DE X c W b false qb fb) : DV X c W (.Dict [some a] [b] pos) (dict1V fa fb) := by
  obtain ⟨ta, pa, ra⟩ := hk
  obtain ⟨tb, pb, rb⟩ := hv
  refine ⟨_, pe_disp (pps_cons pa pb pps_nil) rfl rfl (by simp) h15, fun B as σ H s Q sr hw => ?_⟩
  intro p hp
  have sr0 : SR X.K c (p :: B) as (upd H p (.dK [])) σ s := sr.outN hp
  have ev0 : Evo as H (upd H p (.dK [])) := Evo.new hp
  have hpas : p ∉ as := not_as sr hp
  show ta σ _ _
  refine out_step (s := s) hw ev0 sr0 ra fun x H1 da st1 e1 ev1 sr1 r1 hw1 => ?_
  show tb σ H1 _
  refine out_step (s := ⟨s.env, st1⟩) hw1 (ev0.trans' ev1) sr1 rb fun y H2 db st2 e2 ev2 sr2 r2 hw2 => ?_
  simp only at hw2
  split at hw2
  · rename_i k ek
    have ex := keyOf_rep ek r1
    subst ex
    have ep : H2 p = some (.dK []) := ev2.keep p _ (ev1.keep p _ upd_same hpas (fun _ z => by cases z)) hpas (fun _ z => by cases z)
    refine ⟨ep, [(k, y)], rfl, by simp, ?_⟩
    have evw : Evo [p] H2 (upd H2 p (.dK [(k, y)])) := Evo.at ep ⟨(fun _ z => by cases z), (fun _ _ z => by cases z)⟩ (List.mem_singleton.mpr rfl)
    have ev3 : Evo as H (upd H2 p (.dK [(k, y)])) := (ev0.trans' (ev1.trans' ev2)).trans evw fun x hx => by rw [List.mem_singleton.mp hx]; exact .inr hp
    have sr3 := sr2.updB (u := .dK [(k, y)]) List.mem_cons_self hpas ep ⟨(fun _ z => by cases z), (fun _ _ z => by cases z)⟩
    have hal := sr2.aslen
    simp only at hal
    have rv : Rep X.K ((p :: B) ++ as) (upd H2 p (.dK [(k, y)])) db y := Rep.evo evw (fun x hx => by rw [List.mem_singleton.mp hx]; exact List.mem_append_left _ List.mem_cons_self) _ _ r2
    refine hw2 (.ref p) [p] _ ev3 (fun x hx => by rw [List.mem_singleton.mp hx]; exact hp) ?_ ⟨p, ?_, rfl⟩
    · exact SR.ownO sr3 hpas ⟨[(k, y)], upd_same, .cons ⟨rfl, rv⟩ .nil⟩
    · rw [← hal, List.getElem?_append_right (Nat.le_refl _), Nat.sub_self]
      rfl
  · exact hw2.elim
end
end DL
end
section
set_option Elab.async false
set_option linter.all false
set_option maxRecDepth 100000
set_option maxHeartbeats 1000000
/-! The data layer, part q: short words for the printed walks. -/
namespace DL
open PySem PySem.Spec PyProof.Rows L2 PySem.SeqAt PySem.W GxR
theorem bb_len : bootBuiltins "len" = some (.builtin "len") := by first | exact PySem.boot_len | rfl | kernel_rfl
theorem bb_abs : bootBuiltins "abs" = some (.builtin "abs") := by first | rfl | kernel_rfl
theorem bb_sum : bootBuiltins "sum" = some (.builtin "sum") := by first | rfl | kernel_rfl
theorem bb_min : bootBuiltins "min" = some (.builtin "min") := by first | rfl | kernel_rfl
theorem bb_max : bootBuiltins "max" = some (.builtin "max") := by first | rfl | kernel_rfl
theorem bb_sorted : bootBuiltins "sorted" = some (.builtin "sorted") := by first | rfl | kernel_rfl
theorem bb_isinstance : bootBuiltins "isinstance" = some (.builtin "isinstance") := by first | rfl | kernel_rfl
theorem bb_all : bootBuiltins "all" = some (.builtin "all") := by first | rfl | kernel_rfl
theorem bb_int : bootBuiltins "int" = some (.type "int") := by first | rfl | kernel_rfl
theorem bb_bool : bootBuiltins "bool" = some (.type "bool") := by first | rfl | kernel_rfl
theorem bb_str : bootBuiltins "str" = some (.type "str") := by first | rfl | kernel_rfl
theorem bb_list : bootBuiltins "list" = some (.type "list") := by first | rfl | kernel_rfl
theorem bb_tuple : bootBuiltins "tuple" = some (.type "tuple") := by first | rfl | kernel_rfl
def genC (N : List Str) (sc scope : Scope) (own : List (Str × Nat)) : Bool :=
  decide (scope.kind = .function) && !scope.isCoroutine && decide (scope.names.lookup (".0" : Str) = some NameKind.local) && (scope.names.all fun y => decide (scope.names.lookup y.1 = some y.2)) && (own.all fun p => decide (N[p.2]? = some p.1)) &&
    (scope.names.all fun y => if y.2 = .free then (decide (sc.names.lookup y.1 = some .cell) || decide (sc.names.lookup y.1 = some .free)) else if y.2 = .local ∨ y.2 = .cell then (decide (y.1 ∈ own.map (·.1)) || decide (y.1 ∉ N)) else true)
theorem genOk_by {N : List Str} {sc scope : Scope} {own : List (Str × Nat)} (h : genC N sc scope own = true) : GenOk N sc scope own := by
  unfold genC at h
  simp only [Bool.and_eq_true, Bool.not_eq_true', decide_eq_true_eq, List.all_eq_true, decide_eq_false_iff_not] at h
  obtain ⟨⟨⟨⟨⟨h1, h2⟩, h4⟩, h5⟩, h6⟩, h7⟩ := h
  refine ⟨h1, h2, h4, fun y hy => h5 y hy, fun p hp => h6 p hp, fun y hy e => ?_, fun y hy e => ?_⟩
  · have q := h7 y hy
    rw [if_pos e] at q
    simpa using q
  · have q := h7 y hy
    rw [if_neg (by rcases e with e | e <;> rw [e] <;> decide), if_pos e] at q
    simpa using q
theorem room3 {k : Nat} {A : Around} (r : Room (k + 3) A) (env : Env) : Room k (A.in1.in1.deeper env) := Room.deeper (k := k) (Room.in1 (k := k + 1) (Room.in1 (k := k + 2) r)) env
/-! ### constants, defs with their code objects -/
structure Con (K : PySem.W.Frag) (mg : Str → Option Value) (x : Str) (d : PyData) : Prop where
  ex : ∃ (v : V) (u : Value), mg x = some u ∧ RelV v u ∧ ∀ av H, Rep K av H d v
theorem de_con {X : Cx} {c : Cfg} {W : WX} {x : Str} {d : PyData} {pos : Pos} (C : Con X.K X.mg x d) (hg : Gl X x) (hd : (x == ("__debug__" : Str)) = false) : DE X c W (.Name x pos) false true (constE d) := by
  obtain ⟨v, u, h1, h2, h3⟩ := C.ex
  exact de_glob hg h1 h2 h3 hd
structure FunT (K : PySem.W.Frag) (x : Str) (st : Stmt) (f : Addr) (fd : FuncData) (cc : Addr) : Prop where
  ex : ∃ (oc : Value) (od : Option Addr) (kV doc pm : Value) (an : Option Addr) (ct : Value) (osl : Array (Option Value)),
    fd = PySem.W.fnOf x x (defArgs st) (defBody st) (defScope st) .none kV doc pm an (.ref cc) ct ∧ K.lookup f = some ⟨oc, od, .func fd, osl⟩ ∧ PySem.W.codeIn K (.ref cc) x = true
  kp : PySem.W.keepIn K (.ref f) = true
/-- a def whose code object has a table -/
structure DefG (K : PySem.W.Frag) (mg : Str → Option Value) (base : Heap) (c : Cfg) (x : Str) (st : Stmt) (ps : List Str) : Prop where
  ex : ∃ (f : Addr) (fd : FuncData) (cc P : Addr), FunT K x st f fd cc ∧ mg x = some (.ref f) ∧ Binds K fd ps [] ∧ TabB base mg cc P ∧ P ∈ c.TT
theorem FunT.fn {K : PySem.W.Frag} {x : Str} {st : Stmt} {f : Addr} {fd : FuncData} {cc : Addr} (F : FunT K x st f fd cc) : L2.Fun K x x st f fd := by
  obtain ⟨oc, od, kV, doc, pm, an, ct, osl, h1, h2, h3⟩ := F.ex
  exact ⟨⟨oc, od, kV, doc, pm, an, _, ct, osl, h1, h2, h3⟩, F.kp⟩
section
variable {P : Program} {w : World} {K : PySem.W.Frag} {mg : Str → Option Value} {base : Heap} {c : Cfg} {k : Nat} {x : Str} {st : Stmt} {f : Addr} {fd : FuncData} {N ps : List Str} {body : EvS}
theorem cal_ofG (D : DefG K mg base c x st ps) (S : FnScope N ps (defScope st))
    (hb : ∀ (f cc P' : Addr) (A : Around) (outer : List Env) (s : Shared) (H : Hp) (E : XK), TabB base mg cc P' → P' ∈ c.TT → Room k (bCx P w K mg base N x st f (.ref cc) A outer s H E).A → DSs (bCx P w K mg base N x st f (.ref cc) A outer s H E) c (WB E) (defBody st) body) :
    Cal P w K mg base (k + 1) x (spD K c ps.length (runF N.length body)) := by
  obtain ⟨f, fd, cc, P', F, g, b, tb, hP⟩ := D.ex
  obtain ⟨oc, od, kV, doc, pm, an, ct, osl, rfl, lk, hcd⟩ := F.ex
  refine ⟨f, _, ps, fn_of lk hcd S (fun vs H Q E h => ?_) fun A outer s H vs Q E hr h => body_run (hb f cc P' A outer s H E tb hP hr) h, g, F.kp, b⟩
  obtain ⟨B, as, svs, objs, hl, sr, r, _⟩ := h
  rw [repSA_len r, hl]
end
section
variable {X : Cx} {c : Cfg} {W : WX} {a b : Expr} {x : Str} {p pos : Pos} {fa fb : EvD} {qa qb tr : Bool}
theorem e_len (hg : Gl X "len") (hm : X.mg "len" = none) (ha : DE X c W a tr qa fa) (hs : starEach [a] X.env = (false, eval a X.env) :: starEach [] X.env) : DE X c W (.Call (.Name "len" p) [a] [] pos) false qa (un1 lenD fa) := de_callB cd_len hg hm bb_len ha hs (by decide) rfl
theorem e_abs (hg : Gl X "abs") (hm : X.mg "abs" = none) (ha : DE X c W a tr qa fa) (hs : starEach [a] X.env = (false, eval a X.env) :: starEach [] X.env) : DE X c W (.Call (.Name "abs" p) [a] [] pos) false qa (un1 absD fa) := de_callB cd_abs hg hm bb_abs ha hs (by decide) rfl
theorem e_sum (hc : X.calm = true) (hg : Gl X "sum") (hm : X.mg "sum" = none) (ha : DE X c W a tr qa fa) (hs : starEach [a] X.env = (false, eval a X.env) :: starEach [] X.env) : DE X c W (.Call (.Name "sum" p) [a] [] pos) false qa (un1 sumD fa) := de_callB (cd_sum hc) hg hm bb_sum ha hs (by decide) rfl
theorem e_min (hc : X.calm = true) (hu : X.A.units + 64 < cLine) (hg : Gl X "min") (hm : X.mg "min" = none) (ha : DE X c W a tr qa fa) (hs : starEach [a] X.env = (false, eval a X.env) :: starEach [] X.env) : DE X c W (.Call (.Name "min" p) [a] [] pos) false qa (un1 minDD fa) := de_callB (cd_min hc hu) hg hm bb_min ha hs (by decide) rfl
theorem e_max (hc : X.calm = true) (hu : X.A.units + 64 < cLine) (hg : Gl X "max") (hm : X.mg "max" = none) (ha : DE X c W a tr qa fa) (hs : starEach [a] X.env = (false, eval a X.env) :: starEach [] X.env) : DE X c W (.Call (.Name "max" p) [a] [] pos) false qa (un1 maxDD fa) := de_callB (cd_max hc hu) hg hm bb_max ha hs (by decide) rfl
theorem e_sorted (hu : X.A.units + 64 < cLine) (hg : Gl X "sorted") (hm : X.mg "sorted" = none) (ha : DE X c W a tr qa fa) (hs : starEach [a] X.env = (false, eval a X.env) :: starEach [] X.env) : DE X c W (.Call (.Name "sorted" p) [a] [] pos) false qa (un1 sortedDD fa) := de_callB (cd_sorted hu) hg hm bb_sorted ha hs (by decide) rfl
theorem e_int (hg : Gl X "int") (hm : X.mg "int" = none) (ha : DE X c W a tr qa fa) (hs : starEach [a] X.env = (false, eval a X.env) :: starEach [] X.env) : DE X c W (.Call (.Name "int" p) [a] [] pos) false qa (un1 intD fa) := de_callTy cd_int hg hm bb_int ha hs (by decide) rfl
theorem e_tuple (hg : Gl X "tuple") (hm : X.mg "tuple" = none) (ha : DE X c W a tr qa fa) (hs : starEach [a] X.env = (false, eval a X.env) :: starEach [] X.env) : DE X c W (.Call (.Name "tuple" p) [a] [] pos) false qa (un1 tupleD fa) := de_callTy cd_tuple hg hm bb_tuple ha hs (by decide) rfl
theorem e_list (hg : Gl X "list") (hm : X.mg "list" = none) (ha : DE X c W a tr qa fa) (hs : starEach [a] X.env = (false, eval a X.env) :: starEach [] X.env) : DE X c W (.Call (.Name "list" p) [a] [] pos) false qa (un1 listD fa) := de_callTy cd_list hg hm bb_list ha hs (by decide) rfl
theorem v_list (hg : Gl X "list") (hm : X.mg "list" = none) (ha : DE X c W a tr qa fa) (hs : starEach [a] X.env = (false, eval a X.env) :: starEach [] X.env) : DV X c W (.Call (.Name "list" p) [a] [] pos) (un1V listL fa) := dv_callTy cn_list hg hm bb_list ha hs (by decide) rfl
theorem e_min2 (hc : X.calm = true) (hg : Gl X "min") (hm : X.mg "min" = none) (ha : DE X c W a false qa fa) (hb : DE X c W b false qb fb) (hs : starEach [a, b] X.env = (false, eval a X.env) :: starEach [b] X.env) (hs2 : starEach [b] X.env = (false, eval b X.env) :: starEach [] X.env) :
    DE X c W (.Call (.Name "min" p) [a, b] [] pos) false (qa && qb) (bin2 min2D fa fb) := de_callB2 (cd_min2 hc) hg hm bb_min ha hb hs hs2 (by decide) rfl
theorem e_max2 (hc : X.calm = true) (hg : Gl X "max") (hm : X.mg "max" = none) (ha : DE X c W a false qa fa) (hb : DE X c W b false qb fb) (hs : starEach [a, b] X.env = (false, eval a X.env) :: starEach [b] X.env) (hs2 : starEach [b] X.env = (false, eval b X.env) :: starEach [] X.env) :
    DE X c W (.Call (.Name "max" p) [a, b] [] pos) false (qa && qb) (bin2 max2D fa fb) := de_callB2 (cd_max2 hc) hg hm bb_max ha hb hs hs2 (by decide) rfl
theorem i_int {p2 : Pos} (hg : Gl X "isinstance") (hm : X.mg "isinstance" = none) (hgT : Gl X "int") (hmT : X.mg "int" = none) (ha : DE X c W a tr qa fa) (hs : starEach [a, .Name "int" p2] X.env = (false, eval a X.env) :: starEach [.Name "int" p2] X.env) : DE X c W (.Call (.Name "isinstance" p) [a, .Name "int" p2] [] pos) false qa (isiE .int fa) := de_isi (ty := .int) hg hm bb_isinstance hgT hmT bb_int ha hs (by decide) rfl (by decide) rfl
theorem i_bool {p2 : Pos} (hg : Gl X "isinstance") (hm : X.mg "isinstance" = none) (hgT : Gl X "bool") (hmT : X.mg "bool" = none) (ha : DE X c W a tr qa fa) (hs : starEach [a, .Name "bool" p2] X.env = (false, eval a X.env) :: starEach [.Name "bool" p2] X.env) : DE X c W (.Call (.Name "isinstance" p) [a, .Name "bool" p2] [] pos) false qa (isiE .bool fa) := de_isi (ty := .bool) hg hm bb_isinstance hgT hmT bb_bool ha hs (by decide) rfl (by decide) rfl
theorem i_str {p2 : Pos} (hg : Gl X "isinstance") (hm : X.mg "isinstance" = none) (hgT : Gl X "str") (hmT : X.mg "str" = none) (ha : DE X c W a tr qa fa) (hs : starEach [a, .Name "str" p2] X.env = (false, eval a X.env) :: starEach [.Name "str" p2] X.env) : DE X c W (.Call (.Name "isinstance" p) [a, .Name "str" p2] [] pos) false qa (isiE .str fa) := de_isi (ty := .str) hg hm bb_isinstance hgT hmT bb_str ha hs (by decide) rfl (by decide) rfl
theorem i_list {p2 : Pos} (hg : Gl X "isinstance") (hm : X.mg "isinstance" = none) (hgT : Gl X "list") (hmT : X.mg "list" = none) (ha : DE X c W a tr qa fa) (hs : starEach [a, .Name "list" p2] X.env = (false, eval a X.env) :: starEach [.Name "list" p2] X.env) : DE X c W (.Call (.Name "isinstance" p) [a, .Name "list" p2] [] pos) false qa (isiE .list fa) := de_isi (ty := .list) hg hm bb_isinstance hgT hmT bb_list ha hs (by decide) rfl (by decide) rfl
theorem i_tuple {p2 : Pos} (hg : Gl X "isinstance") (hm : X.mg "isinstance" = none) (hgT : Gl X "tuple") (hmT : X.mg "tuple" = none) (ha : DE X c W a tr qa fa) (hs : starEach [a, .Name "tuple" p2] X.env = (false, eval a X.env) :: starEach [.Name "tuple" p2] X.env) : DE X c W (.Call (.Name "isinstance" p) [a, .Name "tuple" p2] [] pos) false qa (isiE .tuple fa) := de_isi (ty := .tuple) hg hm bb_isinstance hgT hmT bb_tuple ha hs (by decide) rfl (by decide) rfl
end
end DL
end
section
set_option Elab.async false
set_option linter.all false
set_option maxRecDepth 100000
set_option maxHeartbeats 1000000
/-! The data layer, part r: names by one look, the start of a recursion. -/
namespace DL
open PySem PySem.Spec PyProof.Rows L2 PySem.SeqAt PySem.W GxR
def visB (sc : Scope) (x : Str) : Bool := match sc.names.lookup x with
  | some .local => true
  | some .cell => true
  | some .free => true
  | _ => false
theorem vis_by {sc : Scope} {x : Str} (h : visB sc x = true) : Vis sc x := by
  unfold visB at h
  split at h
  · exact .inl (by assumption)
  · exact .inr (.inl (by assumption))
  · exact .inr (.inr (by assumption))
  · cases h
def locB (sc : Scope) (x : Str) : Bool := match sc.names.lookup x with
  | some .local => true
  | some .cell => true
  | _ => false
theorem loc_by {sc : Scope} {x : Str} (h : locB sc x = true) : Loc sc x := by
  unfold locB at h
  split at h
  · exact .inl (by assumption)
  · exact .inr (by assumption)
  · cases h
def fnB (X : Cx) (x : Str) : Bool := X.fn x || (match X.env.scope.names.lookup x with
  | some .local => true
  | _ => false)
theorem hf_by {X : Cx} {x : Str} (h : fnB X x = true) : X.fn x = true ∨ X.env.scope.names.lookup x = some .local := by
  unfold fnB at h
  rcases Bool.or_eq_true_iff.mp h with h | h
  · exact .inl h
  · split at h
    · exact .inr (by assumption)
    · cases h
theorem pe_m1 {X : Cx} {k : Nat} {p1 p2 : Pos} : PE X (.UnaryOp .USub (.Constant (.int 1) k p1) p2) (tC (.int (-1))) := by
  have h := pe_un (X := X) (pos := p2) un_neg (pe_int (X := X) (i := 1) (j := k) (pos := p1))
  exact ⟨fun pins s σ H Q I q => h.1 pins s σ H Q I ⟨_, rfl, q⟩⟩
theorem no_tr {q : Bool} : false = true → q = true := fun h => by cases h
theorem yes_tr {b : Bool} : b = true → true = true := fun _ => rfl
section
variable {X : Cx} {c : Cfg} {W : WX} {a b tg : Expr} {p pos p1 p2 : Pos} {k : Nat} {fa fb : EvD} {qa qb : Bool}
theorem di_rangeM (hg : Gl X "range") (hm : X.mg "range" = none) (ha : DE X c W a false qa fa) (hb : DE X c W b false qb fb) (hs : starEach [a, b, .UnaryOp .USub (.Constant (.int 1) k p1) p2] X.env = (false, eval a X.env) :: starEach [b, .UnaryOp .USub (.Constant (.int 1) k p1) p2] X.env)
    (hs2 : starEach [b, .UnaryOp .USub (.Constant (.int 1) k p1) p2] X.env = (false, eval b X.env) :: starEach [.UnaryOp .USub (.Constant (.int 1) k p1) p2] X.env)
    (hs3 : starEach [.UnaryOp .USub (.Constant (.int 1) k p1) p2] X.env = (false, eval (.UnaryOp .USub (.Constant (.int 1) k p1) p2) X.env) :: starEach [] X.env) (hpl : (backTo pos (starEach [b, .UnaryOp .USub (.Constant (.int 1) k p1) p2] X.env)).any (·.1) = false) :
    DI X c W tg (.Call (.Name "range" p) [a, b, .UnaryOp .USub (.Constant (.int 1) k p1) p2] [] pos) (rangeDI fa fb) :=
  @di_rangeD X c W a b tg p pos fa fb qa qb pos pos pos none 0 _ pe_m1 hg hm ha hb hs hs2 hs3 hpl
end
/-- nothing is known -/
def stuckF : FSem := fun _ _ => .stuck
theorem runF_never (N : Nat) : runF N neverS = stuckF := rfl
section
variable {P : Program} {w : World} {K : PySem.W.Frag} {mg : Str → Option Value} {base : Heap} {c : Cfg} {x : Str} {st : Stmt} {N ps : List Str}
theorem cal_never (D : Def K mg x st ps) (S : FnScope N ps (defScope st)) : Cal P w K mg base 1 x (spD K c ps.length stuckF) :=
  cal_of (k := 0) (body := neverS) D S fun _ _ _ _ _ _ _ _ => dss_never
end
end DL
end
section
set_option Elab.async false
set_option linter.all false
set_option maxRecDepth 100000
set_option maxHeartbeats 1000000
/-! The data layer, part s: zip of two sequences of any kinds. -/
namespace DL
open PySem PySem.Spec PyProof.Rows L2 PySem.SeqAt PySem.W GxR
/-- a sequence's iterator: of a list (true) or of a tuple -/
def SIt (k : Bool) (h : Heap) (it l : Addr) (i : Nat) : Prop := match k with
  | true => h.IsListIter it l i
  | false => h.IsTupleIter it l i
def SAt (k : Bool) (h : Heap) (l : Addr) (xs : Array Value) : Prop := match k with
  | true => h.IsList l xs
  | false => h.IsTuple l xs
theorem SIt.but {k : Bool} {h h' : Heap} {a b l : Addr} {i : Nat} (x : SIt k h a l i) (hs : Heap.ExtBut b h h') (n : a ≠ b) : SIt k h' a l i := by
  cases k
  · exact Heap.IsTupleIter.extBut x hs n
  · exact Heap.IsListIter.extBut x hs n
theorem SIt.at {k : Bool} {h h' : Heap} {a l : Addr} {i : Nat} (x : SIt k h a l i) (e : ∀ o, h.get? a = some o → h'.get? a = some o) : SIt k h' a l i := by
  cases k
  · exact Heap.IsTupleIter.at x e
  · exact Heap.IsListIter.at x e
theorem SIt.obj {k : Bool} {h : Heap} {a l : Addr} {i : Nat} (x : SIt k h a l i) : ∃ o, h.get? a = some o ∧ ∃ vs, o.data = .fields vs := by
  cases k
  all_goals
    obtain ⟨o, e, _, d⟩ := x
    exact ⟨o, e, _, d⟩
theorem SAt.but {k : Bool} {h h' : Heap} {a b : Addr} {xs : Array Value} (x : SAt k h a xs) (hs : Heap.ExtBut b h h') (n : a ≠ b) : SAt k h' a xs := by
  cases k
  · exact Heap.IsTuple.extBut x hs n
  · exact Heap.IsList.extBut x hs n
theorem SAt.lt {k : Bool} {h : Heap} {a : Addr} {xs : Array Value} (x : SAt k h a xs) : a < h.objs.size := by
  cases k
  all_goals
    obtain ⟨o, e, _⟩ := x
    exact Heap.lt_size e
section
variable {prog : Program} {w : World} {A : Around} {E : Value → Shared → Prop} {s : Shared}
theorem sit_item {k : Bool} {it l : Addr} {i : Nat} {items : Array Value} {x : Value} {Q : Value → Shared → Prop} (hit : SIt k s.heap it l i) (hl : SAt k s.heap l items) (hx : items[i]? = some x)
    (hQ : ∀ h', SIt k h' it l (i + 1) → Heap.SameBut it s.heap h' → Q x { s with heap := h' }) : wpAny (model prog w) A (Builtin.SmallTypes.nextOf (.ref it)) Q E s := by
  cases k
  · exact RZ.nextOf_tuple_item hit hl hx hQ
  · exact wpAny_nextOf_list_item hit hl hx hQ
theorem sit_end {k : Bool} {it l : Addr} {i : Nat} {items : Array Value} {Q : Value → Shared → Prop} (hh : A.handled = none) (hit : SIt k s.heap it l i) (hl : SAt k s.heap l items) (hx : items[i]? = none)
    (hE : ∀ h' e, Heap.ExtBut it s.heap h' → (∃ o, h'.get? e = some o ∧ o.cls = .type "StopIteration") → E (.ref e) { s with heap := h' }) : wpAny (model prog w) A (Builtin.SmallTypes.nextOf (.ref it)) Q E s := by
  cases k
  · exact RZ.nextOf_tuple_end hh hit hl hx hE
  · exact wpAny_nextOf_list_end hh hit hl hx hE
/-- the head of zip's step: up to the two iterators -/
theorem zs_head {z TI TO i1 i2 : Addr} {k1 k2 : Bool} {n1 n2 : Nat} {l1 l2 : Addr} {xs ys : Array Value} {a b : Value} {Q : Value → Shared → Prop} {x : Value} (D : ZipApart z TI TO i1 i2 l1 l2)
    (hz : IsZip s.heap z TI TO .none) (hTI : IsPair s.heap TI (.ref i1) (.ref i2)) (hTO : IsPair s.heap TO a b) (h1 : SIt k1 s.heap i1 l1 n1) (h2 : SIt k2 s.heap i2 l2 n2) (hl1 : SAt k1 s.heap l1 xs) (hl2 : SAt k2 s.heap l2 ys) {y : Value} (hx : xs[n1]? = some x) (hy : ys[n2]? = some y)
    (hQ : ∀ h', IsZip h' z TI TO (rawInt s.heap.objs.size) → IsPair h' TO x y → SIt k1 h' i1 l1 (n1 + 1) → SIt k2 h' i2 l2 (n2 + 1) → IsPair h' s.heap.objs.size x y →
      (∀ c o, c ≠ z → c ≠ TO → c ≠ i1 → c ≠ i2 → s.heap.get? c = some o → h'.get? c = some o) → Q (.ref s.heap.objs.size) { s with heap := h' }) :
    wpAny (model prog w) A (Builtin.«zip.__next__» ⟨[.ref z], []⟩) (fun fin s' => ∃ v, fin = .done (.ret v) ∧ Q v s') E s := by
  show wpAny _ _ (field (.ref z) 2 >>= _) _ _ _
  refine wpAny_bind (wpAny_field hz rfl (x := .bool false) rfl ?_)
  show wpAny _ _ (field (.ref z) 3 >>= _) _ _ _
  refine wpAny_bind (wpAny_field hz rfl (x := .ref TI) rfl (wpAny_bind (wpAny_seqItems hTI rfl ?_)))
  show wpAny _ _ (Builtin.SmallTypes.ownedTupleIsFree (.ref z) >>= _) _ _ _
  refine wpAny_bind ?_
  unfold Builtin.SmallTypes.ownedTupleIsFree
  refine wpAny_bind (wpAny_field hz rfl (x := .none) rfl (wpAny_pure ?_))
  simp only [if_true]
  refine wpAny_bind (wpAny_rule (wpAny_bind (wpAny_field hz rfl (x := .ref TO) rfl (wpAny_bind (wpAny_setField_rec hz (by simp) fun g1 z1 b1 => ?_)))))
  replace z1 : IsZip g1 z TI TO .ellipsis := z1
  refine wpAny_bind ?_
  simp only [List.zipIdx_cons, List.zipIdx_nil, List.forIn_cons, List.forIn_nil]
  refine wpAny_bind (wpAny_bind (wpAny_onRaise ?_))
  show wpAny _ _ (Builtin.SmallTypes.nextOf (.ref i1) >>= _) _ _ _
  refine wpAny_bind (sit_item (h1.but b1.extBut D.i1z) (hl1.but b1.extBut D.l1z) hx fun g2 p2 b2 => wpAny_pure ?_)
  have t2 : IsPair g2 TO a b := b2.extBut _ _ D.TOi1 (b1.extBut _ _ D.TOz hTO)
  refine wpAny_bind (wpAny_seqItems t2 rfl (wpAny_bind (wpAny_updateSeq_pair t2 fun g3 t3 b3 => ?_)))
  replace t3 : IsPair g3 TO x b := t3
  refine wpAny_bind (wpAny_letGo (wpAny_pure (wpAny_bind (wpAny_bind (wpAny_onRaise ?_)))))
  show wpAny _ _ (Builtin.SmallTypes.nextOf (.ref i2) >>= _) _ _ _
  refine wpAny_bind (sit_item (((h2.but b1.extBut D.i2z).but b2.extBut D.i12.symm).but b3.extBut D.TOi2.symm) (((hl2.but b1.extBut D.l2z).but b2.extBut D.l2i1).but b3.extBut D.l2TO) hy fun g4 p4 b4 => wpAny_pure ?_)
  have t4 : IsPair g4 TO x b := b4.extBut _ _ D.TOi2 t3
  refine wpAny_bind (wpAny_seqItems t4 rfl (wpAny_bind (wpAny_updateSeq_pair t4 fun g5 t5 b5 => ?_)))
  replace t5 : IsPair g5 TO x y := t5
  refine wpAny_bind (wpAny_letGo (wpAny_pure (wpAny_pure (wpAny_bind (wpAny_seqItems t5 rfl (wpAny_bind (wpAny_newTuple ?_)))))))
  have hsz : g5.objs.size = s.heap.objs.size := by rw [b5.1, b4.1, b3.1, b2.1, b1.1]
  have z5 : IsZip g5 z TI TO .ellipsis := b5.extBut _ _ D.TOz.symm (b4.extBut _ _ D.i2z.symm (b3.extBut _ _ D.TOz.symm (b2.extBut _ _ D.i1z.symm z1)))
  have keep : ∀ c o, c ≠ z → c ≠ TO → c ≠ i1 → c ≠ i2 → s.heap.get? c = some o → g5.get? c = some o := fun c o c1 c2 c3 c4 e =>
    b5.extBut _ _ c2 (b4.extBut _ _ c4 (b3.extBut _ _ c2 (b2.extBut _ _ c3 (b1.extBut _ _ c1 e))))
  have p5 : SIt k1 g5 i1 l1 (n1 + 1) := ((p2.but b3.extBut D.TOi1.symm).but b4.extBut D.i12).but b5.extBut D.TOi1.symm
  have q5 : SIt k2 g5 i2 l2 (n2 + 1) := p4.but b5.extBut D.TOi2.symm
  have zlt : z < g5.objs.size := Heap.lt_size z5
  show wpAny _ _ (Builtin.SmallTypes.ownedTupleHandOut (.ref z) (.ref g5.objs.size) >>= _) _ _ _
  refine wpAny_bind ?_
  unfold Builtin.SmallTypes.ownedTupleHandOut
  have z6 : IsZip (g5.push { cls := .type "tuple", data := .seq #[x, y] }) z TI TO .ellipsis := Heap.get?_push_of_some _ z5
  refine wpAny_bind (wpAny_setField_rec z6 (by simp) fun g7 z7 b7 => ?_)
  replace z7 : IsZip g7 z TI TO (rawInt g5.objs.size) := z7
  refine wpAny_setField_rec z7 (by simp) fun g8 z8 b8 => wpAny_pure ⟨_, rfl, ?_⟩
  replace z8 : IsZip g8 z TI TO (rawInt g5.objs.size) := z8
  have up : ∀ c o, c ≠ z → g5.get? c = some o → g8.get? c = some o := fun c o c1 e => b8.extBut _ _ c1 (b7.extBut _ _ c1 (Heap.get?_push_of_some _ e))
  have t8 : IsPair g8 g5.objs.size x y := b8.extBut _ _ (Nat.ne_of_gt zlt) (b7.extBut _ _ (Nat.ne_of_gt zlt) (Heap.get?_push_size _ rfl))
  show Q (.ref g5.objs.size) _
  rw [hsz] at z8 t8
  rw [hsz]
  exact hQ g8 z8 (up _ _ D.TOz t5) (p5.at fun o e => up _ o D.i1z e) (q5.at fun o e => up _ o D.i2z e) t8 fun c o c1 c2 c3 c4 e => up c o c1 (keep c o c1 c2 c3 c4 e)
theorem zs_end {z TI TO i1 i2 : Addr} {k1 k2 : Bool} {n1 n2 : Nat} {l1 l2 : Addr} {xs ys : Array Value} {a b : Value} {Q : Fin → Shared → Prop} (hh : A.handled = none) (D : ZipApart z TI TO i1 i2 l1 l2)
    (hz : IsZip s.heap z TI TO .none) (hTI : IsPair s.heap TI (.ref i1) (.ref i2)) (hTO : IsPair s.heap TO a b) (h1 : SIt k1 s.heap i1 l1 n1) (h2 : SIt k2 s.heap i2 l2 n2) (hl1 : SAt k1 s.heap l1 xs) (hl2 : SAt k2 s.heap l2 ys) (hend : xs[n1]? = none ∨ ys[n2]? = none)
    (hE : ∀ h' e, (∀ c o, c ≠ z → c ≠ TO → c ≠ i1 → c ≠ i2 → s.heap.get? c = some o → h'.get? c = some o) → (∃ o, h'.get? e = some o ∧ o.cls = .type "StopIteration") → E (.ref e) { s with heap := h' }) :
    wpAny (model prog w) A (Builtin.«zip.__next__» ⟨[.ref z], []⟩) Q E s := by
  show wpAny _ _ (field (.ref z) 2 >>= _) _ _ _
  refine wpAny_bind (wpAny_field hz rfl (x := .bool false) rfl ?_)
  show wpAny _ _ (field (.ref z) 3 >>= _) _ _ _
  refine wpAny_bind (wpAny_field hz rfl (x := .ref TI) rfl (wpAny_bind (wpAny_seqItems hTI rfl ?_)))
  show wpAny _ _ (Builtin.SmallTypes.ownedTupleIsFree (.ref z) >>= _) _ _ _
  refine wpAny_bind ?_
  unfold Builtin.SmallTypes.ownedTupleIsFree
  refine wpAny_bind (wpAny_field hz rfl (x := .none) rfl (wpAny_pure ?_))
  simp only [if_true]
  refine wpAny_bind (wpAny_rule (wpAny_bind (wpAny_field hz rfl (x := .ref TO) rfl (wpAny_bind (wpAny_setField_rec hz (by simp) fun g1 z1 b1 => ?_)))))
  replace z1 : IsZip g1 z TI TO .ellipsis := z1
  refine wpAny_bind ?_
  simp only [List.zipIdx_cons, List.zipIdx_nil, List.forIn_cons, List.forIn_nil]
  refine wpAny_bind (wpAny_bind (wpAny_onRaise ?_))
  show wpAny _ _ (Builtin.SmallTypes.nextOf (.ref i1) >>= _) _ _ _
  have last : ∀ (g : Heap) (e : Addr), IsZip g z TI TO .ellipsis → (∃ o, g.get? e = some o ∧ o.cls = .type "StopIteration") → e ≠ z := fun g e hz he x => by
    obtain ⟨o, ho, hc⟩ := he
    subst x
    rw [hz] at ho
    cases ho
    simp at hc
  cases hx : xs[n1]? with
  | none =>
    refine wpAny_bind (sit_end hh (h1.but b1.extBut D.i1z) (hl1.but b1.extBut D.l1z) hx fun g2 e b2 he => ?_)
    have z2 : IsZip g2 z TI TO .ellipsis := b2 _ _ D.i1z.symm z1
    have ne := last g2 e z2 he
    obtain ⟨o, ho, hc⟩ := he
    exact wpAny_setField_rec z2 (by simp) fun g3 _ b3 => hE g3 e (fun c o c1 _ c3 _ x => b3.extBut _ _ c1 (b2 _ _ c3 (b1.extBut _ _ c1 x))) ⟨o, b3.extBut _ _ ne ho, hc⟩
  | some x =>
    have hy : ys[n2]? = none := by
      rcases hend with h | h
      · rw [hx] at h; cases h
      · exact h
    refine wpAny_bind (sit_item (h1.but b1.extBut D.i1z) (hl1.but b1.extBut D.l1z) hx fun g2 p2 b2 => wpAny_pure ?_)
    have t2 : IsPair g2 TO a b := b2.extBut _ _ D.TOi1 (b1.extBut _ _ D.TOz hTO)
    refine wpAny_bind (wpAny_seqItems t2 rfl (wpAny_bind (wpAny_updateSeq_pair t2 fun g3 t3 b3 => ?_)))
    refine wpAny_bind (wpAny_letGo (wpAny_pure (wpAny_bind (wpAny_bind (wpAny_onRaise ?_)))))
    show wpAny _ _ (Builtin.SmallTypes.nextOf (.ref i2) >>= _) _ _ _
    refine wpAny_bind (sit_end hh (((h2.but b1.extBut D.i2z).but b2.extBut D.i12.symm).but b3.extBut D.TOi2.symm) (((hl2.but b1.extBut D.l2z).but b2.extBut D.l2i1).but b3.extBut D.l2TO) hy fun g4 e b4 he => ?_)
    have z4 : IsZip g4 z TI TO .ellipsis := b4 _ _ D.i2z.symm (b3.extBut _ _ D.TOz.symm (b2.extBut _ _ D.i1z.symm z1))
    have ne := last g4 e z4 he
    obtain ⟨o, ho, hc⟩ := he
    exact wpAny_setField_rec z4 (by simp) fun g5 _ b5 => hE g5 e (fun c o c1 c2 c3 c4 x => b5.extBut _ _ c1 (b4 _ _ c4 (b3.extBut _ _ c2 (b2.extBut _ _ c3 (b1.extBut _ _ c1 x))))) ⟨o, b5.extBut _ _ ne ho, hc⟩
theorem zs_next {z TI TO i1 i2 : Addr} {k1 k2 : Bool} {n1 n2 : Nat} {l1 l2 : Addr} {xs ys : Array Value} {x y a b : Value} {Q : Option Value → Shared → Prop} (D : ZipApart z TI TO i1 i2 l1 l2)
    (hz : IsZip s.heap z TI TO .none) (hTI : IsPair s.heap TI (.ref i1) (.ref i2)) (hTO : IsPair s.heap TO a b) (h1 : SIt k1 s.heap i1 l1 n1) (h2 : SIt k2 s.heap i2 l2 n2) (hl1 : SAt k1 s.heap l1 xs) (hl2 : SAt k2 s.heap l2 ys) (hx : xs[n1]? = some x) (hy : ys[n2]? = some y)
    (hQ : ∀ h', IsZip h' z TI TO (rawInt s.heap.objs.size) → IsPair h' TO x y → SIt k1 h' i1 l1 (n1 + 1) → SIt k2 h' i2 l2 (n2 + 1) → IsPair h' s.heap.objs.size x y →
      (∀ c o, c ≠ z → c ≠ TO → c ≠ i1 → c ≠ i2 → s.heap.get? c = some o → h'.get? c = some o) → Q (some (.ref s.heap.objs.size)) { s with heap := h' }) :
    wpAny (model prog w) A (pyNext (.ref z)) Q E s := by
  have hT : s.TypeIs (.ref z) "zip" := ⟨_, hz, rfl⟩
  unfold pyNext
  exact wpAny_bind (wpAny_attempt (wpAny_callSpecial?_slot (name := Str.ofString "__next__") hT F.slot_zip_next
    (wpAny_call_entry F.slot_zip_next hT F.entry_zip_next (zs_head D hz hTI hTO h1 h2 hl1 hl2 hx hy fun h' a1 a2 a3 a4 a5 a6 => wpAny_pure (hQ h' a1 a2 a3 a4 a5 a6)) (F.args_zip_next_1 _))))
theorem zs_stop {z TI TO i1 i2 : Addr} {k1 k2 : Bool} {n1 n2 : Nat} {l1 l2 : Addr} {xs ys : Array Value} {a b : Value} {Q : Option Value → Shared → Prop} (hh : A.handled = none) (D : ZipApart z TI TO i1 i2 l1 l2)
    (hz : IsZip s.heap z TI TO .none) (hTI : IsPair s.heap TI (.ref i1) (.ref i2)) (hTO : IsPair s.heap TO a b) (h1 : SIt k1 s.heap i1 l1 n1) (h2 : SIt k2 s.heap i2 l2 n2) (hl1 : SAt k1 s.heap l1 xs) (hl2 : SAt k2 s.heap l2 ys) (hend : xs[n1]? = none ∨ ys[n2]? = none)
    (hQ : ∀ h', (∀ c o, c ≠ z → c ≠ TO → c ≠ i1 → c ≠ i2 → s.heap.get? c = some o → h'.get? c = some o) → Q none { s with heap := h' }) : wpAny (model prog w) A (pyNext (.ref z)) Q E s := by
  have hT : s.TypeIs (.ref z) "zip" := ⟨_, hz, rfl⟩
  unfold pyNext
  refine wpAny_bind (wpAny_attempt (wpAny_callSpecial?_slot (name := Str.ofString "__next__") hT F.slot_zip_next
    (wpAny_call_entry F.slot_zip_next hT F.entry_zip_next (zs_end hh D hz hTI hTO h1 h2 hl1 hl2 hend fun h' e hk he => ?_) (F.args_zip_next_1 _))))
  obtain ⟨o, ho, hc⟩ := he
  exact wpAny_bind (wpAny_isInstance (T := "StopIteration") (b := true) ⟨o, ho, hc⟩ isSubtype_stop (wpAny_pure (hQ _ hk)))
end
/-! ### the new object -/
def itObj (k : Bool) (l : Addr) : Obj := { cls := .type (if k = true then "list_iterator" else "tuple_iterator"), data := .fields #[.ref l, .int 0 0] }
abbrev zsH1 (k1 : Bool) (h : Heap) (l1 : Addr) : Heap := h.push (itObj k1 l1)
abbrev zsH2 (k1 k2 : Bool) (h : Heap) (l1 l2 : Addr) : Heap := (zsH1 k1 h l1).push (itObj k2 l2)
abbrev zsH3 (k1 k2 : Bool) (h : Heap) (l1 l2 : Addr) : Heap := (zsH2 k1 k2 h l1 l2).push { cls := .type "tuple", data := .seq #[.ref h.objs.size, .ref (zsH1 k1 h l1).objs.size] }
abbrev zsH4 (k1 k2 : Bool) (h : Heap) (l1 l2 : Addr) : Heap := (zsH3 k1 k2 h l1 l2).push { cls := .type "tuple", data := .seq #[.none, .none] }
abbrev zsH5 (k1 k2 : Bool) (h : Heap) (l1 l2 : Addr) : Heap := (zsH4 k1 k2 h l1 l2).push { cls := .type "zip", data := .fields #[.none, .bool false, .bool false, .ref (zsH2 k1 k2 h l1 l2).objs.size, .ref (zsH3 k1 k2 h l1 l2).objs.size] }
theorem meets_zs (k1 k2 : Bool) (l1 l2 : Addr) (xs ys : Array Value) :
    Meets (Builtin.«zip.__new__» ⟨[.type "zip", .ref l1, .ref l2], []⟩) (fun _ R s => SAt k1 s.heap l1 xs ∧ SAt k2 s.heap l2 ys ∧ R (.ok (.ret (.ref (zsH4 k1 k2 s.heap l1 l2).objs.size))) { s with heap := zsH5 k1 k2 s.heap l1 l2 }) :=
  .of_wp fun prog w A R s h => by
    obtain ⟨hp, g, d, tk, os⟩ := s; obtain ⟨hl1, hl2, h⟩ := h
    have hsub := sub_zip
    cases k1 <;> cases k2
    · have hL1 : Heap.IsTuple (Shared.heap ⟨hp, g, d, tk, os⟩) l1 xs := hl1
      have hL2 : Heap.IsTuple (Shared.heap ⟨hp.push { cls := .type "tuple_iterator", data := .fields #[.ref l1, .int 0 0] }, g, d, tk, os⟩) l2 ys := Heap.IsTuple.push hl2 _
      wp_walk using wpAny_pyIter_tuple hL1, wpAny_pyIter_tuple hL2
      exact ⟨_, rfl, h⟩
    · have hL1 : Heap.IsTuple (Shared.heap ⟨hp, g, d, tk, os⟩) l1 xs := hl1
      have hL2 : Heap.IsList (Shared.heap ⟨hp.push { cls := .type "tuple_iterator", data := .fields #[.ref l1, .int 0 0] }, g, d, tk, os⟩) l2 ys := Heap.IsList.push hl2 _
      wp_walk using wpAny_pyIter_tuple hL1, wpAny_pyIter_list hL2
      exact ⟨_, rfl, h⟩
    · have hL1 : Heap.IsList (Shared.heap ⟨hp, g, d, tk, os⟩) l1 xs := hl1
      have hL2 : Heap.IsTuple (Shared.heap ⟨hp.push { cls := .type "list_iterator", data := .fields #[.ref l1, .int 0 0] }, g, d, tk, os⟩) l2 ys := Heap.IsTuple.push hl2 _
      wp_walk using wpAny_pyIter_list hL1, wpAny_pyIter_tuple hL2
      exact ⟨_, rfl, h⟩
    · have hL1 : Heap.IsList (Shared.heap ⟨hp, g, d, tk, os⟩) l1 xs := hl1
      have hL2 : Heap.IsList (Shared.heap ⟨hp.push { cls := .type "list_iterator", data := .fields #[.ref l1, .int 0 0] }, g, d, tk, os⟩) l2 ys := Heap.IsList.push hl2 _
      wp_walk using wpAny_pyIter_list hL1, wpAny_pyIter_list hL2
      exact ⟨_, rfl, h⟩
section
variable {prog : Program} {w : World} {A : Around} {E : Value → Shared → Prop} {s : Shared}
theorem sit_new {k : Bool} {h : Heap} {a l : Addr} (e : h.get? a = some (itObj k l)) : SIt k h a l 0 := by
  cases k
  all_goals exact ⟨_, e, rfl, rfl⟩
theorem call_zs {k1 k2 : Bool} {l1 l2 : Addr} {xs ys : Array Value} {Q : Value → Shared → Prop} (hl1 : SAt k1 s.heap l1 xs) (hl2 : SAt k2 s.heap l2 ys)
    (h : ∀ h', IsZip h' (s.heap.objs.size + 4) (s.heap.objs.size + 2) (s.heap.objs.size + 3) .none → IsPair h' (s.heap.objs.size + 2) (.ref s.heap.objs.size) (.ref (s.heap.objs.size + 1)) → IsPair h' (s.heap.objs.size + 3) .none .none →
      SIt k1 h' s.heap.objs.size l1 0 → SIt k2 h' (s.heap.objs.size + 1) l2 0 → (∀ c o, s.heap.get? c = some o → h'.get? c = some o) → Q (.ref (s.heap.objs.size + 4)) { s with heap := h' }) :
    wpAny (model prog w) A (call (.type "zip") [.ref l1, .ref l2]) Q E s := by
  refine callType_new F.called_zip (by decide) (F.typeCall_zip_2 _ _) (F.newCall_zip_2 _ _) (fun obj => F.args_object_init_3 obj _ _) F.entry_zip_new (meets_zs k1 k2 l1 l2 xs ys) ⟨hl1, hl2, ?_⟩
  have z1 : (zsH1 k1 s.heap l1).objs.size = s.heap.objs.size + 1 := Heap.size_push ..
  have z2 : (zsH2 k1 k2 s.heap l1 l2).objs.size = s.heap.objs.size + 2 := by rw [Heap.size_push, z1]
  have z3 : (zsH3 k1 k2 s.heap l1 l2).objs.size = s.heap.objs.size + 3 := by rw [Heap.size_push, z2]
  have z4 : (zsH4 k1 k2 s.heap l1 l2).objs.size = s.heap.objs.size + 4 := by rw [Heap.size_push, z3]
  have fr : ∀ (k : Bool) (l : Addr), (itObj k l).isFreed = false := fun k l => by cases k <;> rfl
  have g5 : (zsH5 k1 k2 s.heap l1 l2).get? (zsH4 k1 k2 s.heap l1 l2).objs.size = some _ := Heap.get?_push_size _ rfl
  have g4 : (zsH5 k1 k2 s.heap l1 l2).get? (zsH3 k1 k2 s.heap l1 l2).objs.size = some _ := Heap.get?_push_of_some _ (Heap.get?_push_size _ rfl)
  have g3 : (zsH5 k1 k2 s.heap l1 l2).get? (zsH2 k1 k2 s.heap l1 l2).objs.size = some _ := Heap.get?_push_of_some _ (Heap.get?_push_of_some _ (Heap.get?_push_size _ rfl))
  have g2 : (zsH5 k1 k2 s.heap l1 l2).get? (zsH1 k1 s.heap l1).objs.size = some _ := Heap.get?_push_of_some _ (Heap.get?_push_of_some _ (Heap.get?_push_of_some _ (Heap.get?_push_size _ (fr k2 l2))))
  have g1 : (zsH5 k1 k2 s.heap l1 l2).get? s.heap.objs.size = some _ := Heap.get?_push_of_some _ (Heap.get?_push_of_some _ (Heap.get?_push_of_some _ (Heap.get?_push_of_some _ (Heap.get?_push_size _ (fr k1 l1)))))
  show _ ∧ _
  rw [z2, z3, z4] at g5
  rw [z1, z2] at g3
  rw [z3] at g4
  rw [z1] at g2
  rw [z4]
  exact ⟨⟨_, g5, rfl⟩, h _ g5 g3 g4 (sit_new g1) (sit_new g2) fun c o x =>
    Heap.get?_push_of_some _ (Heap.get?_push_of_some _ (Heap.get?_push_of_some _ (Heap.get?_push_of_some _ (Heap.get?_push_of_some _ x))))⟩
end
/-! ### the turns -/
def ItzS (K : PySem.W.Frag) (k1 k2 : Bool) (a b : Addr) : It :=
  ⟨fun i H => ∃ (xs ys : List V) (x y : V), SqX K k1 H a xs ∧ SqX K k2 H b ys ∧ xs[i]? = some x ∧ ys[i]? = some y,
    fun i H v H' => ∃ T x y, v = .ref T ∧ H T = none ∧ H' = upd H T (.tup [x, y]) ∧ (∀ xs, SqX K k1 H a xs → xs[i]? = some x) ∧ ∀ ys, SqX K k2 H b ys → ys[i]? = some y,
    fun i H => ∃ xs ys : List V, SqX K k1 H a xs ∧ SqX K k2 H b ys ∧ (xs.length ≤ i ∨ ys.length ≤ i)⟩
theorem sqx_at {X : Cx} {pins : List (Addr × Obj)} {σ : L2.St} {H : Hp} {s : Shared} (I : Inv X pins σ H s) {k : Bool} {a : Addr} {xs : List V} (h : SqX X.K k H a xs) : ∃ its, Vals xs its ∧ SAt k s.heap a its.toArray := by
  cases k
  · obtain ⟨its, rv, p, _⟩ := I.tuple (show SqT X.K H a xs from h)
    exact ⟨its, rv, p⟩
  · obtain ⟨its, rv, p, _⟩ := I.list (show SqL X.K H a xs from h)
    exact ⟨its, rv, p.isList⟩
theorem sqx_inj {X : Cx} {pins : List (Addr × Obj)} {σ : L2.St} {H : Hp} {s : Shared} (I : Inv X pins σ H s) {k : Bool} {a : Addr} {xs ys : List V} (h : SqX X.K k H a xs) (h' : SqX X.K k H a ys) : xs = ys := by
  cases k
  · exact I.tuple_inj (show SqT X.K H a xs from h) h'
  · exact I.list_inj (show SqL X.K H a xs from h) h'
theorem turn_zs {P : Program} {w : World} {K : PySem.W.Frag} {elts : List Expr} {kk : Nat} {tpos : Pos} {k1 k2 : Bool} {a b z TI TO i1 i2 : Addr} (D : ZipApart z TI TO i1 i2 a b) :
    Turn P w K (.Tuple elts kk tpos) (ItzS K k1 k2 a b) [z, TI, TO, i1, i2] z (fun i h => IsZip h z TI TO .none ∧ IsPair h TI (.ref i1) (.ref i2) ∧ (∃ x y, IsPair h TO x y) ∧ SIt k1 h i1 a i ∧ SIt k2 h i2 b i) where
  mem := by simp
  obj := fun i h st c hc => by
    obtain ⟨hz, hTI, ⟨x, y, hTO⟩, h1, h2⟩ := st
    obtain ⟨o1, e1, _, d1⟩ := h1.obj
    obtain ⟨o2, e2, _, d2⟩ := h2.obj
    have e' : c = z ∨ c = TI ∨ c = TO ∨ c = i1 ∨ c = i2 := by simpa using hc
    rcases e' with q | q | q | q | q
    · rw [q]; exact ⟨_, hz, fun v q => nomatch q⟩
    · rw [q]; exact ⟨_, hTI, fun v q => nomatch q⟩
    · rw [q]; exact ⟨_, hTO, fun v q => nomatch q⟩
    · rw [q]; exact ⟨o1, e1, fun v q => by rw [d1] at q; cases q⟩
    · rw [q]; exact ⟨o2, e2, fun v q => by rw [d2] at q; cases q⟩
  keep := fun i h h' st k => by
    obtain ⟨hz, hTI, ⟨x, y, hTO⟩, h1, h2⟩ := st
    exact ⟨k z (by simp) _ hz, k TI (by simp) _ hTI, ⟨x, y, k TO (by simp) _ hTO⟩, h1.at fun o q => k i1 (by simp) o q, h2.at fun o q => k i2 (by simp) o q⟩
  item := by
    intro X hP hw hK hc i pins s σ H E I hf st hg
    subst hP hw hK
    obtain ⟨hz, hTI, ⟨x0, y0, hTO⟩, h1, h2⟩ := st
    obtain ⟨xs, ys, x, y, hqx, hqy, hx, hy⟩ := hg
    obtain ⟨its, rv, p⟩ := sqx_at I hqx
    obtain ⟨its2, rv2, p2⟩ := sqx_at I hqy
    obtain ⟨u, hu, ru⟩ := rv.get hx
    obtain ⟨u2, hu2, ru2⟩ := rv2.get hy
    have zlt : z < s.heap.objs.size := Heap.lt_size hz
    refine zs_next D hz hTI hTO h1 h2 p p2 (x := u) (y := u2) (by simpa using hu) (by simpa using hu2) fun h' z' TO' h1' h2' hT hk => ?_
    refine ⟨_, rfl, wpAny_letOwnedTupleGo_zip (s := { s with heap := h' }) z' fun h'' z'' sb => ?_⟩
    have hT2 : h''.get? s.heap.objs.size = some { cls := .type "tuple", data := .seq #[u, u2] } := (sb.2 _ (Nat.ne_of_gt zlt)).trans hT
    have new : ObjOk X.prog X.w (upd H s.heap.objs.size (.tup [x, y])) h'' s.heap.objs.size (.tup [x, y]) :=
      ⟨by show 2 ≤ sizeLine; decide, [u, u2], .cons ru (.cons ru2 .nil), ⟨_, hT2, rfl, _, rfl⟩⟩
    have I1 : Inv X pins σ (upd H s.heap.objs.size (.tup [x, y])) { s with heap := h'' } :=
      I.turnedNew (t' := s.toks) (ch := [z, TI, TO, i1, i2]) (fun c o hb q => (sb.2 c (fun q' => hb (by simp [q']))).trans (hk c o (fun q' => hb (by simp [q'])) (fun q' => hb (by simp [q'])) (fun q' => hb (by simp [q'])) (fun q' => hb (by simp [q'])) q)) hf (Nat.le_refl _) new
    refine ⟨.ref s.heap.objs.size, _, I1, rfl, ⟨_, x, y, rfl, I.hok.fresh (Nat.le_refl _), rfl, fun l hl => by rw [sqx_inj I hl hqx]; exact hx, fun l hl => by rw [sqx_inj I hl hqy]; exact hy⟩, ⟨z'', ?_, ⟨u, u2, ?_⟩, ?_, ?_⟩, fun c hcm => ?_⟩
    · exact (sb.2 _ D.TIz).trans (hk _ _ D.TIz D.TITO D.TIi1 D.TIi2 hTI)
    · exact (sb.2 _ D.TOz).trans TO'
    · exact h1'.at fun o q => (sb.2 _ D.i1z).trans q
    · exact h2'.at fun o q => (sb.2 _ D.i2z).trans q
    · have hlt : c < s.heap.objs.size := by
        have e' : c = z ∨ c = TI ∨ c = TO ∨ c = i1 ∨ c = i2 := by simpa using hcm
        rcases e' with q | q | q | q | q
        · rw [q]; exact zlt
        · rw [q]; exact Heap.lt_size hTI
        · rw [q]; exact Heap.lt_size hTO
        · rw [q]; obtain ⟨_, e1, _⟩ := h1.obj; exact Heap.lt_size e1
        · rw [q]; obtain ⟨_, e2, _⟩ := h2.obj; exact Heap.lt_size e2
      rw [upd_ne (Nat.ne_of_lt hlt)]
      exact (hf c hcm).1
  done := by
    intro X hP hw hK hc i pins s σ H E I hf st hg
    subst hP hw hK
    obtain ⟨hz, hTI, ⟨x0, y0, hTO⟩, h1, h2⟩ := st
    obtain ⟨xs, ys, hqx, hqy, hend⟩ := hg
    obtain ⟨its, rv, p⟩ := sqx_at I hqx
    obtain ⟨its2, rv2, p2⟩ := sqx_at I hqy
    have l1 := rv.length
    have l2 := rv2.length
    have he : its.toArray[i]? = none ∨ its2.toArray[i]? = none := by
      rcases hend with q | q
      · exact .inl (by simp; omega)
      · exact .inr (by simp; omega)
    exact zs_stop (I.ok.hd hc) D hz hTI hTO h1 h2 p p2 he fun h' hk => ⟨rfl, I.turnedL (t' := s.toks) (ch := [z, TI, TO, i1, i2]) (fun c o hb q =>
      hk c o (fun q' => hb (by simp [q'])) (fun q' => hb (by simp [q'])) (fun q' => hb (by simp [q'])) (fun q' => hb (by simp [q'])) q) hf⟩
  self := fun A i s Q E st h => wpAny_pyIter_zip st.1 h
def iZs (K : PySem.W.Frag) (ta tb : TE) : TI := fun σ H R => ta σ H fun v H1 => tb σ H1 fun u H2 => ∃ (k1 k2 : Bool) (a b : Addr) (xs ys : List V), [v, u] = [.ref a, .ref b] ∧ SqX K k1 H2 a xs ∧ SqX K k2 H2 b ys ∧ R (ItzS K k1 k2 a b) H2
theorem pi_zs {X : Cx} {e e2 : Expr} {ta tb : TE} {p pos tpos : Pos} {elts : List Expr} {kk : Nat} (hg : Gl X "zip") (hm : X.mg "zip" = none) (ha : PE X e ta) (hb : PE X e2 tb)
    (hs : starEach [e, e2] X.env = (false, eval e X.env) :: starEach [e2] X.env) (hs2 : starEach [e2] X.env = (false, eval e2 X.env) :: starEach [] X.env) :
    PI X (.Tuple elts kk tpos) (.Call (.Name "zip" p) [e, e2] [] pos) (iZs X.K ta tb) := by
  have hpl : (backTo pos (starEach [e2] X.env)).any (·.1) = false := by rw [hs2]; rfl
  have hA : PA X [e, e2] (tCons ta (tCons tb tNil)) := pa_cons ha (pa_cons hb pa_nil hs2) hs
  refine ⟨fun pins s σ H R I h => ?_⟩
  have h' : tCons ta (tCons tb tNil) σ H fun vs H2 => ∃ (k1 k2 : Bool) (a b : Addr) (xs ys : List V), vs = [.ref a, .ref b] ∧ SqX X.K k1 H2 a xs ∧ SqX X.K k2 H2 b ys ∧ R (ItzS X.K k1 k2 a b) H2 := h
  refine Call_ (ld_blt I hg hm PyProof.Rows.boot_zip (PyProof.Rows.callWith_type1 (thn (hA.run pos pins s σ H _ I h') fun us s1 ⟨vs, H1, I1, r1, q1⟩ => ?_) hs hpl))
  obtain ⟨k1, k2, a, b, xs, ys, ex, hqx, hqy, q⟩ := q1
  subst ex
  cases r1 with
  | cons r rr =>
    cases rr with
    | cons r' rr =>
      cases rr
      cases r
      cases r'
      have fresh5 : ∀ c, c ∈ [s1.heap.objs.size + 4, s1.heap.objs.size + 2, s1.heap.objs.size + 3, s1.heap.objs.size, s1.heap.objs.size + 1] → FpOk X pins H1 c := fun c hcm => by
        have e' : c = s1.heap.objs.size + 4 ∨ c = s1.heap.objs.size + 2 ∨ c = s1.heap.objs.size + 3 ∨ c = s1.heap.objs.size ∨ c = s1.heap.objs.size + 1 := by simpa using hcm
        have hle : s1.heap.objs.size ≤ c := by
          rcases e' with z | z | z | z | z <;> rw [z] <;> first | exact Nat.le_add_right _ _ | exact Nat.le_refl _
        exact I1.fpOk hle (I1.hok.fresh hle)
      obtain ⟨its, rv, p1⟩ := sqx_at I1 hqx
      obtain ⟨its2, rv2, p2⟩ := sqx_at I1 hqy
      refine call_zs p1 p2 fun h' hz hTI hTO h1 h2 hk => wpAny_pyIter_zip hz ?_
      have I2 : Inv X pins σ H1 { s1 with heap := h' } := I1.kept (t' := s1.toks) hk
      exact ⟨s1.heap.objs.size + 4, [s1.heap.objs.size + 4, s1.heap.objs.size + 2, s1.heap.objs.size + 3, s1.heap.objs.size, s1.heap.objs.size + 1], _, _, H1, rfl, I2, turn_zs (PySem.W.ktu_apart s1.heap.objs.size a b p1.lt p2.lt), ⟨hz, hTI, ⟨_, _, hTO⟩, h1, h2⟩, fresh5, q⟩
/-! ### as a rule -/
def zipIV (s1 s2 : Src) : IVal := fun i st => match s1.get st, s2.get st with
  | some ds, some es => some (match ds[i]?, es[i]? with
    | some d, some e => some (.tuple [d, e])
    | _, _ => none)
  | _, _ => none
def zipI (fa fb : EvR) : EvI := fun s => (fa s).bind fun p => (fb ⟨s.env, p.2⟩).bind fun q => match p.1.get q.2, q.1.get q.2 with
  | some _, some _ => .ok (zipIV p.1 q.1, q.2)
  | _, _ => .stuck
section
variable {X : Cx} {c : Cfg} {W : WX} {B as : List Addr} {σ : L2.St} {H H1 H2 : Hp} {s : S} {e e2 : Expr} {elts : List Expr} {kk : Nat} {p pos tpos : Pos} {fa fb : EvR}
theorem SrcOk.later {K : PySem.W.Frag} {src : Src} {v : V} (h : SrcOk K c B as H1 src v) (ev : Evo as H1 H2) (sr : SR K c B as H2 σ s) : SrcOk K c B as H2 src v := by
  obtain ⟨a, rfl, h⟩ := h
  refine ⟨a, rfl, fun B' H σ s ds hB e sr' eg => h B' H σ s ds (fun x hx => ?_) (ev.trans' e) sr' eg⟩
  rcases hB x hx with z | z
  · exact .inl z
  · rcases ev.free z with q | q
    · obtain ⟨u, q2, _⟩ := sr.there q
      rw [z] at q2; cases q2
    · exact .inr q
theorem wd_zip {K : PySem.W.Frag} {s1 s2 : Src} {a b : Addr} (h1 : SrcOk K c B as H s1 (.ref a)) (h2 : SrcOk K c B as H s2 (.ref b)) : WD K c B as H (ItzS K s1.lst s2.lst a b) (zipIV s1 s2) := by
  obtain ⟨a', e1, h1⟩ := h1
  obtain ⟨b', e2, h2⟩ := h2
  cases e1
  cases e2
  refine ⟨fun B' i H' σ s d hB ev sr e => ?_, fun B' i H' σ s hB ev sr e => ?_⟩
  · unfold zipIV at e
    split at e
    · rename_i ds es g1 g2
      obtain ⟨xs, q1, r1⟩ := h1 B' H' σ s ds hB ev sr g1
      obtain ⟨ys, q2, r2⟩ := h2 B' H' σ s es hB ev sr g2
      simp only [Option.some.injEq] at e
      split at e
      · rename_i d1 d2 i1 i2
        simp only [Option.some.injEq] at e
        subst e
        obtain ⟨x, hx, rx⟩ := r1.get i1
        obtain ⟨y, hy, ry⟩ := r2.get i2
        refine ⟨⟨xs, ys, x, y, q1, q2, hx, hy⟩, fun v H2 yl => ?_⟩
        obtain ⟨T, x', y', rfl, hT, rfl, t1, t2⟩ := yl
        have z1 := t1 xs q1
        have z2 := t2 ys q2
        rw [hx] at z1
        rw [hy] at z2
        cases z1
        cases z2
        exact ⟨Evo.new hT, Rep.newTup (.cons rx (.cons ry .nil)) hT (sr.notnew hT)⟩
      · cases e
    · cases e
  · unfold zipIV at e
    split at e
    · rename_i ds es g1 g2
      obtain ⟨xs, q1, r1⟩ := h1 B' H' σ s ds hB ev sr g1
      obtain ⟨ys, q2, r2⟩ := h2 B' H' σ s es hB ev sr g2
      refine ⟨xs, ys, q1, q2, ?_⟩
      simp only [Option.some.injEq] at e
      split at e
      · cases e
      · rename_i hno
        cases i1 : ds[i]? with
        | none => exact .inl (by rw [r1.length]; exact List.getElem?_eq_none_iff.mp i1)
        | some d1 =>
          cases i2 : es[i]? with
          | none => exact .inr (by rw [r2.length]; exact List.getElem?_eq_none_iff.mp i2)
          | some d2 => exact absurd i2 (hno d1 d2 i1)
    · cases e
theorem di_zip (hg : Gl X "zip") (hm : X.mg "zip" = none) (ha : DR X c W e fa) (hb : DR X c W e2 fb)
    (hs : starEach [e, e2] X.env = (false, eval e X.env) :: starEach [e2] X.env) (hs2 : starEach [e2] X.env = (false, eval e2 X.env) :: starEach [] X.env) :
    DI X c W (.Tuple elts kk tpos) (.Call (.Name "zip" p) [e, e2] [] pos) (zipI fa fb) := by
  obtain ⟨ta, pa, ra⟩ := ha
  obtain ⟨tb, pb, rb⟩ := hb
  refine ⟨_, pi_zs hg hm pa pb hs hs2, fun B as σ H s R sr hw => ?_⟩
  show ta σ H _
  refine WantsG.bind (qa := false) (qb := false) (s := s) hw sr ra fun v H1 s1 st1 e1 ev1 sr1 ok1 hw1 => ?_
  refine WantsG.bind (qa := false) (qb := false) (s := ⟨s.env, st1⟩) hw1 sr1 rb fun u H2 s2 st2 e2 ev2 sr2 ok2 hw2 => ?_
  have k1 := SrcOk.later ok1 ev2 sr2
  simp only at hw2
  split at hw2
  · rename_i ds es g1 g2
    obtain ⟨a, rfl, h1⟩ := id k1
    obtain ⟨b, rfl, h2⟩ := id ok2
    obtain ⟨xs, q1, _⟩ := h1 B H2 σ _ ds (fun _ z => .inl z) Evo.refl sr2 g1
    obtain ⟨ys, q2, _⟩ := h2 B H2 σ _ es (fun _ z => .inl z) Evo.refl sr2 g2
    exact ⟨s1.lst, s2.lst, a, b, xs, ys, rfl, q1, q2, hw2.fin sr2 Evo.refl (wd_zip k1 ok2)⟩
  · exact hw2.elim
end
end DL
end
section
set_option Elab.async false
set_option linter.all false
set_option maxRecDepth 100000
set_option maxHeartbeats 1000000
/-! The data layer, part u: the law's end. -/
namespace DL
open PySem PySem.Spec PyProof.Rows L2 PySem.SeqAt PySem.W GxR
/-! ### constants of the text -/
mutual
def valB (K : PySem.W.Frag) : PyData → Value → Bool
  | .none, .none => true
  | .bool b, .bool c => b == c
  | .int i, .int j _ => decide (i = j)
  | .str x, .str y _ => decide (x = y)
  | .tuple ds, .ref a => match K.lookup a with
    | some ⟨.type c, _, .seq its _, _⟩ => decide (c = "tuple") && (decide (its.size ≤ sizeLine) && valsB K ds its.toList)
    | _ => false
  | _, _ => false
def valsB (K : PySem.W.Frag) : List PyData → List Value → Bool
  | [], [] => true
  | d :: ds, u :: us => valB K d u && valsB K ds us
  | _, _ => false
end
mutual
theorem valB_ok {K : PySem.W.Frag} : ∀ (d : PyData) (u : Value), valB K d u = true → ∃ v, RelV v u ∧ ∀ av H, Rep K av H d v
  | .none, u, h => by
    cases u <;> first | cases h | skip
    exact ⟨.non, rfl, fun av H => by simp [Rep]⟩
  | .bool b, u, h => by
    cases u <;> first | cases h | skip
    rename_i c
    have e : b = c := by simpa [valB] using h
    subst e
    exact ⟨.bl b, rfl, fun av H => by simp [Rep]⟩
  | .int i, u, h => by
    cases u <;> first | cases h | skip
    rename_i j t
    have e : i = j := by simpa [valB] using h
    subst e
    exact ⟨.int i, ⟨t, rfl⟩, fun av H => by simp [Rep]⟩
  | .str x, u, h => by
    cases u <;> first | cases h | skip
    rename_i y t
    have e : x = y := by simpa [valB] using h
    subst e
    exact ⟨.str x, ⟨t, rfl⟩, fun av H => by simp [Rep]⟩
  | .list ds, u, h => by cases u <;> cases h
  | .dict ds, u, h => by cases u <;> cases h
  | .tuple ds, u, h => by
    cases u <;> first | cases h | skip
    rename_i a
    unfold valB at h
    split at h
    · rename_i c od its n sl lk
      simp only [Bool.and_eq_true, decide_eq_true_eq] at h
      obtain ⟨rfl, h2, h3⟩ := h
      obtain ⟨vs, r1, r2⟩ := valsB_ok ds its.toList h3
      exact ⟨.ref a, rfl, fun av H => by
        simp only [Rep]
        exact ⟨a, vs, rfl, .inr ⟨_, its, n, lk, rfl, rfl, h2, r1⟩, r2 av H⟩⟩
    · cases h
theorem valsB_ok {K : PySem.W.Frag} : ∀ (ds : List PyData) (us : List Value), valsB K ds us = true → ∃ vs, Vals vs us ∧ ∀ av H, RepA K av H ds vs
  | [], us, h => by
    cases us <;> first | cases h | skip
    exact ⟨[], .nil, fun av H => .nil⟩
  | d :: ds, us, h => by
    cases us <;> first | cases h | skip
    rename_i u us
    unfold valsB at h
    obtain ⟨h1, h2⟩ := Bool.and_eq_true_iff.mp h
    obtain ⟨v, r1, r2⟩ := valB_ok d u h1
    obtain ⟨vs, r3, r4⟩ := valsB_ok ds us h2
    exact ⟨v :: vs, .cons r1 r3, fun av H => .cons (r2 av H) (r4 av H)⟩
end
def conB (K : PySem.W.Frag) (x : Str) (d : PyData) : Bool := match PySem.W.nsIn K mainGlobals x with
  | some (some u) => valB K d u
  | _ => false
theorem con_ok {K : PySem.W.Frag} {h : Heap} {mg : Str → Option Value} {x : Str} {d : PyData} (X : K.In h) (G : h.Ns mainGlobals mg) (e : conB K x d = true) : Con K mg x d := by
  unfold conB at e
  split at e
  · rename_i u q
    obtain ⟨v, r1, r2⟩ := valB_ok d u e
    exact ⟨v, u, PySem.W.mg_of X G q, r1, r2⟩
  · cases e
/-! ### the defs -/
section
variable {K : PySem.W.Frag} {mg : Str → Option Value} {base h : Heap} {c : Cfg} {x : Str} {st : Stmt} {ps : List Str} {f : Addr} {fd : FuncData}
theorem dfl0 {dV : Value} (h : DflV K dV []) : dV = .none := by
  rcases h with ⟨_, h⟩ | ⟨h, _⟩
  · exact h
  · exact absurd rfl h
theorem def_of (F : FunD K x x (defArgs st) (defBody st) (defScope st) [] [] f fd) (g : mg x = some (.ref f))
    (hb : ∀ (kV doc pm : Value) (an : Option Addr) (cdv ct : Value) (us : List Value), us.length = ps.length → bindArgs (PySem.W.fnOf x x (defArgs st) (defBody st) (defScope st) .none kV doc pm an cdv ct) ⟨us, []⟩ = pure (ps.zip us)) : Def K mg x st ps := by
  have b := FunD.bindsN F hb
  obtain ⟨oc, od, dV, kV, doc, pm, an, cdv, ct, osl, e, lk, hcd, hD, _⟩ := F.ex
  have := dfl0 hD
  subst this
  exact ⟨f, fd, ⟨⟨oc, od, kV, doc, pm, an, cdv, ct, osl, e, lk, hcd⟩, F.kp⟩, g, b⟩
theorem def_ofG {p : Str × Option Str} (F : FunD K x x (defArgs st) (defBody st) (defScope st) [] [] (He.fAd K p) fd) (g : mg x = some (.ref (He.fAd K p)))
    (hb : ∀ (kV doc pm : Value) (an : Option Addr) (cdv ct : Value) (us : List Value), us.length = ps.length → bindArgs (PySem.W.fnOf x x (defArgs st) (defBody st) (defScope st) .none kV doc pm an cdv ct) ⟨us, []⟩ = pure (ps.zip us))
    (tb : TabB base mg (He.cT K p).1 (He.cT K p).2) (hP : (He.cT K p).2 ∈ c.TT) : DefG K mg base c x st ps := by
  have b := FunD.bindsN F hb
  obtain ⟨oc, od, dV, kV, doc, pm, an, cdv, ct, osl, e, lk, hcd, hD, _⟩ := F.ex
  have := dfl0 hD
  subst this
  obtain ⟨cc, rfl⟩ := He.codeIn_ref hcd
  have e2 : (He.cT K p).1 = cc := He.codeOf_eq lk (by rw [e])
  rw [e2] at tb
  exact ⟨_, fd, cc, _, ⟨⟨oc, od, kV, doc, pm, an, ct, osl, e, lk, hcd⟩, F.kp⟩, g, b, tb, hP⟩
theorem fun_of (F : FunD K x x (defArgs st) (defBody st) (defScope st) [] [] f fd) : L2.Fun K x x st f fd := by
  obtain ⟨oc, od, dV, kV, doc, pm, an, cdv, ct, osl, e, lk, hcd, hD, _⟩ := F.ex
  have := dfl0 hD
  subst this
  exact ⟨⟨oc, od, kV, doc, pm, an, cdv, ct, osl, e, lk, hcd⟩, F.kp⟩
end
/-! ### the law -/
theorem law_sp {K : PySem.W.Frag} {c : Cfg} {F : FSem} {n : Nat} {ns : List Int} {H : Hp} {a : Addr} (hn : n = 1) (hF : F [.scr (ns.map .int)] [] = .ok (.bool true, [])) (ht : ∀ P ∈ c.TT, H P = some (.tbl #[])) (hc : c.CC = []) (hS : SqL K H a (ns.map V.int)) :
    spD K c n F [.ref a] H (fun v _ => v = .bl true) fun _ _ _ => False := by
  subst hn
  have tabs : TabsOk c H := ⟨fun P hP => ⟨fun x => x ∈ c.TT, hP, fun Q hQ => ⟨#[], ht Q hQ, trivial, fun pos cv e => by simp [codeAmong] at e⟩⟩, fun p hp => by rw [hc] at hp; cases hp⟩
  refine ⟨[], [], [.scr (ns.map .int)], [], rfl, ⟨rfl, fun i sv h => by simp at h, List.nodup_nil, rfl, fun i o a h => by simp at h, fun a h => by simp at h, tabs⟩, ⟨_, [], rfl, ⟨a, ns.map V.int, rfl, ?_, ints_rep ns⟩, rfl⟩, ?_⟩
  · rcases hS with h | h
    · exact .inl ⟨h, by simp⟩
    · exact .inr h
  · rw [hF]
    intro v H' _ _ r
    simpa [Rep] using r
end DL
end
section
set_option Elab.async false
set_option linter.all false
set_option maxRecDepth 100000
set_option maxHeartbeats 1000000
/-! The data layer, part v: how the readings compute: loops as recursions over lists, equations for simp. -/
namespace DL
open PySem PySem.Spec PyProof.Rows L2 PySem.W
/-! ### loops over what stays the same -/
def forL (g : GS) (body : EvS) (ws : List Nat) : List PyData → S → RS
  | [], s => .ok (.next, s)
  | d :: ds, s => match g d s.env with
    | some e1 => turnS ws s.st.length (forL g body ws ds) (body s.st.length ⟨e1, s.st⟩)
    | none => .stuck
def compL (g : GS) (ft : EvT) (fe : EvD) (env : List (Option SV)) : List PyData → Sto → RC
  | [], st => .ok ([], st)
  | d :: ds, st => match g d env with
    | some e1 => (match ft ⟨e1, st⟩ with
      | .ok (true, st1) => (match fe ⟨e1, st1⟩ with
        | .ok (y, st2) => (compL g ft fe env ds st2).bind fun q => .ok (y :: q.1, q.2)
        | _ => .stuck)
      | .ok (false, st1) => compL g ft fe env ds st1
      | _ => .stuck)
    | none => .stuck
def quantL (stopAt : Bool) (g : GS) (ft : EvT) (fe : EvD) (env : List (Option SV)) : List PyData → Sto → RT
  | [], st => .ok (!stopAt, st)
  | d :: ds, st => match g d env with
    | some e1 => (match ft ⟨e1, st⟩ with
      | .ok (true, st1) => (match fe ⟨e1, st1⟩ with
        | .ok (.bool k, st2) => if k = stopAt then .ok (stopAt, st2) else quantL stopAt g ft fe env ds st2
        | _ => .stuck)
      | .ok (false, st1) => quantL stopAt g ft fe env ds st1
      | _ => .stuck)
    | none => .stuck
/-- the items, one behind another, whatever the store is -/
def Items (iv : IVal) (ds : List PyData) : Prop := ∀ i st, iv i st = some (ds[i]?)
theorem turnS_congr {ws : List Nat} {n : Nat} {k k' : S → RS} {r : RS} (h : ∀ s, k s = k' s) : turnS ws n k r = turnS ws n k' r := by
  have : k = k' := funext h
  rw [this]
theorem turnS_up {ws : List Nat} {n : Nat} {k k' : S → RS} {r : RS} (h : ∀ s, k s ≠ .stuck → k s = k' s) (hn : turnS ws n k r ≠ .stuck) : turnS ws n k r = turnS ws n k' r := by
  cases r with
  | stuck => rfl
  | exc c s => rfl
  | ok p =>
    obtain ⟨fl, s2⟩ := p
    cases fl with
    | next => exact h _ hn
    | cont => exact h _ hn
    | brk => rfl
    | ret sv => rfl
theorem lim_by {α : Type} {f : Nat → Res α} {r : Res α} {m : Nat} (ha : ∀ m, f m ≠ .stuck → f m = r) (hb : f m = r) : lim f = r := by
  by_cases h : lim f = .stuck
  · unfold lim at h
    split at h
    · rename_i hx
      exact absurd h (Classical.choose_spec hx)
    · rename_i hx
      have : f m = .stuck := by
        cases e : f m with
        | stuck => rfl
        | ok a => exact absurd ⟨m, by rw [e]; simp⟩ hx
        | exc c s => exact absurd ⟨m, by rw [e]; simp⟩ hx
      unfold lim
      rw [dif_neg hx, ← hb, this]
  · obtain ⟨k, e⟩ := lim_some h
    rw [e]
    exact ha k (by rw [← e]; exact h)
theorem forN_up {iv : IVal} {g : GS} {body : EvS} {ws : List Nat} {ds : List PyData} (hi : Items iv ds) : ∀ (m i : Nat) (s : S), forN iv g body ws m i s ≠ .stuck → forN iv g body ws m i s = forL g body ws (ds.drop i) s
  | 0, i, s, h => absurd rfl h
  | m + 1, i, s, h => by
    unfold forN at h ⊢
    rw [hi] at h ⊢
    by_cases hl : i < ds.length
    · rw [List.getElem?_eq_getElem hl] at h ⊢
      rw [List.drop_eq_getElem_cons hl]
      simp only [forL] at h ⊢
      cases eg : g ds[i] s.env with
      | none => rfl
      | some e1 =>
        rw [eg] at h
        exact turnS_up (fun s => forN_up hi m (i + 1) s) h
    · rw [List.getElem?_eq_none (by omega), List.drop_eq_nil_of_le (by omega)]
      rfl
theorem forN_all {iv : IVal} {g : GS} {body : EvS} {ws : List Nat} {ds : List PyData} (hi : Items iv ds) : ∀ (m i : Nat) (s : S), i ≤ ds.length → ds.length < m + i → forN iv g body ws m i s = forL g body ws (ds.drop i) s
  | 0, i, s, h1, h2 => by omega
  | m + 1, i, s, h1, h2 => by
    unfold forN
    rw [hi]
    by_cases hl : i < ds.length
    · rw [List.getElem?_eq_getElem hl, List.drop_eq_getElem_cons hl]
      simp only [forL]
      cases eg : g ds[i] s.env with
      | none => rfl
      | some e1 => exact turnS_congr fun s => forN_all hi m (i + 1) s (by omega) (by omega)
    · rw [List.getElem?_eq_none (by omega), List.drop_eq_nil_of_le (by omega)]
      rfl
theorem for_items {iv : IVal} {g : GS} {body : EvS} {ws : List Nat} {ds : List PyData} (hi : Items iv ds) (s : S) : lim (fun m => forN iv g body ws m 0 s) = forL g body ws ds s :=
  lim_by (m := ds.length + 1) (fun m h => by have := forN_up hi m 0 s h; simpa using this) (by have := forN_all (g := g) (body := body) (ws := ws) hi (ds.length + 1) 0 s (by omega) (by omega); simpa using this)
theorem forS_items {fi : EvI} {iv : IVal} {st : Sto} {g : GS} {body : EvS} {ws : List Nat} {ds : List PyData} {n : Nat} {s : S} (e : fi s = .ok (iv, st)) (hi : Items iv ds) : forS fi g body ws n s = forL g body ws ds ⟨s.env, st⟩ := by
  unfold forS
  rw [e]
  exact for_items hi _
/-! ### comprehensions -/
def appC (acc : List PyData) : RC → RC
  | .ok (ys, st) => .ok (acc ++ ys, st)
  | .exc c s => .exc c s
  | .stuck => .stuck
theorem compN_up {iv : IVal} {g : GS} {ft : EvT} {fe : EvD} {env : List (Option SV)} {ds : List PyData} (hi : Items iv ds) : ∀ (m i : Nat) (st : Sto) (acc : List PyData), compN iv g ft fe env m i st acc ≠ .stuck → compN iv g ft fe env m i st acc = appC acc (compL g ft fe env (ds.drop i) st)
  | 0, i, st, acc, h => absurd rfl h
  | m + 1, i, st, acc, h => by
    unfold compN at h ⊢
    rw [hi] at h ⊢
    by_cases hl : i < ds.length
    · rw [List.getElem?_eq_getElem hl] at h ⊢
      rw [List.drop_eq_getElem_cons hl]
      simp only [compL] at h ⊢
      cases eg : g ds[i] env with
      | none => rw [eg] at h; exact absurd rfl h
      | some e1 =>
        rw [eg] at h
        simp only at h ⊢
        cases et : ft ⟨e1, st⟩ with
        | stuck => rw [et] at h; exact absurd rfl h
        | exc c s => rw [et] at h; exact absurd rfl h
        | ok p =>
          obtain ⟨b, st1⟩ := p
          rw [et] at h
          cases b with
          | false =>
            simp only at h ⊢
            exact compN_up hi m (i + 1) st1 acc h
          | true =>
            simp only at h ⊢
            cases ee : fe ⟨e1, st1⟩ with
            | stuck => rw [ee] at h; exact absurd rfl h
            | exc c s => rw [ee] at h; exact absurd rfl h
            | ok q =>
              obtain ⟨y, st2⟩ := q
              rw [ee] at h
              simp only at h ⊢
              split at h
              · rename_i ha
                rw [if_pos ha, compN_up hi m (i + 1) st2 (acc ++ [y]) h]
                cases compL g ft fe env (ds.drop (i + 1)) st2 with
                | ok r => obtain ⟨ys, st3⟩ := r; simp [appC]
                | exc c s => rfl
                | stuck => rfl
              · exact absurd rfl h
    · rw [List.getElem?_eq_none (by omega), List.drop_eq_nil_of_le (by omega)]
      simp [compL, appC]
theorem compN_all {iv : IVal} {g : GS} {ft : EvT} {fe : EvD} {env : List (Option SV)} {ds : List PyData} (hi : Items iv ds) : ∀ (m i : Nat) (st : Sto) (acc : List PyData), i ≤ ds.length → ds.length < m + i → acc.length + (ds.length - i) ≤ 16777216 →
    compN iv g ft fe env m i st acc = appC acc (compL g ft fe env (ds.drop i) st)
  | 0, i, st, acc, h1, h2, h3 => by omega
  | m + 1, i, st, acc, h1, h2, h3 => by
    unfold compN
    rw [hi]
    by_cases hl : i < ds.length
    · rw [List.getElem?_eq_getElem hl, List.drop_eq_getElem_cons hl]
      simp only [compL]
      cases eg : g ds[i] env with
      | none => rfl
      | some e1 =>
        simp only
        cases et : ft ⟨e1, st⟩ with
        | stuck => rfl
        | exc c s => rfl
        | ok p =>
          obtain ⟨b, st1⟩ := p
          cases b with
          | false => exact compN_all hi m (i + 1) st1 acc (by omega) (by omega) (by omega)
          | true =>
            simp only
            cases ee : fe ⟨e1, st1⟩ with
            | stuck => rfl
            | exc c s => rfl
            | ok q =>
              obtain ⟨y, st2⟩ := q
              simp only
              rw [if_pos (by omega), compN_all hi m (i + 1) st2 (acc ++ [y]) (by omega) (by omega) (by simp; omega)]
              cases compL g ft fe env (ds.drop (i + 1)) st2 with
              | ok r => obtain ⟨ys, st3⟩ := r; simp [appC]
              | exc c s => rfl
              | stuck => rfl
    · rw [List.getElem?_eq_none (by omega), List.drop_eq_nil_of_le (by omega)]
      simp [compL, appC]
theorem appC_nil (r : RC) : appC [] r = r := by cases r <;> rfl
theorem compC_items {fi : EvI} {iv : IVal} {st : Sto} {vs : List Nat} {g : GS} {ft : EvT} {fe : EvD} {ds : List PyData} {s : S} (e : fi s = .ok (iv, st)) (hi : Items iv ds) (hl : ds.length ≤ 16777216) : compC fi vs g ft fe s = compL g ft fe (wipeL s.env vs) ds st := by
  unfold compC
  rw [e]
  exact lim_by (m := ds.length + 1) (fun m h => by have := compN_up hi m 0 st [] h; rw [appC_nil] at this; simpa using this) (by have := compN_all (g := g) (ft := ft) (fe := fe) (env := wipeL s.env vs) hi (ds.length + 1) 0 st [] (by omega) (by omega) (by simpa using hl); rw [appC_nil] at this; simpa using this)
/-! ### all, any -/
theorem quantN_up {b : Bool} {iv : IVal} {g : GS} {ft : EvT} {fe : EvD} {env : List (Option SV)} {ds : List PyData} (hi : Items iv ds) : ∀ (m i : Nat) (st : Sto), quantN b iv g ft fe env m i st ≠ .stuck → quantN b iv g ft fe env m i st = quantL b g ft fe env (ds.drop i) st
  | 0, i, st, h => absurd rfl h
  | m + 1, i, st, h => by
    unfold quantN at h ⊢
    rw [hi] at h ⊢
    by_cases hl : i < ds.length
    · rw [List.getElem?_eq_getElem hl] at h ⊢
      rw [List.drop_eq_getElem_cons hl]
      simp only [quantL] at h ⊢
      cases eg : g ds[i] env with
      | none => rfl
      | some e1 =>
        rw [eg] at h
        simp only at h ⊢
        cases et : ft ⟨e1, st⟩ with
        | stuck => rfl
        | exc c s => rfl
        | ok p =>
          obtain ⟨k, st1⟩ := p
          rw [et] at h
          cases k with
          | false =>
            simp only at h ⊢
            exact quantN_up hi m (i + 1) st1 h
          | true =>
            simp only at h ⊢
            cases ee : fe ⟨e1, st1⟩ with
            | stuck => rfl
            | exc c s => rfl
            | ok q =>
              obtain ⟨y, st2⟩ := q
              rw [ee] at h
              cases y <;> try rfl
              rename_i y
              simp only at h ⊢
              split at h
              · rename_i hk; rw [if_pos hk, if_pos hk]
              · rename_i hk; rw [if_neg hk, if_neg hk]; exact quantN_up hi m (i + 1) st2 h
    · rw [List.getElem?_eq_none (by omega), List.drop_eq_nil_of_le (by omega)]
      rfl
theorem quantN_all {b : Bool} {iv : IVal} {g : GS} {ft : EvT} {fe : EvD} {env : List (Option SV)} {ds : List PyData} (hi : Items iv ds) : ∀ (m i : Nat) (st : Sto), i ≤ ds.length → ds.length < m + i → quantN b iv g ft fe env m i st = quantL b g ft fe env (ds.drop i) st
  | 0, i, st, h1, h2 => by omega
  | m + 1, i, st, h1, h2 => by
    unfold quantN
    rw [hi]
    by_cases hl : i < ds.length
    · rw [List.getElem?_eq_getElem hl, List.drop_eq_getElem_cons hl]
      simp only [quantL]
      cases eg : g ds[i] env with
      | none => rfl
      | some e1 =>
        simp only
        cases et : ft ⟨e1, st⟩ with
        | stuck => rfl
        | exc c s => rfl
        | ok p =>
          obtain ⟨k, st1⟩ := p
          cases k with
          | false => exact quantN_all hi m (i + 1) st1 (by omega) (by omega)
          | true =>
            simp only
            cases ee : fe ⟨e1, st1⟩ with
            | stuck => rfl
            | exc c s => rfl
            | ok q =>
              obtain ⟨y, st2⟩ := q
              cases y <;> try rfl
              rename_i y
              simp only
              split
              · rfl
              · exact quantN_all hi m (i + 1) st2 (by omega) (by omega)
    · rw [List.getElem?_eq_none (by omega), List.drop_eq_nil_of_le (by omega)]
      rfl
theorem quantE_items {b : Bool} {fi : EvI} {iv : IVal} {st : Sto} {vs : List Nat} {g : GS} {ft : EvT} {fe : EvD} {ds : List PyData} {s : S} (e : fi s = .ok (iv, st)) (hi : Items iv ds) : quantE b fi vs g ft fe s = (quantL b g ft fe (wipeL s.env vs) ds st).bind fun q => .ok (.bool q.1, q.2) := by
  unfold quantE
  rw [e]
  have : lim (fun m => quantN b iv g ft fe (wipeL s.env vs) m 0 st) = quantL b g ft fe (wipeL s.env vs) ds st :=
    lim_by (m := ds.length + 1) (fun m h => by have := quantN_up hi m 0 st h; simpa using this) (by have := quantN_all (b := b) (g := g) (ft := ft) (fe := fe) (env := wipeL s.env vs) hi (ds.length + 1) 0 st (by omega) (by omega); simpa using this)
  simp only [Res.bind_ok, this]
/-! ### what is walked -/
def intsFrom (lo : Int) : Nat → List PyData
  | 0 => []
  | n + 1 => .int lo :: intsFrom (lo + 1) n
theorem intsFrom_get : ∀ (n : Nat) (lo : Int) (i : Nat), (intsFrom lo n)[i]? = if i < n then some (.int (lo + i)) else none
  | 0, lo, i => by simp [intsFrom]
  | n + 1, lo, 0 => by simp [intsFrom]
  | n + 1, lo, i + 1 => by
    simp only [intsFrom, List.getElem?_cons_succ, intsFrom_get n (lo + 1) i]
    by_cases h : i < n
    · rw [if_pos h, if_pos (by omega)]; congr 2; push_cast; omega
    · rw [if_neg h, if_neg (by omega)]
theorem intsFrom_len : ∀ (n : Nat) (lo : Int), (intsFrom lo n).length = n
  | 0, _ => rfl
  | n + 1, lo => by simp [intsFrom, intsFrom_len n]
theorem items_range (lo : Int) (n : Nat) : Items (rangeIV lo n) (intsFrom lo n) := fun i st => by
  unfold rangeIV
  rw [intsFrom_get]
theorem items_seq (k : Bool) (ds : List PyData) : Items (seqIV ⟨k, fun _ => some ds⟩) ds := fun i st => rfl
def zipL : List PyData → List PyData → List PyData
  | d :: ds, e :: es => .tuple [d, e] :: zipL ds es
  | _, _ => []
theorem zipL_get : ∀ (ds es : List PyData) (i : Nat), (zipL ds es)[i]? = (match ds[i]?, es[i]? with
    | some d, some e => some (.tuple [d, e])
    | _, _ => none)
  | [], es, i => by cases es <;> simp [zipL]
  | d :: ds, [], i => by
    simp only [zipL, List.getElem?_nil]
    cases (d :: ds)[i]? <;> rfl
  | d :: ds, e :: es, 0 => by simp [zipL]
  | d :: ds, e :: es, i + 1 => by
    simp only [zipL, List.getElem?_cons_succ]
    exact zipL_get ds es i
theorem items_zip (k1 k2 : Bool) (ds es : List PyData) : Items (zipIV ⟨k1, fun _ => some ds⟩ ⟨k2, fun _ => some es⟩) (zipL ds es) := fun i st => by
  rw [zipL_get]
  rfl
def intsDown (hi : Int) : Nat → List PyData
  | 0 => []
  | n + 1 => .int hi :: intsDown (hi - 1) n
theorem intsDown_get : ∀ (n : Nat) (hi : Int) (i : Nat), (intsDown hi n)[i]? = if i < n then some (.int (hi + (i : Nat) * (-1))) else none
  | 0, hi, i => by simp [intsDown]
  | n + 1, hi, 0 => by simp [intsDown]
  | n + 1, hi, i + 1 => by
    simp only [intsDown, List.getElem?_cons_succ, intsDown_get n (hi - 1) i]
    by_cases h : i < n
    · rw [if_pos h, if_pos (by omega)]; congr 2; push_cast; omega
    · rw [if_neg h, if_neg (by omega)]
theorem items_rangeD (hi : Int) (n : Nat) : Items (rangeCIV hi (-1) n) (intsDown hi n) := fun i st => by
  unfold rangeCIV
  rw [intsDown_get]
/-! ### equations -/
section
variable {env : List (Option SV)} {st : Sto} {s : S} {d : PyData} {i : Nat}
@[simp] theorem ev_slot : slotE i ⟨env, st⟩ = match env[i]? with
  | some (some (.pure d)) => .ok (d, st)
  | _ => .stuck := rfl
@[simp] theorem ev_slotV : slotV i ⟨env, st⟩ = match env[i]? with
  | some (some sv) => .ok (sv, st)
  | _ => .stuck := rfl
@[simp] theorem ev_const : constE d s = .ok (d, s.st) := rfl
@[simp] theorem ev_bin {g : PyData → PyData → Option PyData} {fa fb : EvD} : bin2 g fa fb s = (fa s).bind fun p => (fb ⟨s.env, p.2⟩).bind fun q => ofOpt (g p.1 q.1) q.2 := rfl
@[simp] theorem ev_un {g : PyData → Option PyData} {fa : EvD} : un1 g fa s = (fa s).bind fun p => ofOpt (g p.1) p.2 := rfl
@[simp] theorem ev_isi {T : Ty} {fa : EvD} : isiE T fa s = (fa s).bind fun p => .ok (.bool (isiB T p.1), p.2) := rfl
@[simp] theorem ev_pureV {fa : EvD} : pureV fa s = (fa s).bind fun p => .ok (.pure p.1, p.2) := rfl
@[simp] theorem ev_and {fa fb : EvD} : andE fa fb s = (fa s).bind fun p => match p.1 with
  | .bool true => fb ⟨s.env, p.2⟩
  | .bool false => .ok (.bool false, p.2)
  | _ => .stuck := rfl
@[simp] theorem ev_or {fa fb : EvD} : orE fa fb s = (fa s).bind fun p => match p.1 with
  | .bool true => .ok (.bool true, p.2)
  | .bool false => fb ⟨s.env, p.2⟩
  | _ => .stuck := rfl
@[simp] theorem ev_not {fa : EvD} : notE fa s = (fa s).bind fun p => match p.1 with
  | .bool k => .ok (.bool (!k), p.2)
  | _ => .stuck := rfl
@[simp] theorem ev_neg {fa : EvD} : negE fa s = (fa s).bind fun p => match p.1 with
  | .int i => .ok (.int (-i), p.2)
  | _ => .stuck := rfl
@[simp] theorem ev_valT {fa : EvD} : valT fa s = (fa s).bind boolOf := rfl
@[simp] theorem ev_boolOf {k : Bool} : boolOf (.bool k, st) = .ok (k, st) := rfl
@[simp] theorem ev_cmpT {g : PyData → PyData → Option PyData} {fa fb : EvD} : cmpT g fa fb s = (bin2 g fa fb s).bind boolOf := rfl
@[simp] theorem ev_andT {f g : EvT} : andT f g s = (f s).bind fun p => if p.1 = true then g ⟨s.env, p.2⟩ else .ok (false, p.2) := rfl
@[simp] theorem ev_orT {f g : EvT} : orT f g s = (f s).bind fun p => if p.1 = true then .ok (true, p.2) else g ⟨s.env, p.2⟩ := rfl
@[simp] theorem ev_notT {f : EvT} : notT f s = (f s).bind fun p => .ok (!p.1, p.2) := rfl
@[simp] theorem ev_ite {t : EvT} {fa fb : EvD} : iteE t fa fb s = (t s).bind fun p => if p.1 = true then fa ⟨s.env, p.2⟩ else fb ⟨s.env, p.2⟩ := rfl
@[simp] theorem ev_nilA : nilA s = .ok ([], s.st) := rfl
@[simp] theorem ev_consA {fa : EvD} {f : EvA} : consA fa f s = (fa s).bind fun p => (f ⟨s.env, p.2⟩).bind fun q => .ok (.pure p.1 :: q.1, q.2) := rfl
@[simp] theorem ev_consV {fa : EvV} {f : EvA} : consV fa f s = (fa s).bind fun p => (f ⟨s.env, p.2⟩).bind fun q => .ok (p.1 :: q.1, q.2) := rfl
@[simp] theorem ev_consSlotA {f : EvA} : consSlotA i f ⟨env, st⟩ = match env[i]? with
  | some (some sv) => (f ⟨env, st⟩).bind fun q => .ok (sv :: q.1, q.2)
  | _ => .stuck := rfl
@[simp] theorem ev_yes : yesT s = .ok (true, s.st) := rfl
@[simp] theorem ev_chain {g g' : PyData → PyData → Option PyData} {fa fb fc : EvD} : chain2 g g' fa fb fc s = (fa s).bind fun p => (fb ⟨s.env, p.2⟩).bind fun q => match g p.1 q.1 with
  | some (.bool true) => (fc ⟨s.env, q.2⟩).bind fun r => ofOpt (g' q.1 r.1) r.2
  | some (.bool false) => .ok (.bool false, q.2)
  | _ => .stuck := rfl
@[simp] theorem ev_call {n : Nat} {F : FSem} {f : EvA} : callE n F f s = (f s).bind fun p => callS n F p.1 ⟨s.env, p.2⟩ := rfl
@[simp] theorem ev_ret {fa : EvV} {n : Nat} : retS fa n s = (fa s).bx s.env fun p => .ok (.ret p.1, ⟨s.env, p.2⟩) := rfl
@[simp] theorem ev_set {fa : EvV} {n : Nat} : setS i fa n s = (fa s).bx s.env fun p => .ok (.next, ⟨s.env.set i (some p.1), p.2⟩) := rfl
@[simp] theorem ev_if {t : EvT} {f g : EvS} {n : Nat} : ifS t f g n s = (t s).bx s.env fun p => if p.1 = true then f n ⟨s.env, p.2⟩ else g n ⟨s.env, p.2⟩ := rfl
@[simp] theorem ev_nilS {n : Nat} : nilS n s = .ok (.next, s) := rfl
@[simp] theorem ev_drop {fa : EvD} {n : Nat} : dropS fa n s = (fa s).bx s.env fun p => .ok (.next, ⟨s.env, p.2⟩) := rfl
theorem ev_seq {f g : EvS} {n : Nat} : seqS f g n s = match f n s with
  | .ok (.next, s1) => g n s1
  | .ok (fl, s1) => .ok (fl, s1)
  | .exc c s1 => .exc c s1
  | .stuck => .stuck := rfl
@[simp] theorem ev_lstOf {f : EvC} : lstOf f s = (f s).bind fun p => .ok (.list p.1, p.2) := rfl
@[simp] theorem ev_ownOf {f : EvC} : ownOf f s = (f s).bind fun p => .ok (newL p.2 p.1) := rfl
@[simp] theorem ev_tup {f : EvA} : tupE f s = (f s).bind fun p => match pureAll p.1 with
  | some ds => if ds.length ≤ 16777216 then .ok (.tuple ds, p.2) else .stuck
  | none => .stuck := rfl
@[simp] theorem ev_lst {f : EvA} : lstE f s = (f s).bind fun p => match pureAll p.1 with
  | some ds => if ds.length ≤ 16777216 then .ok (.list ds, p.2) else .stuck
  | none => .stuck := rfl
@[simp] theorem ev_par {j : Nat} {fa : EvA} {n : Nat} : parS i j fa n s = (fa s).bx s.env fun p => match p.1 with
  | [a, b] => .ok (.next, ⟨(s.env.set i (some a)).set j (some b), p.2⟩)
  | _ => .stuck := rfl
@[simp] theorem ev_asg2 {j : Nat} {fa : EvA} {n : Nat} : asg2S i j fa n s = (fa s).bx s.env fun p => match p.1 with
  | [a, b] => .ok (.next, ⟨(s.env.set i (some a)).set j (some b), p.2⟩)
  | _ => .stuck := rfl
@[simp] theorem pa_nil' : pureAll [] = some [] := rfl
@[simp] theorem pa_cons' {r : List SV} : pureAll (.pure d :: r) = (pureAll r).map (d :: ·) := rfl
theorem pa_pure : ∀ (ds : List PyData), pureAll (ds.map .pure) = some ds
  | [] => rfl
  | d :: ds => by rw [List.map_cons, pa_cons', pa_pure ds]; rfl
end
/-! ### the operators on known kinds -/
@[simp] theorem ltD_int (a b : Int) : ltD (.int a) (.int b) = some (.bool (decide (a < b))) := by
  simp [ltD, ordOk, alike, PyData.depth, dataLt_int]
@[simp] theorem gtD_int (a b : Int) : gtD (.int a) (.int b) = some (.bool (decide (b < a))) := by
  simp [gtD, ordOk, alike, PyData.depth, dataLt_int]
@[simp] theorem leD_int (a b : Int) : leD (.int a) (.int b) = some (.bool (decide (a ≤ b))) := by
  simp [leD, ordOk, alike, PyData.depth, dataLt_int, ← decide_not, Int.not_lt]
@[simp] theorem geD_int (a b : Int) : geD (.int a) (.int b) = some (.bool (decide (b ≤ a))) := by
  simp [geD, ordOk, alike, PyData.depth, dataLt_int, ← decide_not, Int.not_lt]
theorem min0 (a : Nat) : min 0 a = 0 := Nat.zero_min a
@[simp] theorem eqD_int (a b : Int) : eqD (.int a) (.int b) = some (.bool (decide (a = b))) := by
  simp [eqD, PyData.depth, PyData.eqv]
  first | done | rfl
@[simp] theorem neD_int (a b : Int) : neD (.int a) (.int b) = some (.bool (!decide (a = b))) := by
  simp [neD, PyData.depth, PyData.eqv]
  first | done | rfl
@[simp] theorem eqD_bool (a b : Bool) : eqD (.bool a) (.bool b) = some (.bool (a == b)) := by
  simp [eqD, PyData.depth, PyData.eqv]
@[simp] theorem neD_bool (a b : Bool) : neD (.bool a) (.bool b) = some (.bool (!(a == b))) := by
  simp [neD, PyData.depth, PyData.eqv]
@[simp] theorem eqD_list0 (ds : List PyData) : eqD (.list ds) (.list []) = some (.bool ds.isEmpty) := by
  cases ds <;> simp [eqD, PyData.depth, PyData.eqv, PyData.eqvAll, PyData.depthAll]
@[simp] theorem neD_list0 (ds : List PyData) : neD (.list ds) (.list []) = some (.bool (!ds.isEmpty)) := by
  cases ds <;> simp [neD, PyData.depth, PyData.eqv, PyData.eqvAll, PyData.depthAll]
@[simp] theorem addD_int (a b : Int) : addD (.int a) (.int b) = some (.int (a + b)) := rfl
@[simp] theorem subD_int (a b : Int) : subD (.int a) (.int b) = some (.int (a - b)) := rfl
theorem mulD_int {a b : Int} (h : -(2 ^ 64) < b ∧ b < 2 ^ 64) : mulD (.int a) (.int b) = some (.int (a * b)) := by
  exact if_pos (.inr h)
theorem mulD_int' {a b : Int} (h : -(2 ^ 64) < a ∧ a < 2 ^ 64) : mulD (.int a) (.int b) = some (.int (a * b)) := by
  exact if_pos (.inl h)
theorem modD_int {a b : Int} (h : 0 < b) : modD (.int a) (.int b) = some (.int (a % b)) := by
  exact if_pos h
theorem fdivD_int {a b : Int} (h : 0 < b) (h2 : b < 1073741824) : fdivD (.int a) (.int b) = some (.int (a / b)) := by
  exact if_pos ⟨h, h2⟩
@[simp] theorem intD_int (a : Int) : intD (.int a) = some (.int a) := rfl
@[simp] theorem intD_bool (a : Bool) : intD (.bool a) = some (.int (if a then 1 else 0)) := rfl
@[simp] theorem lenD_list (ds : List PyData) : lenD (.list ds) = some (.int ds.length) := rfl
@[simp] theorem lenD_tuple (ds : List PyData) : lenD (.tuple ds) = some (.int ds.length) := rfl
@[simp] theorem tupleD_list (ds : List PyData) : tupleD (.list ds) = some (.tuple ds) := rfl
@[simp] theorem absD_int (a : Int) : absD (.int a) = some (.int (if a < 0 then -a else a)) := rfl
theorem itemD_list {ds : List PyData} {i : Nat} : itemD (.list ds) (.int i) = ds[i]? := by
  unfold itemD
  simp only [atI, ixN]
  by_cases h : i < ds.length
  · simp [h]
  · simp [h]
theorem itemD_tuple {ds : List PyData} {i : Nat} : itemD (.tuple ds) (.int i) = ds[i]? := by
  unfold itemD
  simp only [atI, ixN]
  by_cases h : i < ds.length
  · simp [h]
  · simp [h]
/-! ### calls -/
theorem envOf_eq (N : Nat) (svs : List SV) : DL.envOf N svs = svs.map some ++ List.replicate (N - svs.length) none := rfl
theorem callS_pure {n : Nat} {F : FSem} {ds : List PyData} {s : S} {d : PyData} {st' : Sto} (h : ds.length = n) (hF : F (ds.map .pure) [] = .ok (d, st')) : callS n F (ds.map .pure) s = .ok (d, s.st) := by
  have hi : idsOf (ds.map SV.pure) = [] := by
    clear hF h
    induction ds with
    | nil => rfl
    | cons d ds ih => exact ih
  have hm : (ds.map SV.pure).map (renum []) = ds.map SV.pure := by
    rw [List.map_map]
    rfl
  unfold callS
  rw [hi, if_pos ⟨by simpa using h, List.nodup_nil⟩]
  simp only [gather, hm, hF]
  cases st' <;> rfl
theorem call1 {F : FSem} {a : PyData} {env : List (Option SV)} {st st' : Sto} {d : PyData} (hF : F [.pure a] [] = .ok (d, st')) : callS 1 F [.pure a] ⟨env, st⟩ = .ok (d, st) := callS_pure (ds := [a]) rfl hF
theorem call2 {F : FSem} {a b : PyData} {env : List (Option SV)} {st st' : Sto} {d : PyData} (hF : F [.pure a, .pure b] [] = .ok (d, st')) : callS 2 F [.pure a, .pure b] ⟨env, st⟩ = .ok (d, st) := callS_pure (ds := [a, b]) rfl hF
theorem call3 {F : FSem} {a b c : PyData} {env : List (Option SV)} {st st' : Sto} {d : PyData} (hF : F [.pure a, .pure b, .pure c] [] = .ok (d, st')) : callS 3 F [.pure a, .pure b, .pure c] ⟨env, st⟩ = .ok (d, st) := callS_pure (ds := [a, b, c]) rfl hF
/-- the first argument an own object -/
theorem callO2 {F : FSem} {j : Nat} {b : PyData} {o o' : O} {env : List (Option SV)} {st : Sto} {d : PyData} (hj : st[j]? = some o) (hF : F [.obj 0, .pure b] [o] = .ok (d, [o'])) : callS 2 F [.obj j, .pure b] ⟨env, st⟩ = .ok (d, st.set j o') := by
  unfold callS
  rw [if_pos ⟨rfl, by simp [idsOf]⟩]
  have hr : renum [j] (.obj j) = .obj 0 := by
    show SV.obj ([j].idxOf j) = _
    rw [List.idxOf_cons_self]
  have hg : gather st [j] = some [o] := by
    simp [gather, hj]
  simp only [idsOf, hg, List.map_cons, List.map_nil, hr]
  show (match F [.obj 0, .pure b] [o] with | .ok p => _ | .exc c s' => _ | .stuck => _) = _
  rw [hF]
  rfl
/-! ### loops by what stays true -/
theorem forL_inv {g : GS} {body : EvS} {ws : List Nat} (I : Nat → S → Prop) : ∀ (ds : List PyData) (i : Nat) (s : S), I i s →
    (∀ k d s, ds[k]? = some d → I (i + k) s → ∃ e1 s', g d s.env = some e1 ∧ (body s.st.length ⟨e1, s.st⟩ = .ok (.next, s') ∨ body s.st.length ⟨e1, s.st⟩ = .ok (.cont, s')) ∧ I (i + k + 1) (wipeS ws s.st.length s')) →
    ∃ s', forL g body ws ds s = .ok (.next, s') ∧ I (i + ds.length) s'
  | [], i, s, h0, _ => ⟨s, rfl, h0⟩
  | d :: ds, i, s, h0, h => by
    obtain ⟨e1, s1, q1, q2, q3⟩ := h 0 d s rfl h0
    obtain ⟨s', r1, r2⟩ := forL_inv I ds (i + 1) (wipeS ws s.st.length s1) q3 (fun k d s hk hI => by
      have hI' : I (i + (k + 1)) s := by rw [show i + (k + 1) = i + 1 + k from by omega]; exact hI
      have z := h (k + 1) d s (by simpa using hk) hI'
      rw [show i + (k + 1) + 1 = i + 1 + k + 1 from by omega] at z
      exact z)
    refine ⟨s', ?_, by rw [List.length_cons, show i + (ds.length + 1) = i + 1 + ds.length from by omega]; exact r2⟩
    unfold forL
    rw [q1]
    rcases q2 with q2 | q2
    all_goals
      simp only [q2]
      exact r1
/-! ### what holds behind a statement -/
/-- a structure, not a match: nothing that looks at a goal may run what is read -/
structure OkS (r : RS) (Q : Fl → S → Prop) : Prop where
  get : ∃ fl s, r = .ok (fl, s) ∧ Q fl s
theorem OkS.of {p : Fl × S} {Q : Fl → S → Prop} (h : Q p.1 p.2) : OkS (.ok p) Q := ⟨⟨p.1, p.2, rfl, h⟩⟩
@[simp] theorem okS_ok {p : Fl × S} {Q : Fl → S → Prop} : OkS (.ok p) Q ↔ Q p.1 p.2 := ⟨fun h => by
  obtain ⟨fl, s, e, q⟩ := h.get
  cases e
  exact q, .of⟩
theorem OkS.mono {r : RS} {Q Q' : Fl → S → Prop} (h : OkS r Q) (hq : ∀ fl s, Q fl s → Q' fl s) : OkS r Q' := by
  obtain ⟨fl, s, e, q⟩ := h.get
  exact ⟨⟨fl, s, e, hq _ _ q⟩⟩
/-- behind f: next goes on, all else ends -/
def thenS (g : EvS) (n : Nat) (Q : Fl → S → Prop) (fl : Fl) (s : S) : Prop := match fl with
  | .next => OkS (g n s) Q
  | fl => Q fl s
@[simp] theorem thenS_next {g : EvS} {n : Nat} {Q : Fl → S → Prop} {s : S} : thenS g n Q .next s = OkS (g n s) Q := rfl
@[simp] theorem thenS_ret {g : EvS} {n : Nat} {Q : Fl → S → Prop} {s : S} {sv : SV} : thenS g n Q (.ret sv) s = Q (.ret sv) s := rfl
@[simp] theorem thenS_brk {g : EvS} {n : Nat} {Q : Fl → S → Prop} {s : S} : thenS g n Q .brk s = Q .brk s := rfl
@[simp] theorem thenS_cont {g : EvS} {n : Nat} {Q : Fl → S → Prop} {s : S} : thenS g n Q .cont s = Q .cont s := rfl
theorem okS_seq {f g : EvS} {n : Nat} {s : S} {Q : Fl → S → Prop} (h : OkS (f n s) (thenS g n Q)) : OkS (seqS f g n s) Q := by
  obtain ⟨fl, s1, e, q⟩ := h.get
  rw [ev_seq, e]
  cases fl
  · exact q
  all_goals exact .of q
theorem okS_for {fi : EvI} {iv : IVal} {st : Sto} {g : GS} {body : EvS} {ws : List Nat} {n : Nat} {s : S} {ds : List PyData} {Q : Fl → S → Prop} (I : Nat → S → Prop) (e : fi s = .ok (iv, st)) (hi : Items iv ds) (h0 : I 0 ⟨s.env, st⟩)
    (step : ∀ k d s, ds[k]? = some d → I k s → ∃ e1, g d s.env = some e1 ∧ OkS (body s.st.length ⟨e1, s.st⟩) fun fl s' => match fl with
      | .next => I (k + 1) (wipeS ws s.st.length s')
      | .cont => I (k + 1) (wipeS ws s.st.length s')
      | .brk => Q .next s'
      | .ret sv => Q (.ret sv) s') (hq : ∀ s', I ds.length s' → Q .next s') : OkS (forS fi g body ws n s) Q := by
  rw [forS_items e hi]
  have key : ∀ (ds' : List PyData) (i : Nat) (s : S), I i s → (∀ k d, ds'[k]? = some d → ds[i + k]? = some d) → i + ds'.length = ds.length → OkS (forL g body ws ds' s) Q := by
    intro ds'
    induction ds' with
    | nil => intro i s hI _ hl; exact .of (p := (.next, s)) (hq s (by rw [← hl]; exact hI))
    | cons d r ih =>
      intro i s hI hd hl
      obtain ⟨e1, eg, ok⟩ := step i d s (hd 0 d rfl) hI
      obtain ⟨fl, s1, e, q⟩ := ok.get
      unfold forL
      rw [eg]
      simp only [e]
      have next : I (i + 1) (wipeS ws s.st.length s1) → OkS (forL g body ws r (wipeS ws s.st.length s1)) Q := fun hI => ih (i + 1) _ hI (fun k d hk => by
        have := hd (k + 1) d (by simpa using hk)
        rwa [show i + (k + 1) = i + 1 + k from by omega] at this) (by simp at hl; omega)
      cases fl with
      | next => exact next q
      | cont => exact next q
      | brk => exact .of (p := (.next, s1)) q
      | ret sv => exact .of (p := (.ret sv, s1)) q
  exact key ds 0 _ h0 (fun k d h => by simpa using h) (by simp)
theorem runF_ok {N : Nat} {body : EvS} {svs : List SV} {objs : Sto} {r : RE} (h : OkS (body objs.length ⟨DL.envOf N svs, objs⟩) fun fl s' => endF objs.length (.ok (fl, s')) = r) : DL.runF N body svs objs = r := by
  obtain ⟨fl, s', e, q⟩ := h.get
  unfold DL.runF
  rw [e]
  exact q
theorem runN_ok {N : Nat} {body : EvS} {svs : List SV} {objs : Sto} {P : RE → Prop} (h : OkS (body objs.length ⟨DL.envOf N svs, objs⟩) fun fl s' => P (endN objs.length (.ok (fl, s')))) : P (DL.runN N body svs objs) := by
  obtain ⟨fl, s', e, q⟩ := h.get
  unfold DL.runN
  rw [e]
  exact q
theorem runF_P {N : Nat} {body : EvS} {svs : List SV} {objs : Sto} {P : RE → Prop} (h : OkS (body objs.length ⟨DL.envOf N svs, objs⟩) fun fl s' => P (endF objs.length (.ok (fl, s')))) : P (DL.runF N body svs objs) := by
  obtain ⟨fl, s', e, q⟩ := h.get
  unfold DL.runF
  rw [e]
  exact q
@[simp] theorem keep_none {n : Nat} : keepSV n none = none := rfl
@[simp] theorem keep_pure {n : Nat} {d : PyData} : keepSV n (some (.pure d)) = some (.pure d) := rfl
@[simp] theorem keep_scr {n : Nat} {d : List PyData} : keepSV n (some (.scr d)) = some (.scr d) := rfl
@[simp] theorem keep_obj {n j : Nat} : keepSV n (some (.obj j)) = if j < n then some (.obj j) else none := rfl
theorem appE_ok {i j : Nat} {ds : List PyData} {x : PyData} {env : List (Option SV)} {st : Sto} {fe : EvD} (h1 : env[i]? = some (some (.obj j))) (h2 : st[j]? = some (.lst ds)) (hf : fe ⟨env, st⟩ = .ok (x, st)) (hl : ds.length < 16777216) :
    appE i fe ⟨env, st⟩ = .ok (.none, st.set j (.lst (ds ++ [x]))) := by
  simp [appE, objAt, h1, h2, hf, isLst, hl]
/-! ### comprehensions whose parts change nothing -/
theorem compL_eq {g : GS} {ft : EvT} {fe : EvD} {env : List (Option SV)} {st : Sto} (e1 : PyData → List (Option SV)) (p : PyData → Bool) (h : PyData → PyData) : ∀ ds : List PyData,
    (∀ d ∈ ds, g d env = some (e1 d) ∧ ft ⟨e1 d, st⟩ = .ok (p d, st) ∧ (p d = true → fe ⟨e1 d, st⟩ = .ok (h d, st))) → compL g ft fe env ds st = .ok ((ds.filter p).map h, st)
  | [], _ => rfl
  | d :: ds, H => by
    obtain ⟨h1, h2, h3⟩ := H d List.mem_cons_self
    have ih := compL_eq e1 p h ds fun x hx => H x (List.mem_cons_of_mem _ hx)
    unfold compL
    rw [h1]
    simp only [h2]
    cases hp : p d with
    | false => simp [ih, hp]
    | true => simp only [h3 hp]; simp [ih, hp]
theorem quantL_all {g : GS} {ft : EvT} {fe : EvD} {env : List (Option SV)} {st : Sto} (e1 : PyData → List (Option SV)) (p : PyData → Bool) : ∀ ds : List PyData,
    (∀ d ∈ ds, g d env = some (e1 d) ∧ ft ⟨e1 d, st⟩ = .ok (true, st) ∧ fe ⟨e1 d, st⟩ = .ok (.bool (p d), st)) → quantL false g ft fe env ds st = .ok (ds.all p, st)
  | [], _ => rfl
  | d :: ds, H => by
    obtain ⟨h1, h2, h3⟩ := H d List.mem_cons_self
    have ih := quantL_all e1 p ds fun x hx => H x (List.mem_cons_of_mem _ hx)
    unfold quantL
    rw [h1]
    simp only [h2, h3]
    cases hp : p d with
    | false => simp [hp]
    | true => simp [ih, hp]
theorem quantL_any {g : GS} {ft : EvT} {fe : EvD} {env : List (Option SV)} {st : Sto} (e1 : PyData → List (Option SV)) (p : PyData → Bool) : ∀ ds : List PyData,
    (∀ d ∈ ds, g d env = some (e1 d) ∧ ft ⟨e1 d, st⟩ = .ok (true, st) ∧ fe ⟨e1 d, st⟩ = .ok (.bool (p d), st)) → quantL true g ft fe env ds st = .ok (ds.any p, st)
  | [], _ => rfl
  | d :: ds, H => by
    obtain ⟨h1, h2, h3⟩ := H d List.mem_cons_self
    have ih := quantL_any e1 p ds fun x hx => H x (List.mem_cons_of_mem _ hx)
    unfold quantL
    rw [h1]
    simp only [h2, h3]
    cases hp : p d with
    | true => simp [hp]
    | false => simp [ih, hp]
theorem intsFrom_eq : ∀ (n : Nat) (lo : Int), intsFrom lo n = (List.range n).map fun i => PyData.int (lo + (i : Nat))
  | 0, _ => rfl
  | n + 1, lo => by
    rw [List.range_succ_eq_map, List.map_cons, List.map_map, intsFrom, intsFrom_eq n (lo + 1)]
    congr 1
    · simp
    · apply List.map_congr_left
      intro i _
      simp only [Function.comp]
      congr 1
      push_cast
      omega
theorem mem_ints {n : Nat} {lo : Int} {d : PyData} : d ∈ intsFrom lo n ↔ ∃ i : Nat, i < n ∧ d = .int (lo + i) := by
  rw [intsFrom_eq, List.mem_map]
  constructor
  · rintro ⟨i, h, rfl⟩; exact ⟨i, List.mem_range.mp h, rfl⟩
  · rintro ⟨i, h, rfl⟩; exact ⟨i, List.mem_range.mpr h, rfl⟩
theorem mem_ints0 {n : Nat} {d : PyData} : d ∈ intsFrom 0 n ↔ ∃ i : Nat, i < n ∧ d = .int i := by
  rw [mem_ints]
  simp
/-- a test -/
theorem okS_if {t : EvT} {f g : EvS} {n : Nat} {s : S} {b : Bool} {st : Sto} {Q : Fl → S → Prop} (ht : t s = .ok (b, st)) (h : OkS ((if b = true then f else g) n ⟨s.env, st⟩) Q) : OkS (ifS t f g n s) Q := by
  rw [ev_if, ht]
  simp only [Res.bx_ok]
  cases b <;> exact h
theorem okS_ret {fa : EvV} {n : Nat} {s : S} {sv : SV} {st : Sto} {Q : Fl → S → Prop} (h : fa s = .ok (sv, st)) (hq : Q (.ret sv) ⟨s.env, st⟩) : OkS (retS fa n s) Q := by
  rw [ev_ret, h]
  exact .of (p := (.ret sv, ⟨s.env, st⟩)) hq
theorem okS_set {i : Nat} {fa : EvV} {n : Nat} {s : S} {sv : SV} {st : Sto} {Q : Fl → S → Prop} (h : fa s = .ok (sv, st)) (hq : Q .next ⟨s.env.set i (some sv), st⟩) : OkS (setS i fa n s) Q := by
  rw [ev_set, h]
  exact .of (p := (.next, ⟨s.env.set i (some sv), st⟩)) hq
theorem okS_nil {n : Nat} {s : S} {Q : Fl → S → Prop} (h : Q .next s) : OkS (nilS n s) Q := .of (p := (.next, s)) h
theorem okS_ifT {t : EvT} {f g : EvS} {n : Nat} {s : S} {st : Sto} {Q : Fl → S → Prop} (ht : t s = .ok (true, st)) (h : OkS (f n ⟨s.env, st⟩) Q) : OkS (ifS t f g n s) Q := okS_if ht h
theorem okS_ifF {t : EvT} {f g : EvS} {n : Nat} {s : S} {st : Sto} {Q : Fl → S → Prop} (ht : t s = .ok (false, st)) (h : OkS (g n ⟨s.env, st⟩) Q) : OkS (ifS t f g n s) Q := okS_if ht h
/-- a test that ends or goes on -/
theorem okS_not {t : EvT} {f : EvS} {n : Nat} {s : S} {st : Sto} {g : EvS} {Q : Fl → S → Prop} (ht : t s = .ok (false, st)) (h : OkS (g n ⟨s.env, st⟩) Q) : OkS (seqS (ifS t f nilS) g n s) Q :=
  okS_seq (okS_ifF ht (okS_nil h))
/-! ### the walked things as rules -/
section
variable {fa fb : EvD} {s : S} {st st1 : Sto} {j : Int} {n : Nat}
theorem small_nat (h : n ≤ 1000000000) : small62 (n : Int) := by unfold small62; omega
theorem range1_ok (h : fa s = .ok (.int j, st)) (hj : small62 j) : range1I fa s = .ok (rangeIV 0 j.toNat, st) := by
  unfold range1I
  rw [h]
  exact if_pos hj
theorem range1_nat (h : fa s = .ok (.int (n : Int), st)) (hj : n ≤ 1000000000) : range1I fa s = .ok (rangeIV 0 n, st) := range1_ok h (small_nat hj)
theorem range2_ok {i : Int} (h : fa s = .ok (.int i, st1)) (h2 : fb ⟨s.env, st1⟩ = .ok (.int j, st)) (hi : small62 i) (hj : small62 j) : range2I fa fb s = .ok (rangeIV i (j - i).toNat, st) := by
  unfold range2I
  rw [h]
  simp only [Res.bind_ok, h2]
  exact if_pos ⟨hi, hj⟩
theorem rangeD_ok {i : Int} (h : fa s = .ok (.int i, st1)) (h2 : fb ⟨s.env, st1⟩ = .ok (.int j, st)) (hi : small62 i) (hj : small62 j) : rangeDI fa fb s = .ok (rangeCIV i (-1) (i - j).toNat, st) := by
  unfold rangeDI
  rw [h]
  simp only [Res.bind_ok, h2]
  exact if_pos ⟨hi, hj⟩
/-- a comprehension over 0 .. n - 1 whose parts change nothing -/
theorem comp_range {vs : List Nat} {g : GS} {ft : EvT} {fe : EvD} (e1 : PyData → List (Option SV)) (p : PyData → Bool) (h : PyData → PyData) (ef : fa s = .ok (.int (n : Int), st)) (hn : n ≤ 16777216)
    (H : ∀ i : Nat, i < n → g (.int i) (wipeL s.env vs) = some (e1 (.int i)) ∧ ft ⟨e1 (.int i), st⟩ = .ok (p (.int i), st) ∧ (p (.int i) = true → fe ⟨e1 (.int i), st⟩ = .ok (h (.int i), st))) :
    compC (range1I fa) vs g ft fe s = .ok ((((List.range n).map fun i => PyData.int (i : Nat)).filter p).map h, st) := by
  rw [compC_items (range1_nat ef (by omega)) (items_range _ _) (by rw [intsFrom_len]; exact hn), compL_eq e1 p h]
  · rw [intsFrom_eq]
    simp only [Int.zero_add]
  · intro d hd
    obtain ⟨i, hi, rfl⟩ := mem_ints0.mp hd
    exact H i hi
theorem seq_lst {ds : List PyData} (h : fa s = .ok (.list ds, st)) : seqI (froR fa) s = .ok (seqIV ⟨true, fun _ => some ds⟩, st) := by
  unfold seqI froR
  rw [h]
  rfl
theorem seq_tup {ds : List PyData} (h : fa s = .ok (.tuple ds, st)) : seqI (froR fa) s = .ok (seqIV ⟨false, fun _ => some ds⟩, st) := by
  unfold seqI froR
  rw [h]
  rfl
theorem comp_seq {k : Bool} {fi : EvI} {ds : List PyData} {vs : List Nat} {g : GS} {ft : EvT} {fe : EvD} (e1 : PyData → List (Option SV)) (p : PyData → Bool) (h : PyData → PyData) (ef : fi s = .ok (seqIV ⟨k, fun _ => some ds⟩, st)) (hn : ds.length ≤ 16777216)
    (H : ∀ d ∈ ds, g d (wipeL s.env vs) = some (e1 d) ∧ ft ⟨e1 d, st⟩ = .ok (p d, st) ∧ (p d = true → fe ⟨e1 d, st⟩ = .ok (h d, st))) : compC fi vs g ft fe s = .ok ((ds.filter p).map h, st) := by
  rw [compC_items ef (items_seq _ _) hn, compL_eq e1 p h ds H]
theorem all_range {vs : List Nat} {g : GS} {ft : EvT} {fe : EvD} (e1 : PyData → List (Option SV)) (p : PyData → Bool) (ef : fa s = .ok (.int (n : Int), st)) (hn : n ≤ 1000000000)
    (H : ∀ i : Nat, i < n → g (.int i) (wipeL s.env vs) = some (e1 (.int i)) ∧ ft ⟨e1 (.int i), st⟩ = .ok (true, st) ∧ fe ⟨e1 (.int i), st⟩ = .ok (.bool (p (.int i)), st)) :
    quantE false (range1I fa) vs g ft fe s = .ok (.bool (((List.range n).map fun i => PyData.int (i : Nat)).all p), st) := by
  rw [quantE_items (range1_nat ef hn) (items_range _ _), quantL_all e1 p]
  · rw [intsFrom_eq]
    simp only [Int.zero_add, Res.bind_ok]
  · intro d hd
    obtain ⟨i, hi, rfl⟩ := mem_ints0.mp hd
    exact H i hi
theorem all_seq {k : Bool} {fi : EvI} {ds : List PyData} {vs : List Nat} {g : GS} {ft : EvT} {fe : EvD} (e1 : PyData → List (Option SV)) (p : PyData → Bool) (ef : fi s = .ok (seqIV ⟨k, fun _ => some ds⟩, st))
    (H : ∀ d ∈ ds, g d (wipeL s.env vs) = some (e1 d) ∧ ft ⟨e1 d, st⟩ = .ok (true, st) ∧ fe ⟨e1 d, st⟩ = .ok (.bool (p d), st)) : quantE false fi vs g ft fe s = .ok (.bool (ds.all p), st) := by
  rw [quantE_items ef (items_seq _ _), quantL_all e1 p ds H]
  rfl
theorem any_seq {k : Bool} {fi : EvI} {ds : List PyData} {vs : List Nat} {g : GS} {ft : EvT} {fe : EvD} (e1 : PyData → List (Option SV)) (p : PyData → Bool) (ef : fi s = .ok (seqIV ⟨k, fun _ => some ds⟩, st))
    (H : ∀ d ∈ ds, g d (wipeL s.env vs) = some (e1 d) ∧ ft ⟨e1 d, st⟩ = .ok (true, st) ∧ fe ⟨e1 d, st⟩ = .ok (.bool (p d), st)) : quantE true fi vs g ft fe s = .ok (.bool (ds.any p), st) := by
  rw [quantE_items ef (items_seq _ _), quantL_any e1 p ds H]
  rfl
end
/-! ### step by step: nothing here asks the kernel to unfold a reading -/
section
variable {env : List (Option SV)} {st st1 st2 : Sto} {fa fb fc : EvD} {a b d : PyData} {g g' : PyData → PyData → Option PyData}
theorem o_bin (h1 : fa ⟨env, st⟩ = .ok (a, st1)) (h2 : fb ⟨env, st1⟩ = .ok (b, st2)) (h : g a b = some d) : bin2 g fa fb ⟨env, st⟩ = .ok (d, st2) := by
  unfold bin2
  rw [h1]
  simp only [Res.bind_ok, h2, h, ofOpt_some]
theorem o_un {g : PyData → Option PyData} (h1 : fa ⟨env, st⟩ = .ok (a, st1)) (h : g a = some d) : un1 g fa ⟨env, st⟩ = .ok (d, st1) := by
  unfold un1
  rw [h1]
  simp only [Res.bind_ok, h, ofOpt_some]
theorem o_andT {r : RE} (h1 : fa ⟨env, st⟩ = .ok (.bool true, st1)) (h2 : fb ⟨env, st1⟩ = r) : andE fa fb ⟨env, st⟩ = r := by
  unfold andE
  rw [h1]
  exact h2
theorem o_andF (h1 : fa ⟨env, st⟩ = .ok (.bool false, st1)) : andE fa fb ⟨env, st⟩ = .ok (.bool false, st1) := by
  unfold andE
  rw [h1]
  rfl
theorem o_orF {r : RE} (h1 : fa ⟨env, st⟩ = .ok (.bool false, st1)) (h2 : fb ⟨env, st1⟩ = r) : orE fa fb ⟨env, st⟩ = r := by
  unfold orE
  rw [h1]
  exact h2
theorem o_orT (h1 : fa ⟨env, st⟩ = .ok (.bool true, st1)) : orE fa fb ⟨env, st⟩ = .ok (.bool true, st1) := by
  unfold orE
  rw [h1]
  rfl
theorem o_not {k : Bool} (h1 : fa ⟨env, st⟩ = .ok (.bool k, st1)) : notE fa ⟨env, st⟩ = .ok (.bool (!k), st1) := by
  unfold notE
  rw [h1]
  rfl
theorem o_val {k : Bool} (h1 : fa ⟨env, st⟩ = .ok (.bool k, st1)) : valT fa ⟨env, st⟩ = .ok (k, st1) := by
  unfold valT
  rw [h1]
  rfl
theorem o_cmp {k : Bool} (h1 : fa ⟨env, st⟩ = .ok (a, st1)) (h2 : fb ⟨env, st1⟩ = .ok (b, st2)) (h : g a b = some (.bool k)) : cmpT g fa fb ⟨env, st⟩ = .ok (k, st2) := o_val (o_bin h1 h2 h)
theorem o_notT {t : EvT} {k : Bool} (h1 : t ⟨env, st⟩ = .ok (k, st1)) : notT t ⟨env, st⟩ = .ok (!k, st1) := by
  unfold notT
  rw [h1]
  rfl
theorem o_andTT {t t' : EvT} {r : RT} (h1 : t ⟨env, st⟩ = .ok (true, st1)) (h2 : t' ⟨env, st1⟩ = r) : andT t t' ⟨env, st⟩ = r := by
  unfold andT
  rw [h1]
  exact h2
theorem o_andTF {t t' : EvT} (h1 : t ⟨env, st⟩ = .ok (false, st1)) : andT t t' ⟨env, st⟩ = .ok (false, st1) := by
  unfold andT
  rw [h1]
  rfl
theorem o_orTF {t t' : EvT} {r : RT} (h1 : t ⟨env, st⟩ = .ok (false, st1)) (h2 : t' ⟨env, st1⟩ = r) : orT t t' ⟨env, st⟩ = r := by
  unfold orT
  rw [h1]
  exact h2
theorem o_orTT {t t' : EvT} (h1 : t ⟨env, st⟩ = .ok (true, st1)) : orT t t' ⟨env, st⟩ = .ok (true, st1) := by
  unfold orT
  rw [h1]
  rfl
theorem o_list {f : EvC} {ds : List PyData} (h : f ⟨env, st⟩ = .ok (ds, st1)) : lstOf f ⟨env, st⟩ = .ok (.list ds, st1) := by
  unfold lstOf
  rw [h]
  rfl
theorem o_own {f : EvC} {ds : List PyData} (h : f ⟨env, st⟩ = .ok (ds, st1)) : ownOf f ⟨env, st⟩ = .ok (.obj st1.length, st1 ++ [.lst ds]) := by
  unfold ownOf
  rw [h]
  rfl
theorem o_pure (h : fa ⟨env, st⟩ = .ok (a, st1)) : pureV fa ⟨env, st⟩ = .ok (.pure a, st1) := by
  unfold pureV
  rw [h]
  rfl
theorem o_nil : lstE nilA ⟨env, st⟩ = .ok (.list [], st) := by
  unfold lstE
  simp [pureAll]
theorem o_call {n : Nat} {F : FSem} {f : EvA} {svs : List SV} {r : RE} (h : f ⟨env, st⟩ = .ok (svs, st1)) (hc : callS n F svs ⟨env, st1⟩ = r) : callE n F f ⟨env, st⟩ = r := by
  unfold callE
  rw [h]
  exact hc
theorem o_iteT {t : EvT} {r : RE} (h1 : t ⟨env, st⟩ = .ok (true, st1)) (h2 : fa ⟨env, st1⟩ = r) : iteE t fa fb ⟨env, st⟩ = r := by
  unfold iteE
  rw [h1]
  exact h2
theorem o_iteF {t : EvT} {r : RE} (h1 : t ⟨env, st⟩ = .ok (false, st1)) (h2 : fb ⟨env, st1⟩ = r) : iteE t fa fb ⟨env, st⟩ = r := by
  unfold iteE
  rw [h1]
  exact h2
end
end DL
end
section
set_option Elab.async false
set_option linter.all false
set_option maxRecDepth 100000
set_option maxHeartbeats 1000000
/-! The data layer, part w: rules for the plain side, backwards: what a reading answers, one rule for each combinator. -/
namespace DL
open PySem PySem.Spec PyProof.Rows L2 PySem.W
section
variable {env env1 env2 : List (Option SV)} {st st1 st2 st3 : Sto} {fa fb fc : EvD} {a b c d x y : PyData} {g g' : PyData → PyData → Option PyData} {k l : Bool} {i j n : Nat}
/-! ### values -/
theorem e_slot (h : env[i]? = some (some (.pure d))) : slotE i ⟨env, st⟩ = .ok (d, st) := by
  unfold slotE; simp only [h]
theorem e_slotV {sv : SV} (h : env[i]? = some (some sv)) : slotV i ⟨env, st⟩ = .ok (sv, st) := by
  unfold slotV; simp only [h]
theorem e_cur {ds : List PyData} (h : env[i]? = some (some (.obj j))) (h2 : st[j]? = some (.lst ds)) : curE i ⟨env, st⟩ = .ok (.list ds, st) := by
  unfold curE; simp only [h, h2]
theorem e_curS {ds : List PyData} (h : env[i]? = some (some (.scr ds))) : curE i ⟨env, st⟩ = .ok (.list ds, st) := by
  unfold curE; simp only [h]
theorem e_const : constE d ⟨env, st⟩ = .ok (d, st) := rfl
theorem e_bin (h1 : fa ⟨env, st⟩ = .ok (a, st1)) (h2 : fb ⟨env, st1⟩ = .ok (b, st2)) (h : g a b = some d) : bin2 g fa fb ⟨env, st⟩ = .ok (d, st2) := o_bin h1 h2 h
theorem e_un {g : PyData → Option PyData} (h1 : fa ⟨env, st⟩ = .ok (a, st1)) (h : g a = some d) : un1 g fa ⟨env, st⟩ = .ok (d, st1) := o_un h1 h
theorem e_isi {T : Ty} (h1 : fa ⟨env, st⟩ = .ok (a, st1)) (h : isiB T a = k) : isiE T fa ⟨env, st⟩ = .ok (.bool k, st1) := by
  subst h; exact o_un h1 rfl
theorem e_chain (h1 : fa ⟨env, st⟩ = .ok (a, st1)) (h2 : fb ⟨env, st1⟩ = .ok (b, st2)) (h : g a b = some (.bool k)) (h3 : fc ⟨env, st2⟩ = .ok (c, st2)) (h4 : g' b c = some (.bool l)) : chain2 g g' fa fb fc ⟨env, st⟩ = .ok (.bool (k && l), st2) := by
  unfold chain2; rw [h1]; simp only [Res.bind_ok, h2, h]
  cases k
  · simp
  · simp [h3, h4]
theorem e_and (h1 : fa ⟨env, st⟩ = .ok (.bool k, st1)) (h2 : k = true → fb ⟨env, st1⟩ = .ok (.bool l, st1)) : andE fa fb ⟨env, st⟩ = .ok (.bool (k && l), st1) := by
  cases k
  · exact o_andF h1
  · exact o_andT h1 (h2 rfl)
theorem e_or (h1 : fa ⟨env, st⟩ = .ok (.bool k, st1)) (h2 : k = false → fb ⟨env, st1⟩ = .ok (.bool l, st1)) : orE fa fb ⟨env, st⟩ = .ok (.bool (k || l), st1) := by
  cases k
  · exact o_orF h1 (h2 rfl)
  · exact o_orT h1
theorem e_not (h1 : fa ⟨env, st⟩ = .ok (.bool k, st1)) : notE fa ⟨env, st⟩ = .ok (.bool (!k), st1) := o_not h1
theorem e_neg {z : Int} (h1 : fa ⟨env, st⟩ = .ok (.int z, st1)) : negE fa ⟨env, st⟩ = .ok (.int (-z), st1) := by
  unfold negE; rw [h1]; rfl
theorem e_ite {t : EvT} (h1 : t ⟨env, st⟩ = .ok (k, st1)) (h2 : k = true → fa ⟨env, st1⟩ = .ok (x, st1)) (h3 : k = false → fb ⟨env, st1⟩ = .ok (y, st1)) : iteE t fa fb ⟨env, st⟩ = .ok (cond k x y, st1) := by
  cases k
  · exact o_iteF h1 (h3 rfl)
  · exact o_iteT h1 (h2 rfl)
theorem e_slice {fl fh : S → Res (Option Int × Sto)} {lo hi : Option Int} (h1 : fa ⟨env, st⟩ = .ok (a, st1)) (h2 : fl ⟨env, st1⟩ = .ok (lo, st2)) (h3 : fh ⟨env, st2⟩ = .ok (hi, st3)) (h : sliceD a lo hi = some d) : sliceE fa fl fh ⟨env, st⟩ = .ok (d, st3) := by
  unfold sliceE; rw [h1]; simp only [Res.bind_ok, h2, h3, h, ofOpt_some]
theorem o_none' : noneO ⟨env, st⟩ = .ok (none, st) := rfl
theorem o_some' {z : Int} (h : fa ⟨env, st⟩ = .ok (.int z, st1)) : someO fa ⟨env, st⟩ = .ok (some z, st1) := by
  unfold someO; rw [h]; rfl
theorem e_call {n : Nat} {F : FSem} {f : EvA} {svs : List SV} (h : f ⟨env, st⟩ = .ok (svs, st1)) (hc : callS n F svs ⟨env, st1⟩ = .ok (d, st2)) : callE n F f ⟨env, st⟩ = .ok (d, st2) := o_call h hc
theorem e_callC {n : Nat} {F : FSem} {f : EvA} {svs : List SV} {ds : List PyData} (h : f ⟨env, st⟩ = .ok (svs, st1)) (hc : callS n F svs ⟨env, st1⟩ = .ok (.list ds, st2)) : callC n F f ⟨env, st⟩ = .ok (ds, st2) := by
  unfold callC; rw [h]; simp only [Res.bind_ok, hc]; rfl
theorem e_lst {f : EvC} {ds : List PyData} (h : f ⟨env, st⟩ = .ok (ds, st1)) : lstOf f ⟨env, st⟩ = .ok (.list ds, st1) := o_list h
theorem e_own {f : EvC} {ds : List PyData} (h : f ⟨env, st⟩ = .ok (ds, st1)) (hn : st1.length = n) (h2 : st1 ++ [.lst ds] = st2) : ownOf f ⟨env, st⟩ = .ok (.obj n, st2) := by
  subst hn h2; exact o_own h
theorem e_pure (h : fa ⟨env, st⟩ = .ok (a, st1)) : pureV fa ⟨env, st⟩ = .ok (.pure a, st1) := o_pure h
theorem e_app {ds ds0 : List PyData} (h1 : env[i]? = some (some (.obj j))) (h2 : st[j]? = some (.lst ds0)) (hf : fa ⟨env, st⟩ = .ok (x, st1)) (h3 : st1[j]? = some (.lst ds)) (hl : ds.length < 16777216) (h4 : st1.set j (.lst (ds ++ [x])) = st2) :
    appE i fa ⟨env, st⟩ = .ok (.none, st2) := by
  subst h4
  unfold appE objAt
  simp only [h1, h2, hf, isLst, Res.bind_ok, h3, if_true]
  rw [if_pos hl]
theorem e_pop {ds : List PyData} (h1 : env[i]? = some (some (.obj j))) (h2 : st[j]? = some (.lst ds)) (h3 : ds[ds.length - 1]? = some d) (h4 : st.set j (.lst ds.dropLast) = st2) : popE i ⟨env, st⟩ = .ok (d, st2) := by
  subst h4
  unfold popE objAt
  simp only [h1, h2, h3]
theorem e_dget {kvs : List (Key × PyData)} {ky : Key} (h1 : env[i]? = some (some (.obj j))) (hf : fa ⟨env, st⟩ = .ok (x, st1)) (h2 : st1[j]? = some (.dK kvs)) (h3 : keyOf x = some ky) (h4 : valD kvs ky = some d) : dgetE i fa ⟨env, st⟩ = .ok (d, st1) := by
  unfold dgetE objAt
  simp only [h1, hf, Res.bind_ok, h2, h3, h4]
/-! ### arguments -/
variable {f : EvA} {svs : List SV} {ds : List PyData} {sv : SV}
theorem a_nil : nilA ⟨env, st⟩ = .ok ([], st) := rfl
theorem a_cons (h1 : fa ⟨env, st⟩ = .ok (a, st1)) (h2 : f ⟨env, st1⟩ = .ok (svs, st2)) : consA fa f ⟨env, st⟩ = .ok (.pure a :: svs, st2) := by
  unfold consA; rw [h1]; simp only [Res.bind_ok, h2]
theorem a_consV {fv : EvV} (h1 : fv ⟨env, st⟩ = .ok (sv, st1)) (h2 : f ⟨env, st1⟩ = .ok (svs, st2)) : consV fv f ⟨env, st⟩ = .ok (sv :: svs, st2) := by
  unfold consV; rw [h1]; simp only [Res.bind_ok, h2]
theorem a_slot (h1 : env[i]? = some (some sv)) (h2 : f ⟨env, st⟩ = .ok (svs, st2)) : consSlotA i f ⟨env, st⟩ = .ok (sv :: svs, st2) := by
  unfold consSlotA; simp only [h1, h2, Res.bind_ok]
theorem a_starT (h1 : fa ⟨env, st⟩ = .ok (.tuple ds, st1)) (h2 : f ⟨env, st1⟩ = .ok (svs, st2)) : consStarA fa f ⟨env, st⟩ = .ok (ds.map .pure ++ svs, st2) := by
  unfold consStarA; rw [h1]; simp only [Res.bind_ok, h2]
theorem a_starL (h1 : fa ⟨env, st⟩ = .ok (.list ds, st1)) (h2 : f ⟨env, st1⟩ = .ok (svs, st2)) : consStarA fa f ⟨env, st⟩ = .ok (ds.map .pure ++ svs, st2) := by
  unfold consStarA; rw [h1]; simp only [Res.bind_ok, h2]
theorem p_nil : pureAll [] = some [] := rfl
theorem p_cons (h : pureAll svs = some ds) : pureAll (.pure d :: svs) = some (d :: ds) := by
  rw [pa_cons', h]; rfl
theorem p_star {es : List PyData} : ∀ {ds : List PyData} (h : pureAll svs = some es), pureAll (ds.map SV.pure ++ svs) = some (ds ++ es)
  | [], h => h
  | d :: ds, h => by rw [List.map_cons, List.cons_append, pa_cons', p_star h]; rfl
theorem p_all : pureAll (ds.map SV.pure) = some ds := pa_pure ds
theorem e_tup (h : f ⟨env, st⟩ = .ok (svs, st1)) (h2 : pureAll svs = some ds) (hl : ds.length ≤ 16777216) : tupE f ⟨env, st⟩ = .ok (.tuple ds, st1) := by
  unfold tupE; rw [h]; simp only [Res.bind_ok, h2]; rw [if_pos hl]
theorem e_lstE (h : f ⟨env, st⟩ = .ok (svs, st1)) (h2 : pureAll svs = some ds) (hl : ds.length ≤ 16777216) : lstE f ⟨env, st⟩ = .ok (.list ds, st1) := by
  unfold lstE; rw [h]; simp only [Res.bind_ok, h2]; rw [if_pos hl]
theorem e_lstV (h : f ⟨env, st⟩ = .ok (svs, st1)) (h2 : pureAll svs = some ds) (hl : ds.length ≤ 16777216) (hn : st1.length = n) (h3 : st1 ++ [.lst ds] = st2) : lstV f ⟨env, st⟩ = .ok (.obj n, st2) := by
  subst hn h3
  unfold lstV; rw [h]; simp only [Res.bind_ok, h2]; rw [if_pos hl]; rfl
theorem len_nil {α : Type} {m : Nat} : ([] : List α).length ≤ m := Nat.zero_le _
theorem len_cons {α : Type} {x : α} {r : List α} {m : Nat} (h : r.length ≤ m) : (x :: r).length ≤ m + 1 := Nat.succ_le_succ h
theorem e_binV {gl : PyData → PyData → Option (List PyData)} (h1 : fa ⟨env, st⟩ = .ok (a, st1)) (h2 : fb ⟨env, st1⟩ = .ok (b, st2)) (h : gl a b = some ds) (hn : st2.length = n) (h3 : st2 ++ [.lst ds] = st3) : binV gl fa fb ⟨env, st⟩ = .ok (.obj n, st3) := by
  subst hn h3
  unfold binV; rw [h1]; simp only [Res.bind_ok, h2, h, ofOptL]; rfl
theorem e_un1V {gl : PyData → Option (List PyData)} (h1 : fa ⟨env, st⟩ = .ok (a, st1)) (h : gl a = some ds) (hn : st1.length = n) (h3 : st1 ++ [.lst ds] = st3) : un1V gl fa ⟨env, st⟩ = .ok (.obj n, st3) := by
  subst hn h3
  unfold un1V; rw [h1]; simp only [Res.bind_ok, h, ofOptL]; rfl
theorem e_dict0 (hn : st.length = n) (h3 : st ++ [.dK []] = st3) : dict0V ⟨env, st⟩ = .ok (.obj n, st3) := by
  subst hn h3; rfl
theorem e_dict1 {ky : Key} (h1 : fa ⟨env, st⟩ = .ok (a, st1)) (h2 : fb ⟨env, st1⟩ = .ok (b, st2)) (h : keyOf a = some ky) (hn : st2.length = n) (h3 : st2 ++ [.dK [(ky, b)]] = st3) : dict1V fa fb ⟨env, st⟩ = .ok (.obj n, st3) := by
  subst hn h3
  unfold dict1V; rw [h1]; simp only [Res.bind_ok, h2, h]
/-! ### tests -/
variable {t t' : EvT}
theorem t_val (h1 : fa ⟨env, st⟩ = .ok (.bool k, st1)) : valT fa ⟨env, st⟩ = .ok (k, st1) := o_val h1
theorem t_cmp (h1 : fa ⟨env, st⟩ = .ok (a, st1)) (h2 : fb ⟨env, st1⟩ = .ok (b, st2)) (h : g a b = some (.bool k)) : cmpT g fa fb ⟨env, st⟩ = .ok (k, st2) := o_cmp h1 h2 h
theorem t_not (h1 : t ⟨env, st⟩ = .ok (k, st1)) : notT t ⟨env, st⟩ = .ok (!k, st1) := o_notT h1
theorem t_and (h1 : t ⟨env, st⟩ = .ok (k, st1)) (h2 : k = true → t' ⟨env, st1⟩ = .ok (l, st1)) : andT t t' ⟨env, st⟩ = .ok (k && l, st1) := by
  cases k
  · exact o_andTF h1
  · exact o_andTT h1 (h2 rfl)
theorem t_or (h1 : t ⟨env, st⟩ = .ok (k, st1)) (h2 : k = false → t' ⟨env, st1⟩ = .ok (l, st1)) : orT t t' ⟨env, st⟩ = .ok (k || l, st1) := by
  cases k
  · exact o_orTF h1 (h2 rfl)
  · exact o_orTT h1
theorem t_orT (h1 : t ⟨env, st⟩ = .ok (k, st1)) (hk : k = true) : orT t t' ⟨env, st⟩ = .ok (true, st1) := by
  subst hk; exact o_orTT h1
theorem t_andF (h1 : t ⟨env, st⟩ = .ok (k, st1)) (hk : k = false) : andT t t' ⟨env, st⟩ = .ok (false, st1) := by
  subst hk; exact o_andTF h1
theorem e_orT (h1 : fa ⟨env, st⟩ = .ok (.bool k, st1)) (hk : k = true) : orE fa fb ⟨env, st⟩ = .ok (.bool true, st1) := by
  subst hk; exact o_orT h1
theorem e_andF (h1 : fa ⟨env, st⟩ = .ok (.bool k, st1)) (hk : k = false) : andE fa fb ⟨env, st⟩ = .ok (.bool false, st1) := by
  subst hk; exact o_andF h1
theorem t_orF (h1 : t ⟨env, st⟩ = .ok (k, st1)) (hk : k = false) (h2 : t' ⟨env, st1⟩ = .ok (l, st2)) : orT t t' ⟨env, st⟩ = .ok (l, st2) := by
  subst hk; exact o_orTF h1 h2
theorem t_andT (h1 : t ⟨env, st⟩ = .ok (k, st1)) (hk : k = true) (h2 : t' ⟨env, st1⟩ = .ok (l, st2)) : andT t t' ⟨env, st⟩ = .ok (l, st2) := by
  subst hk; exact o_andTT h1 h2
theorem e_orF (h1 : fa ⟨env, st⟩ = .ok (.bool k, st1)) (hk : k = false) (h2 : fb ⟨env, st1⟩ = .ok (x, st2)) : orE fa fb ⟨env, st⟩ = .ok (x, st2) := by
  subst hk; exact o_orF h1 h2
theorem e_andT (h1 : fa ⟨env, st⟩ = .ok (.bool k, st1)) (hk : k = true) (h2 : fb ⟨env, st1⟩ = .ok (x, st2)) : andE fa fb ⟨env, st⟩ = .ok (x, st2) := by
  subst hk; exact o_andT h1 h2
theorem t_orX {r : RT} (h1 : t ⟨env, st⟩ = .ok (k, st1)) (h2 : (if k = true then .ok (true, st1) else t' ⟨env, st1⟩) = r) : orT t t' ⟨env, st⟩ = r := by
  subst h2
  cases k
  · exact o_orTF h1 rfl
  · exact o_orTT h1
theorem t_andX {r : RT} (h1 : t ⟨env, st⟩ = .ok (k, st1)) (h2 : (if k = false then .ok (false, st1) else t' ⟨env, st1⟩) = r) : andT t t' ⟨env, st⟩ = r := by
  subst h2
  cases k
  · exact o_andTF h1
  · exact o_andTT h1 rfl
theorem e_orX {r : RE} (h1 : fa ⟨env, st⟩ = .ok (.bool k, st1)) (h2 : (if k = true then .ok (.bool true, st1) else fb ⟨env, st1⟩) = r) : orE fa fb ⟨env, st⟩ = r := by
  subst h2
  cases k
  · exact o_orF h1 rfl
  · exact o_orT h1
theorem e_andX {r : RE} (h1 : fa ⟨env, st⟩ = .ok (.bool k, st1)) (h2 : (if k = false then .ok (.bool false, st1) else fb ⟨env, st1⟩) = r) : andE fa fb ⟨env, st⟩ = r := by
  subst h2
  cases k
  · exact o_andF h1
  · exact o_andT h1 rfl
theorem x_t {α : Type} {p : Prop} [Decidable p] {u v : Res α} (h : p) : (if p then u else v) = u := if_pos h
theorem x_orf {α : Type} {u v r : Res α} (hk : k = false) (h : v = r) : (if k = true then u else v) = r := by
  subst h hk; rfl
theorem x_andt {α : Type} {u v r : Res α} (hk : k = true) (h : v = r) : (if k = false then u else v) = r := by
  subst h hk; rfl
theorem x_org {x : RT} (h : k = false → x = .ok (l, st1)) : (if k = true then .ok (true, st1) else x) = .ok (k || l, st1) := by
  cases k
  · rw [if_neg Bool.false_ne_true, h rfl]; rfl
  · rfl
theorem x_andg {x : RT} (h : k = true → x = .ok (l, st1)) : (if k = false then .ok (false, st1) else x) = .ok (k && l, st1) := by
  cases k
  · rfl
  · rw [if_neg (by simp), h rfl]; rfl
theorem x_orge {x : RE} (h : k = false → x = .ok (.bool l, st1)) : (if k = true then .ok (.bool true, st1) else x) = .ok (.bool (k || l), st1) := by
  cases k
  · rw [if_neg Bool.false_ne_true, h rfl]; rfl
  · rfl
theorem x_andge {x : RE} (h : k = true → x = .ok (.bool l, st1)) : (if k = false then .ok (.bool false, st1) else x) = .ok (.bool (k && l), st1) := by
  cases k
  · rfl
  · rw [if_neg (by simp), h rfl]; rfl
theorem bq_t (b : Bool) : (b == true) = b := by cases b <;> rfl
theorem bq_f (b : Bool) : (b == false) = !b := by cases b <;> rfl
theorem n_0 {α : Type} : ([] : List α).length = 0 := rfl
theorem n_1 {α : Type} {a : α} : [a].length = 1 := rfl
theorem n_2 {α : Type} {a b : α} : [a, b].length = 2 := rfl
theorem n_3 {α : Type} {a b c : α} : [a, b, c].length = 3 := rfl
theorem n_4 {α : Type} {a b c d : α} : [a, b, c, d].length = 4 := rfl
theorem p_0 {α : Type} {l : List α} : [] ++ l = l := rfl
theorem p_1 {α : Type} {a : α} {l l' : List α} {r : List α} (h : l ++ l' = r) : (a :: l) ++ l' = a :: r := by rw [List.cons_append, h]
theorem t_yes : yesT ⟨env, st⟩ = .ok (true, st) := rfl
/-! ### targets, places -/
theorem set_0 {α : Type} {x y : α} {r : List α} : (x :: r).set 0 y = y :: r := rfl
theorem set_s {α : Type} {x y : α} {r r' : List α} {i : Nat} (h : r.set i y = r') : (x :: r).set (i + 1) y = x :: r' := by rw [List.set_cons_succ, h]
theorem g_name (h : env.set i (some (.pure d)) = env1) : nameG i d env = some env1 := by subst h; rfl
theorem g_tup {gs : GSs} (hl : ds.length = n) (h : gs ds env = some env1) : tupG n gs (.tuple ds) env = some env1 := by
  unfold tupG; simp only; rw [if_pos hl, h]
theorem g_cons {gt : GS} {gs : GSs} (h1 : gt d env = some env1) (h2 : gs ds env1 = some env2) : consG gt gs (d :: ds) env = some env2 := by
  unfold consG; simp only [h1, Option.bind_some, h2]
theorem g_nil : nilG [] env = some env := rfl
/-! ### what is walked -/
def Walks (fi : EvI) (s : S) (ds : List PyData) (st1 : Sto) : Prop := ∃ iv, fi s = .ok (iv, st1) ∧ Items iv ds
theorem w_range1 (h : fa ⟨env, st⟩ = .ok (.int (n : Int), st1)) (hn : n ≤ 1000000000) : Walks (range1I fa) ⟨env, st⟩ ((List.range n).map fun i => PyData.int (i : Nat)) st1 :=
  ⟨_, range1_nat h hn, by have := items_range 0 n; rw [intsFrom_eq] at this; simpa using this⟩
theorem w_range2 {p q : Nat} (h : fa ⟨env, st⟩ = .ok (.int (p : Int), st1)) (h2 : fb ⟨env, st1⟩ = .ok (.int (q : Int), st2)) (hp : p ≤ 1000000000) (hq : q ≤ 1000000000) : Walks (range2I fa fb) ⟨env, st⟩ ((List.range (q - p)).map fun i => PyData.int ((p + i : Nat) : Int)) st2 :=
  ⟨_, range2_ok h h2 (small_nat hp) (small_nat hq), by
    have := items_range (p : Int) ((q : Int) - p).toNat
    rw [intsFrom_eq] at this
    have e : ((q : Int) - p).toNat = q - p := by omega
    rw [e] at this ⊢
    simpa using this⟩
theorem intsDown_eq : ∀ (n : Nat) (hi : Int), intsDown hi n = (List.range n).map fun i => PyData.int (hi - (i : Nat))
  | 0, _ => rfl
  | n + 1, hi => by
    rw [List.range_succ_eq_map, List.map_cons, List.map_map, intsDown, intsDown_eq n (hi - 1)]
    congr 1
    · simp
    · apply List.map_congr_left
      intro i _
      simp only [Function.comp]
      congr 1
      push_cast
      omega
theorem w_rangeD {p q : Int} (h : fa ⟨env, st⟩ = .ok (.int p, st1)) (h2 : fb ⟨env, st1⟩ = .ok (.int q, st2)) (hp : small62 p) (hq : small62 q) : Walks (rangeDI fa fb) ⟨env, st⟩ ((List.range (p - q).toNat).map fun i => PyData.int (p - (i : Nat))) st2 :=
  ⟨_, rangeD_ok h h2 hp hq, by rw [← intsDown_eq]; exact items_rangeD _ _⟩
theorem w_seqT (h : fa ⟨env, st⟩ = .ok (.tuple ds, st1)) : Walks (seqI (froR fa)) ⟨env, st⟩ ds st1 := ⟨_, seq_tup h, items_seq _ _⟩
theorem w_seqL (h : fa ⟨env, st⟩ = .ok (.list ds, st1)) : Walks (seqI (froR fa)) ⟨env, st⟩ ds st1 := ⟨_, seq_lst h, items_seq _ _⟩
theorem w_scr (h : env[i]? = some (some (.scr ds))) : Walks (seqI (ownR i)) ⟨env, st⟩ ds st := by
  refine ⟨seqIV ⟨true, fun _ => some ds⟩, ?_, items_seq _ _⟩
  unfold seqI ownR; simp only [h, Res.bind_ok]
theorem zipL_map {α β : Type} (f : α → PyData) (h : β → PyData) : ∀ (xs : List α) (ys : List β), zipL (xs.map f) (ys.map h) = (xs.zip ys).map fun p => .tuple [f p.1, h p.2]
  | [], ys => by cases ys <;> rfl
  | x :: xs, [] => rfl
  | x :: xs, y :: ys => by
    rw [List.map_cons, List.map_cons, zipL, zipL_map f h xs ys]; rfl
theorem w_zip {r1 r2 : EvR} {k1 k2 : Bool} {es : List PyData} (h : r1 ⟨env, st⟩ = .ok (⟨k1, fun _ => some ds⟩, st1)) (h2 : r2 ⟨env, st1⟩ = .ok (⟨k2, fun _ => some es⟩, st2)) : Walks (zipI r1 r2) ⟨env, st⟩ (zipL ds es) st2 := by
  refine ⟨_, ?_, items_zip k1 k2 ds es⟩
  unfold zipI; rw [h]; simp only [Res.bind_ok, h2]
theorem r_froT (h : fa ⟨env, st⟩ = .ok (.tuple ds, st1)) : froR fa ⟨env, st⟩ = .ok (⟨false, fun _ => some ds⟩, st1) := by
  unfold froR; rw [h]; rfl
theorem r_froL (h : fa ⟨env, st⟩ = .ok (.list ds, st1)) : froR fa ⟨env, st⟩ = .ok (⟨true, fun _ => some ds⟩, st1) := by
  unfold froR; rw [h]; rfl
/-! ### comprehensions, quantifiers -/
theorem c_pure {α : Type} {fi : EvI} {vs : List Nat} {gt : GS} {ft : EvT} {fe : EvD} (xs : List α) (fx : α → PyData) (e1 : α → List (Option SV)) (p : α → Bool) (h : α → PyData) (hw : Walks fi ⟨env, st⟩ (xs.map fx) st1) (hn : xs.length ≤ 16777216)
    (H : ∀ x ∈ xs, gt (fx x) (wipeL env vs) = some (e1 x) ∧ ft ⟨e1 x, st1⟩ = .ok (p x, st1) ∧ (p x = true → fe ⟨e1 x, st1⟩ = .ok (h x, st1))) : compC fi vs gt ft fe ⟨env, st⟩ = .ok ((xs.filter p).map h, st1) := by
  obtain ⟨iv, q1, q2⟩ := hw
  rw [compC_items q1 q2 (by rw [List.length_map]; exact hn)]
  show compL gt ft fe (wipeL env vs) (xs.map fx) st1 = _
  clear q1 q2 hn
  induction xs with
  | nil => rfl
  | cons x xs ih =>
    obtain ⟨h1, h2, h3⟩ := H x List.mem_cons_self
    have ih := ih fun x hx => H x (List.mem_cons_of_mem _ hx)
    rw [List.map_cons]
    unfold compL
    rw [h1]
    simp only [h2]
    cases hp : p x with
    | false => simp [ih, hp]
    | true => simp only [h3 hp]; simp [ih, hp]
theorem c_all {α : Type} {fi : EvI} {vs : List Nat} {gt : GS} {ft : EvT} {fe : EvD} (xs : List α) (fx : α → PyData) (e1 : α → List (Option SV)) (h : α → PyData) (hw : Walks fi ⟨env, st⟩ (xs.map fx) st1) (hn : xs.length ≤ 16777216)
    (H : ∀ x ∈ xs, gt (fx x) (wipeL env vs) = some (e1 x) ∧ ft ⟨e1 x, st1⟩ = .ok (true, st1) ∧ fe ⟨e1 x, st1⟩ = .ok (h x, st1)) : compC fi vs gt ft fe ⟨env, st⟩ = .ok (xs.map h, st1) := by
  rw [c_pure xs fx e1 (fun _ => true) h hw hn fun x hx => ⟨(H x hx).1, (H x hx).2.1, fun _ => (H x hx).2.2⟩, List.filter_eq_self.mpr (fun _ _ => rfl)]
/-- a comprehension whose parts change the store -/
theorem c_inv {α : Type} {fi : EvI} {vs : List Nat} {gt : GS} {ft : EvT} {fe : EvD} (xs : List α) (fx : α → PyData) (I : Nat → List PyData → Sto → Prop) (hw : Walks fi ⟨env, st⟩ (xs.map fx) st1) (hn : xs.length ≤ 16777216) (h0 : I 0 [] st1)
    (H : ∀ (k : Nat) (hk : k < xs.length) (acc : List PyData) (st : Sto), I k acc st → ∃ e1, gt (fx xs[k]) (wipeL env vs) = some e1 ∧
      ((∃ st', ft ⟨e1, st⟩ = .ok (false, st') ∧ I (k + 1) acc st') ∨ ∃ st' y st2, ft ⟨e1, st⟩ = .ok (true, st') ∧ fe ⟨e1, st'⟩ = .ok (y, st2) ∧ I (k + 1) (acc ++ [y]) st2)) :
    ∃ ys st', compC fi vs gt ft fe ⟨env, st⟩ = .ok (ys, st') ∧ I xs.length ys st' := by
  obtain ⟨iv, q1, q2⟩ := hw
  rw [compC_items q1 q2 (by rw [List.length_map]; exact hn)]
  show ∃ ys st', compL gt ft fe (wipeL env vs) (xs.map fx) st1 = .ok (ys, st') ∧ I xs.length ys st'
  have key : ∀ (r : Nat) (k : Nat) (acc : List PyData) (st : Sto), k + r = xs.length → I k acc st → ∃ ys st', compL gt ft fe (wipeL env vs) ((xs.drop k).map fx) st = .ok (ys, st') ∧ I xs.length (acc ++ ys) st' := by
    intro r
    induction r with
    | zero =>
      intro k acc st hr hI
      rw [List.drop_eq_nil_of_le (by omega)]
      refine ⟨[], st, rfl, ?_⟩
      have : k = xs.length := by omega
      rw [List.append_nil, ← this]
      exact hI
    | succ r ih =>
      intro k acc st hr hI
      have hk : k < xs.length := by omega
      obtain ⟨e1, eg, h⟩ := H k hk acc st hI
      rw [List.drop_eq_getElem_cons hk, List.map_cons]
      unfold compL
      rw [eg]
      rcases h with ⟨st', h1, h2⟩ | ⟨st', y, st2, h1, h2, h3⟩
      · obtain ⟨ys, st3, r1, r2⟩ := ih (k + 1) acc st' (by omega) h2
        refine ⟨ys, st3, ?_, r2⟩
        simp only [h1]
        exact r1
      · obtain ⟨ys, st3, r1, r2⟩ := ih (k + 1) (acc ++ [y]) st2 (by omega) h3
        refine ⟨y :: ys, st3, ?_, by rw [List.append_assoc] at r2; exact r2⟩
        simp only [h1, h2, r1]
        rfl
  obtain ⟨ys, st', r1, r2⟩ := key xs.length 0 [] st1 (by omega) h0
  exact ⟨ys, st', by simpa using r1, by simpa using r2⟩
theorem q_all {α : Type} {fi : EvI} {vs : List Nat} {gt : GS} {ft : EvT} {fe : EvD} (xs : List α) (fx : α → PyData) (e1 : α → List (Option SV)) (p : α → Bool) (hw : Walks fi ⟨env, st⟩ (xs.map fx) st1)
    (H : ∀ x ∈ xs, gt (fx x) (wipeL env vs) = some (e1 x) ∧ ft ⟨e1 x, st1⟩ = .ok (true, st1) ∧ fe ⟨e1 x, st1⟩ = .ok (.bool (p x), st1)) : quantE false fi vs gt ft fe ⟨env, st⟩ = .ok (.bool (xs.all p), st1) := by
  obtain ⟨iv, q1, q2⟩ := hw
  rw [quantE_items q1 q2]
  show (quantL false gt ft fe (wipeL env vs) (xs.map fx) st1).bind _ = _
  have : quantL false gt ft fe (wipeL env vs) (xs.map fx) st1 = .ok (xs.all p, st1) := by
    clear q1 q2
    induction xs with
    | nil => rfl
    | cons x xs ih =>
      obtain ⟨h1, h2, h3⟩ := H x List.mem_cons_self
      have ih := ih fun x hx => H x (List.mem_cons_of_mem _ hx)
      rw [List.map_cons]
      unfold quantL
      rw [h1]
      simp only [h2, h3]
      cases hp : p x with
      | false => simp [hp]
      | true => simp [ih, hp]
  rw [this]; rfl
theorem q_any {α : Type} {fi : EvI} {vs : List Nat} {gt : GS} {ft : EvT} {fe : EvD} (xs : List α) (fx : α → PyData) (e1 : α → List (Option SV)) (p : α → Bool) (hw : Walks fi ⟨env, st⟩ (xs.map fx) st1)
    (H : ∀ x ∈ xs, gt (fx x) (wipeL env vs) = some (e1 x) ∧ ft ⟨e1 x, st1⟩ = .ok (true, st1) ∧ fe ⟨e1 x, st1⟩ = .ok (.bool (p x), st1)) : quantE true fi vs gt ft fe ⟨env, st⟩ = .ok (.bool (xs.any p), st1) := by
  obtain ⟨iv, q1, q2⟩ := hw
  rw [quantE_items q1 q2]
  show (quantL true gt ft fe (wipeL env vs) (xs.map fx) st1).bind _ = _
  have : quantL true gt ft fe (wipeL env vs) (xs.map fx) st1 = .ok (xs.any p, st1) := by
    clear q1 q2
    induction xs with
    | nil => rfl
    | cons x xs ih =>
      obtain ⟨h1, h2, h3⟩ := H x List.mem_cons_self
      have ih := ih fun x hx => H x (List.mem_cons_of_mem _ hx)
      rw [List.map_cons]
      unfold quantL
      rw [h1]
      simp only [h2, h3]
      cases hp : p x with
      | true => simp [hp]
      | false => simp [ih, hp]
  rw [this]; rfl
end
/-! ### statements -/
section
variable {env env1 env2 : List (Option SV)} {st st1 st2 st3 : Sto} {fa fb fc : EvD} {a b c d x y : PyData} {k l : Bool} {i j n m : Nat} {sv : SV} {f g : EvS} {Q : Fl → S → Prop} {fv : EvV}
theorem s_next (h : OkS (g n ⟨env, st⟩) Q) : thenS g n Q .next ⟨env, st⟩ := h
theorem s_ret' {s : S} (h : Q (.ret sv) s) : thenS g n Q (.ret sv) s := h
theorem s_brk' {s : S} (h : Q .brk s) : thenS g n Q .brk s := h
theorem s_cont' {s : S} (h : Q .cont s) : thenS g n Q .cont s := h
theorem s_set (h : fv ⟨env, st⟩ = .ok (sv, st1)) (he : env.set i (some sv) = env1) (hq : Q .next ⟨env1, st1⟩) : OkS (setS i fv n ⟨env, st⟩) Q := by
  subst he; exact okS_set h hq
theorem s_ret (h : fv ⟨env, st⟩ = .ok (sv, st1)) (hq : Q (.ret sv) ⟨env, st1⟩) : OkS (retS fv n ⟨env, st⟩) Q := okS_ret h hq
theorem s_nil {s : S} (h : Q .next s) : OkS (nilS n s) Q := .of (p := (.next, s)) h
theorem s_pass {s : S} (h : Q .next s) : OkS (passS n s) Q := .of (p := (.next, s)) h
theorem s_brk {s : S} (h : Q .brk s) : OkS (brkS n s) Q := .of (p := (.brk, s)) h
theorem s_cont {s : S} (h : Q .cont s) : OkS (contS n s) Q := .of (p := (.cont, s)) h
theorem s_retN {s : S} (h : Q (.ret (.pure .none)) s) : OkS (retNS n s) Q := .of (p := (.ret (.pure .none), s)) h
theorem s_drop (h : fa ⟨env, st⟩ = .ok (a, st1)) (hq : Q .next ⟨env, st1⟩) : OkS (dropS fa n ⟨env, st⟩) Q := by
  rw [ev_drop, h]; exact .of hq
theorem s_par {fx : EvA} {s1 s2 : SV} (h : fx ⟨env, st⟩ = .ok ([s1, s2], st1)) (he : env.set i (some s1) = env1) (he2 : env1.set j (some s2) = env2) (hq : Q .next ⟨env2, st1⟩) : OkS (parS i j fx n ⟨env, st⟩) Q := by
  subst he he2
  rw [ev_par, h]; exact .of hq
theorem s_asg2 {fx : EvA} {s1 s2 : SV} (h : fx ⟨env, st⟩ = .ok ([s1, s2], st1)) (he : env.set i (some s1) = env1) (he2 : env1.set j (some s2) = env2) (hq : Q .next ⟨env2, st1⟩) : OkS (asg2S i j fx n ⟨env, st⟩) Q := by
  subst he he2
  rw [ev_asg2, h]; exact .of hq
theorem s_par3 {fx : EvA} {s1 s2 s3 : SV} {env3 : List (Option SV)} (h : fx ⟨env, st⟩ = .ok ([s1, s2, s3], st1)) (he : env.set i (some s1) = env1) (he2 : env1.set j (some s2) = env2) (he3 : env2.set m (some s3) = env3) (hq : Q .next ⟨env3, st1⟩) : OkS (par3S i j m fx n ⟨env, st⟩) Q := by
  subst he he2 he3
  unfold par3S
  rw [h]; exact .of hq
theorem s_asg {gt : GS} (h : fa ⟨env, st⟩ = .ok (a, st1)) (he : gt a env = some env1) (hq : Q .next ⟨env1, st1⟩) : OkS (asgS fa gt n ⟨env, st⟩) Q := by
  unfold asgS; rw [h]; simp only [Res.bx_ok, he]; exact .of hq
theorem s_aug {gx : PyData → PyData → Option PyData} (h1 : env[i]? = some (some (.pure x))) (h : fa ⟨env, st⟩ = .ok (a, st1)) (hg : gx x a = some d) (he : env.set i (some (.pure d)) = env1) (hq : Q .next ⟨env1, st1⟩) : OkS (augS i gx fa n ⟨env, st⟩) Q := by
  subst he
  unfold augS; simp only [h1, h, Res.bx_ok, hg]; exact .of hq
theorem s_sto {z : Int} {ds : List PyData} (h : fb ⟨env, st⟩ = .ok (x, st1)) (h1 : env[i]? = some (some (.obj j))) (hi : fa ⟨env, st1⟩ = .ok (.int z, st2)) (h2 : st2[j]? = some (.lst ds)) (hx : ixN ds.length z = some m) (h3 : st2.set j (.lst (ds.set m x)) = st3) (hq : Q .next ⟨env, st3⟩) :
    OkS (stoS i fa fb n ⟨env, st⟩) Q := by
  subst h3
  unfold stoS objAt; rw [h]; simp only [Res.bx_ok, h1, hi, h2, hx]; exact .of hq
theorem s_dput {kvs : List (Key × PyData)} {ky : Key} (h : fb ⟨env, st⟩ = .ok (x, st1)) (h1 : env[i]? = some (some (.obj j))) (hi : fa ⟨env, st1⟩ = .ok (a, st2)) (h2 : st2[j]? = some (.dK kvs)) (hk : keyOf a = some ky) (hl : kvs.length < 16777216) (h3 : st2.set j (.dK (putD kvs ky x)) = st3) (hq : Q .next ⟨env, st3⟩) :
    OkS (dputS i fa fb n ⟨env, st⟩) Q := by
  subst h3
  unfold dputS objAt; rw [h]; simp only [Res.bx_ok, h1, hi, h2, hk]; rw [if_pos hl]; exact .of hq
theorem s_if {t : EvT} (ht : t ⟨env, st⟩ = .ok (k, st1)) (h1 : k = true → OkS (f n ⟨env, st1⟩) Q) (h2 : k = false → OkS (g n ⟨env, st1⟩) Q) : OkS (ifS t f g n ⟨env, st⟩) Q := by
  cases k
  · exact okS_ifF ht (h2 rfl)
  · exact okS_ifT ht (h1 rfl)
theorem s_ifT {t : EvT} (ht : t ⟨env, st⟩ = .ok (true, st1)) (h1 : OkS (f n ⟨env, st1⟩) Q) : OkS (ifS t f g n ⟨env, st⟩) Q := okS_ifT ht h1
theorem s_ifF {t : EvT} (ht : t ⟨env, st⟩ = .ok (false, st1)) (h1 : OkS (g n ⟨env, st1⟩) Q) : OkS (ifS t f g n ⟨env, st⟩) Q := okS_ifF ht h1
/-! ### loops -/
/-- over what is walked; the items may hang on the store, as the invariant says -/
theorem s_forG {fi : EvI} {iv : IVal} {gt : GS} {body : EvS} {ws : List Nat} {ds : List PyData} (I : Nat → S → Prop) (e : fi ⟨env, st⟩ = .ok (iv, st1)) (hi : ∀ k s, I k s → iv k s.st = some (ds[k]?)) (h0 : I 0 ⟨env, st1⟩)
    (step : ∀ k d s, ds[k]? = some d → I k s → ∃ e1, gt d s.env = some e1 ∧ OkS (body s.st.length ⟨e1, s.st⟩) fun fl s' => match fl with
      | .next => I (k + 1) (wipeS ws s.st.length s')
      | .cont => I (k + 1) (wipeS ws s.st.length s')
      | .brk => Q .next s'
      | .ret sv => Q (.ret sv) s') (hq : ∀ s', I ds.length s' → Q .next s') : OkS (forS fi gt body ws n ⟨env, st⟩) Q := by
  unfold forS
  rw [e]
  show OkS (lim fun m => forN iv gt body ws m 0 ⟨env, st1⟩) Q
  have key : ∀ (r : Nat) (i : Nat) (s : S), i + r = ds.length → I i s → ∃ m, OkS (forN iv gt body ws m i s) Q := by
    intro r
    induction r with
    | zero =>
      intro i s hr hI
      refine ⟨1, ?_⟩
      unfold forN
      rw [hi i s hI, List.getElem?_eq_none (by omega)]
      exact .of (p := (.next, s)) (hq s (by rw [← hr]; exact hI))
    | succ r ih =>
      intro i s hr hI
      have hl : i < ds.length := by omega
      obtain ⟨e1, eg, ok⟩ := step i _ s (List.getElem?_eq_getElem hl) hI
      obtain ⟨fl, s1, e, q⟩ := ok.get
      cases fl with
      | next =>
        obtain ⟨m, hm⟩ := ih (i + 1) _ (by omega) q
        refine ⟨m + 1, ?_⟩
        unfold forN
        rw [hi i s hI, List.getElem?_eq_getElem hl]
        simp only [eg, e]
        exact hm
      | cont =>
        obtain ⟨m, hm⟩ := ih (i + 1) _ (by omega) q
        refine ⟨m + 1, ?_⟩
        unfold forN
        rw [hi i s hI, List.getElem?_eq_getElem hl]
        simp only [eg, e]
        exact hm
      | brk =>
        refine ⟨1, ?_⟩
        unfold forN
        rw [hi i s hI, List.getElem?_eq_getElem hl]
        simp only [eg, e]
        exact .of (p := (.next, s1)) q
      | ret sv =>
        refine ⟨1, ?_⟩
        unfold forN
        rw [hi i s hI, List.getElem?_eq_getElem hl]
        simp only [eg, e]
        exact .of (p := (.ret sv, s1)) q
  obtain ⟨m, hm⟩ := key ds.length 0 _ (by omega) h0
  have up : ∀ (m : Nat) (i : Nat) (s : S), forN iv gt body ws m i s ≠ .stuck → ∀ m', m ≤ m' → forN iv gt body ws m' i s = forN iv gt body ws m i s := by
    intro m
    induction m with
    | zero => intro i s h; exact absurd rfl h
    | succ m ih =>
      intro i s h m' hm'
      obtain ⟨m'', rfl⟩ : ∃ m'', m' = m'' + 1 := ⟨m' - 1, by omega⟩
      unfold forN at h ⊢
      cases e1 : iv i s.st with
      | none => rfl
      | some o =>
        cases o with
        | none => rfl
        | some d =>
          simp only [e1] at h ⊢
          cases e2 : gt d s.env with
          | none => rfl
          | some en =>
            simp only [e2] at h ⊢
            exact (turnS_up (fun s' hs => (ih (i + 1) s' hs m'' (by omega)).symm) h).symm
  have hne : forN iv gt body ws m 0 ⟨env, st1⟩ ≠ .stuck := fun z => by
    rw [z] at hm
    obtain ⟨_, _, e, _⟩ := hm.get
    cases e
  have hlim : lim (fun m => forN iv gt body ws m 0 ⟨env, st1⟩) = forN iv gt body ws m 0 ⟨env, st1⟩ := by
    obtain ⟨m2, e2⟩ : ∃ m2, (lim fun m => forN iv gt body ws m 0 ⟨env, st1⟩) = forN iv gt body ws m2 0 ⟨env, st1⟩ ∧ forN iv gt body ws m2 0 ⟨env, st1⟩ ≠ .stuck := by
      have hx : ∃ m, forN iv gt body ws m 0 ⟨env, st1⟩ ≠ .stuck := ⟨m, hne⟩
      refine ⟨Classical.choose hx, ?_, Classical.choose_spec hx⟩
      unfold lim
      rw [dif_pos hx]
    rw [e2.1]
    rcases Nat.le_total m m2 with h | h
    · exact up m 0 _ hne m2 h
    · exact (up m2 0 _ e2.2 m h).symm
  rw [hlim]
  exact hm
/-- typed items -/
theorem s_for {α : Type} {fi : EvI} {gt : GS} {body : EvS} {ws : List Nat} (xs : List α) (fx : α → PyData) (I : Nat → S → Prop) (hw : Walks fi ⟨env, st⟩ (xs.map fx) st1) (h0 : I 0 ⟨env, st1⟩)
    (step : ∀ (k : Nat) (hk : k < xs.length) (s : S), I k s → ∃ e1, gt (fx xs[k]) s.env = some e1 ∧ OkS (body s.st.length ⟨e1, s.st⟩) fun fl s' => match fl with
      | .next => I (k + 1) (wipeS ws s.st.length s')
      | .cont => I (k + 1) (wipeS ws s.st.length s')
      | .brk => Q .next s'
      | .ret sv => Q (.ret sv) s') (hq : ∀ s', I xs.length s' → Q .next s') : OkS (forS fi gt body ws n ⟨env, st⟩) Q := by
  obtain ⟨iv, q1, q2⟩ := hw
  refine s_forG (ds := xs.map fx) I q1 (fun k s _ => q2 k s.st) h0 (fun k d s hd hI => ?_) fun s' hI => hq s' (by rw [List.length_map] at hI; exact hI)
  have hk : k < xs.length := by have := (List.getElem?_eq_some_iff.mp hd).1; rwa [List.length_map] at this
  rw [List.getElem?_map, List.getElem?_eq_getElem hk] at hd
  cases hd
  exact step k hk s hI
/-- a fold: no turn ends the loop -/
theorem s_fold {α τ : Type} {fi : EvI} {gt : GS} {body : EvS} {ws : List Nat} (xs : List α) (fx : α → PyData) (E : τ → S) (stp : τ → α → τ) (P : Nat → τ → Prop) (t0 : τ) (hw : Walks fi ⟨env, st⟩ (xs.map fx) st1) (h0 : (⟨env, st1⟩ : S) = E t0) (hp : P 0 t0)
    (step : ∀ (k : Nat) (hk : k < xs.length) (t : τ), P k t → ∃ e1, gt (fx xs[k]) (E t).env = some e1 ∧ OkS (body (E t).st.length ⟨e1, (E t).st⟩) fun fl s' => fl = .next ∧ wipeS ws (E t).st.length s' = E (stp t xs[k]) ∧ P (k + 1) (stp t xs[k]))
    (hq : P xs.length (xs.foldl stp t0) → Q .next (E (xs.foldl stp t0))) : OkS (forS fi gt body ws n ⟨env, st⟩) Q := by
  refine s_for xs fx (fun k s => s = E ((xs.take k).foldl stp t0) ∧ P k ((xs.take k).foldl stp t0)) hw ⟨by simpa using h0, by simpa using hp⟩ ?_ ?_
  · rintro k hk s ⟨rfl, hP⟩
    obtain ⟨e1, q1, q2⟩ := step k hk _ hP
    refine ⟨e1, q1, q2.mono ?_⟩
    rintro fl s' ⟨rfl, r1, r2⟩
    have : (xs.take (k + 1)).foldl stp t0 = stp ((xs.take k).foldl stp t0) xs[k] := by
      rw [List.take_add_one, List.getElem?_eq_getElem hk, List.foldl_append]; rfl
    rw [this]
    exact ⟨r1, r2⟩
  · rintro s ⟨rfl, hP⟩
    rw [List.take_length] at hP ⊢
    exact hq hP
/-- the first item that is bad ends the def; nothing else changes -/
theorem s_check {α : Type} {fi : EvI} {gt : GS} {body : EvS} {ws : List Nat} (xs : List α) (fx : α → PyData) (p : α → Bool) (sv : SV) (hw : Walks fi ⟨env, st⟩ (xs.map fx) st1)
    (step : ∀ x ∈ xs, ∃ e1, gt (fx x) env = some e1 ∧ OkS (body st1.length ⟨e1, st1⟩) fun fl s' => if p x = true then (fl = .next ∨ fl = .cont) ∧ wipeS ws st1.length s' = ⟨env, st1⟩ else fl = .ret sv ∧ s'.st = st1)
    (hq : xs.all p = true → Q .next ⟨env, st1⟩) (hr : xs.all p = false → ∀ env', Q (.ret sv) ⟨env', st1⟩) : OkS (forS fi gt body ws n ⟨env, st⟩) Q := by
  refine s_for xs fx (fun k s => s = ⟨env, st1⟩ ∧ (xs.take k).all p = true) hw ⟨rfl, by simp⟩ ?_ ?_
  · rintro k hk s ⟨rfl, hP⟩
    obtain ⟨e1, q1, q2⟩ := step xs[k] (List.getElem_mem hk)
    refine ⟨e1, q1, q2.mono ?_⟩
    intro fl s' hs
    cases hp : p xs[k] with
    | true =>
      rw [if_pos hp] at hs
      have hn : wipeS ws st1.length s' = ⟨env, st1⟩ ∧ (xs.take (k + 1)).all p = true := by
        refine ⟨hs.2, ?_⟩
        rw [List.take_add_one, List.getElem?_eq_getElem hk, List.all_append, hP]
        simp [hp]
      rcases hs.1 with rfl | rfl
      · exact hn
      · exact hn
    | false =>
      rw [if_neg (by rw [hp]; exact Bool.false_ne_true)] at hs
      obtain ⟨rfl, h2⟩ := hs
      have : xs.all p = false := by
        rw [List.all_eq_false]
        exact ⟨xs[k], List.getElem_mem hk, by rw [hp]; exact Bool.false_ne_true⟩
      have r := hr this s'.env
      rw [← h2] at r
      exact r
  · rintro s ⟨rfl, hP⟩
    rw [List.take_length] at hP
    exact hq hP
/-! ### whole defs -/
theorem f_run {N : Nat} {body : EvS} {svs : List SV} {objs : Sto} {r : RE} (h : OkS (body objs.length ⟨DL.envOf N svs, objs⟩) fun fl s' => endF objs.length (.ok (fl, s')) = r) : DL.runF N body svs objs = r := runF_ok h
end
end DL
end
section
set_option Elab.async false
set_option linter.all false
set_option maxRecDepth 100000
set_option maxHeartbeats 1000000
/-! The data layer, part x: typed data: equality, order, least, greatest, sorted. -/
namespace DL
open PySem PySem.Spec PyProof.Rows L2 PySem.W
/-- a kind of data, one Lean value for each datum; any two can be compared -/
structure Enc (α : Type) where
  f : α → PyData
  alk : ∀ a b, alike (f a) (f b) = true
  dep : Nat
  dle : ∀ a, (f a).depth ≤ dep
  eqv : ∀ a b, PyData.eqv (f a) (f b) = true ↔ a = b
  nn : ∀ a, f a ≠ .none
namespace Enc
variable {α β γ δ : Type}
def lt (e : Enc α) (a b : α) : Bool := dataLt (e.f a) (e.f b)
theorem inj (e : Enc α) {a b : α} (h : e.f a = e.f b) : a = b := by
  rw [← e.eqv, h]
  exact (e.eqv b b).mpr rfl
theorem toks (e : Enc α) {a b : α} (h : keyToks (e.f a) = keyToks (e.f b)) : a = b := by
  rw [← e.eqv]
  cases q : PyData.eqv (e.f a) (e.f b) with
  | true => rfl
  | false =>
    have z := (toks_eqv _ _ (e.alk a b)).2 q
    have z1 := z [] [.inl 0]
    have z2 := z [] []
    rw [h, lex_pre] at z1 z2
    rw [← z2] at z1
    exact absurd z1 (by simp [PyProof.Rows.lexLt])
theorem eqv_d [DecidableEq α] (e : Enc α) (a b : α) : PyData.eqv (e.f a) (e.f b) = decide (a = b) := by
  rw [Bool.eq_iff_iff, decide_eq_true_iff]; exact e.eqv a b
theorem irr (e : Enc α) (a : α) : e.lt a a = false := lex_irrefl _
theorem trans (e : Enc α) {a b c : α} (h1 : e.lt a b = true) (h2 : e.lt b c = true) : e.lt a c = true := lex_trans _ _ _ h1 h2
theorem neg (e : Enc α) {a b c : α} (h : e.lt a c = true) : e.lt a b = true ∨ e.lt b c = true := lex_negTrans _ _ _ h
theorem tri (e : Enc α) {a b : α} (h1 : e.lt a b = false) (h2 : e.lt b a = false) : a = b := e.toks (lex_total _ _ h1 h2)
theorem asymm (e : Enc α) {a b : α} (h : e.lt a b = true) : e.lt b a = false := by
  cases q : e.lt b a with
  | false => rfl
  | true => have := e.trans h q; rw [e.irr] at this; exact this.symm
theorem le_trans (e : Enc α) {a b c : α} (h1 : e.lt b a = false) (h2 : e.lt c b = false) : e.lt c a = false := by
  cases q : e.lt c a with
  | false => rfl
  | true => rcases e.neg (b := b) q with h | h
            · rw [h2] at h; exact h.symm
            · rw [h1] at h; exact h.symm
theorem depAll (e : Enc α) : ∀ xs : List α, PyData.depthAll (xs.map e.f) ≤ e.dep
  | [] => Nat.zero_le _
  | x :: xs => by
    rw [List.map_cons, PyData.depthAll]
    exact Nat.max_le.mpr ⟨e.dle x, depAll e xs⟩
theorem eqD_e [DecidableEq α] (e : Enc α) (h : e.dep ≤ 40) (a b : α) : eqD (e.f a) (e.f b) = some (.bool (decide (a = b))) := by
  unfold eqD
  rw [if_pos (Nat.le_trans (Nat.min_le_left _ _) (Nat.le_trans (e.dle a) h)), e.eqv_d]
theorem neD_e [DecidableEq α] (e : Enc α) (h : e.dep ≤ 40) (a b : α) : neD (e.f a) (e.f b) = some (.bool (!decide (a = b))) := by
  unfold neD
  rw [if_pos (Nat.le_trans (Nat.min_le_left _ _) (Nat.le_trans (e.dle a) h)), e.eqv_d]
theorem any_e [DecidableEq α] (e : Enc α) (a : α) (xs : List α) : ((xs.map e.f).any fun y => PyData.eqv y (e.f a)) = decide (a ∈ xs) := by
  rw [Bool.eq_iff_iff, decide_eq_true_iff, List.any_eq_true]
  constructor
  · rintro ⟨y, hy, q⟩
    obtain ⟨x, hx, rfl⟩ := List.mem_map.mp hy
    rw [(e.eqv x a).mp q] at hx
    exact hx
  · intro h
    exact ⟨_, List.mem_map.mpr ⟨a, h, rfl⟩, (e.eqv a a).mpr rfl⟩
theorem inL [DecidableEq α] (e : Enc α) (h : e.dep ≤ 40) (a : α) (xs : List α) : inD (e.f a) (.list (xs.map e.f)) = some (.bool (decide (a ∈ xs))) := by
  have : inD (e.f a) (.list (xs.map e.f)) = if min (PyData.depthAll (xs.map e.f)) (e.f a).depth ≤ 40 then some (.bool ((xs.map e.f).any fun y => PyData.eqv y (e.f a))) else none := by
    unfold inD; rfl
  rw [this, if_pos (Nat.le_trans (Nat.min_le_right _ _) (Nat.le_trans (e.dle a) h)), e.any_e]
theorem inT [DecidableEq α] (e : Enc α) (h : e.dep ≤ 40) (a : α) (xs : List α) : inD (e.f a) (.tuple (xs.map e.f)) = some (.bool (decide (a ∈ xs))) := by
  have : inD (e.f a) (.tuple (xs.map e.f)) = if min (PyData.depthAll (xs.map e.f)) (e.f a).depth ≤ 40 then some (.bool ((xs.map e.f).any fun y => PyData.eqv y (e.f a))) else none := by
    unfold inD
    cases e.f a <;> rfl
  rw [this, if_pos (Nat.le_trans (Nat.min_le_right _ _) (Nat.le_trans (e.dle a) h)), e.any_e]
theorem notInL [DecidableEq α] (e : Enc α) (h : e.dep ≤ 40) (a : α) (xs : List α) : notInD (e.f a) (.list (xs.map e.f)) = some (.bool (!decide (a ∈ xs))) := by
  unfold notInD; rw [e.inL h]
theorem notInT [DecidableEq α] (e : Enc α) (h : e.dep ≤ 40) (a : α) (xs : List α) : notInD (e.f a) (.tuple (xs.map e.f)) = some (.bool (!decide (a ∈ xs))) := by
  unfold notInD; rw [e.inT h]
theorem ordOk_e (e : Enc α) (h : e.dep ≤ 40) (a b : α) : ordOk (e.f a) (e.f b) := by
  refine ⟨e.alk a b, Nat.le_trans (e.dle a) h, ?_⟩
  have := e.nn a
  revert this
  cases e.f a <;> simp
theorem ltD_e (e : Enc α) (h : e.dep ≤ 40) (a b : α) : ltD (e.f a) (e.f b) = some (.bool (e.lt a b)) := by
  unfold ltD; rw [if_pos (e.ordOk_e h a b)]; rfl
theorem gtD_e (e : Enc α) (h : e.dep ≤ 40) (a b : α) : gtD (e.f a) (e.f b) = some (.bool (e.lt b a)) := by
  unfold gtD; rw [if_pos (e.ordOk_e h a b)]; rfl
theorem leD_e (e : Enc α) (h : e.dep ≤ 40) (a b : α) : leD (e.f a) (e.f b) = some (.bool (!e.lt b a)) := by
  unfold leD; rw [if_pos (e.ordOk_e h a b)]; rfl
theorem geD_e (e : Enc α) (h : e.dep ≤ 40) (a b : α) : geD (e.f a) (e.f b) = some (.bool (!e.lt a b)) := by
  unfold geD; rw [if_pos (e.ordOk_e h a b)]; rfl
theorem alikeAll_e (e : Enc α) (xs : List α) : AlikeAll (xs.map e.f) := by
  constructor
  · intro x hx y hy
    obtain ⟨a, _, rfl⟩ := List.mem_map.mp hx
    obtain ⟨b, _, rfl⟩ := List.mem_map.mp hy
    exact e.alk a b
  · intro x hx
    obtain ⟨a, _, rfl⟩ := List.mem_map.mp hx
    exact e.nn a
/-! least, greatest -/
def minE (e : Enc α) (x : α) (xs : List α) : α := xs.foldl (fun a y => if e.lt y a = true then y else a) x
def maxE (e : Enc α) (x : α) (xs : List α) : α := xs.foldl (fun a y => if e.lt a y = true then y else a) x
theorem minD_e (e : Enc α) : ∀ (x : α) (xs : List α), minD (e.f x) (xs.map e.f) = e.f (e.minE x xs)
  | x, [] => rfl
  | x, y :: ys => by
    have ih := minD_e e (if e.lt y x = true then y else x) ys
    unfold minD at ih ⊢
    rw [List.map_cons, List.foldl_cons]
    show (ys.map e.f).foldl _ (if e.lt y x = true then e.f y else e.f x) = _
    rw [← apply_ite e.f, ih]
    rfl
theorem maxD_e (e : Enc α) : ∀ (x : α) (xs : List α), maxD (e.f x) (xs.map e.f) = e.f (e.maxE x xs)
  | x, [] => rfl
  | x, y :: ys => by
    have ih := maxD_e e (if e.lt x y = true then y else x) ys
    unfold maxD at ih ⊢
    rw [List.map_cons, List.foldl_cons]
    show (ys.map e.f).foldl _ (if e.lt x y = true then e.f y else e.f x) = _
    rw [← apply_ite e.f, ih]
    rfl
theorem minE_spec (e : Enc α) : ∀ (x : α) (xs : List α), e.minE x xs ∈ x :: xs ∧ ∀ y ∈ x :: xs, e.lt y (e.minE x xs) = false
  | x, [] => ⟨List.mem_cons_self, fun y hy => by rw [List.mem_singleton.mp hy]; exact e.irr x⟩
  | x, y :: ys => by
    obtain ⟨h1, h2⟩ := minE_spec e (if e.lt y x = true then y else x) ys
    have he : e.minE x (y :: ys) = e.minE (if e.lt y x = true then y else x) ys := rfl
    rw [he]
    refine ⟨?_, ?_⟩
    · rcases List.mem_cons.mp h1 with h | h
      · rw [h]; split <;> simp
      · exact List.mem_cons_of_mem _ (List.mem_cons_of_mem _ h)
    · have h0 := h2 _ List.mem_cons_self
      intro z hz
      rcases List.mem_cons.mp hz with rfl | hz
      · cases q : e.lt y z with
        | true => rw [q] at h0; exact e.le_trans h0 (e.asymm q)
        | false => rw [q] at h0; exact h0
      · rcases List.mem_cons.mp hz with rfl | hz
        · cases q : e.lt z x with
          | true => rw [q] at h0; exact h0
          | false => rw [q] at h0; exact e.le_trans h0 q
        · exact h2 z (List.mem_cons_of_mem _ hz)
theorem maxE_spec (e : Enc α) : ∀ (x : α) (xs : List α), e.maxE x xs ∈ x :: xs ∧ ∀ y ∈ x :: xs, e.lt (e.maxE x xs) y = false
  | x, [] => ⟨List.mem_cons_self, fun y hy => by rw [List.mem_singleton.mp hy]; exact e.irr x⟩
  | x, y :: ys => by
    obtain ⟨h1, h2⟩ := maxE_spec e (if e.lt x y = true then y else x) ys
    have he : e.maxE x (y :: ys) = e.maxE (if e.lt x y = true then y else x) ys := rfl
    rw [he]
    refine ⟨?_, ?_⟩
    · rcases List.mem_cons.mp h1 with h | h
      · rw [h]; split <;> simp
      · exact List.mem_cons_of_mem _ (List.mem_cons_of_mem _ h)
    · have h0 := h2 _ List.mem_cons_self
      intro z hz
      rcases List.mem_cons.mp hz with rfl | hz
      · cases q : e.lt z y with
        | true => rw [q] at h0; exact e.le_trans (e.asymm q) h0
        | false => rw [q] at h0; exact h0
      · rcases List.mem_cons.mp hz with rfl | hz
        · cases q : e.lt x z with
          | true => rw [q] at h0; exact h0
          | false => rw [q] at h0; exact e.le_trans q h0
        · exact h2 z (List.mem_cons_of_mem _ hz)
/-- the least of some: it is one of them, and none is less -/
theorem minL (e : Enc α) (h : e.dep ≤ 40) {xs : List α} (hx : xs ≠ []) : ∃ m, minDD (.list (xs.map e.f)) = some (e.f m) ∧ m ∈ xs ∧ ∀ y ∈ xs, e.lt y m = false := by
  cases xs with
  | nil => exact absurd rfl hx
  | cons x xs =>
    obtain ⟨h1, h2⟩ := e.minE_spec x xs
    refine ⟨e.minE x xs, ?_, h1, h2⟩
    rw [List.map_cons]
    unfold minDD
    simp only
    rw [if_pos, e.minD_e]
    have := e.alikeAll_e (x :: xs)
    have h3 := e.depAll (x :: xs)
    rw [List.map_cons] at this h3
    exact ⟨this, Nat.le_trans h3 h⟩
theorem maxL (e : Enc α) (h : e.dep ≤ 40) {xs : List α} (hx : xs ≠ []) : ∃ m, maxDD (.list (xs.map e.f)) = some (e.f m) ∧ m ∈ xs ∧ ∀ y ∈ xs, e.lt m y = false := by
  cases xs with
  | nil => exact absurd rfl hx
  | cons x xs =>
    obtain ⟨h1, h2⟩ := e.maxE_spec x xs
    refine ⟨e.maxE x xs, ?_, h1, h2⟩
    rw [List.map_cons]
    unfold maxDD
    simp only
    rw [if_pos, e.maxD_e]
    have := e.alikeAll_e (x :: xs)
    have h3 := e.depAll (x :: xs)
    rw [List.map_cons] at this h3
    exact ⟨this, Nat.le_trans h3 h⟩
/-- two least ones are the same -/
theorem least_uniq (e : Enc α) {m m' : α} (h1 : e.lt m m' = false) (h2 : e.lt m' m = false) : m = m' := e.tri h1 h2
/-! sorted -/
def srt (e : Enc α) (xs : List α) : List α := xs.mergeSort fun a b => !e.lt b a
theorem srt_perm (e : Enc α) (xs : List α) : (e.srt xs).Perm xs := List.mergeSort_perm _ _
theorem srt_sorted (e : Enc α) (xs : List α) : (e.srt xs).Pairwise fun a b => e.lt b a = false := by
  have := List.pairwise_mergeSort (le := fun a b => !e.lt b a) (fun a b c h1 h2 => by simp only [Bool.not_eq_true'] at *; exact e.le_trans h1 h2) (fun a b => by
    cases q : e.lt b a with
    | false => simp
    | true => simp [e.asymm q]) xs
  exact this.imp fun h => by simpa using h
theorem sortD_e (e : Enc α) (xs : List α) : sortD (xs.map e.f) = (e.srt xs).map e.f := by
  unfold sortD srt
  rw [dataLe_eq]
  symm
  exact List.map_mergeSort (fun a _ b _ => rfl)
theorem sortedL (e : Enc α) (h : e.dep ≤ 40) {xs : List α} (hs : Sortable (xs.map e.f)) : sortedDD (.list (xs.map e.f)) = some (.list ((e.srt xs).map e.f)) := by
  unfold sortedDD
  simp only
  rw [if_pos, e.sortD_e]
  exact ⟨(e.alikeAll_e xs).1, hs, Nat.le_trans (e.depAll xs) h⟩
theorem sortedT (e : Enc α) (h : e.dep ≤ 40) {xs : List α} (hs : Sortable (xs.map e.f)) : sortedDD (.tuple (xs.map e.f)) = some (.list ((e.srt xs).map e.f)) := by
  unfold sortedDD
  simp only
  rw [if_pos, e.sortD_e]
  exact ⟨(e.alikeAll_e xs).1, hs, Nat.le_trans (e.depAll xs) h⟩
/-! kinds -/
def int : Enc Int := ⟨.int, fun _ _ => by simp [alike], 0, fun _ => by simp [PyData.depth], fun a b => by simp [PyData.eqv], fun _ => by simp⟩
def nat : Enc Nat := ⟨fun n => .int n, fun _ _ => by simp [alike], 0, fun _ => by simp [PyData.depth], fun a b => by simp [PyData.eqv]; omega, fun _ => by simp⟩
def str : Enc Str := ⟨.str, fun _ _ => by simp [alike], 0, fun _ => by simp [PyData.depth], fun a b => by simp [PyData.eqv], fun _ => by simp⟩
def bool : Enc Bool := ⟨.bool, fun _ _ => by simp [alike], 0, fun _ => by simp [PyData.depth], fun a b => by simp [PyData.eqv], fun _ => by simp⟩
theorem alikeAll_map (e : Enc α) : ∀ xs ys : List α, alikeAll (xs.map e.f) (ys.map e.f) = true
  | [], _ => by simp [alikeAll]
  | _ :: _, [] => by simp [alikeAll]
  | x :: xs, y :: ys => by simp [alikeAll, e.alk, alikeAll_map e xs ys]
theorem eqvAll_map (e : Enc α) : ∀ xs ys : List α, PyData.eqvAll (xs.map e.f) (ys.map e.f) = true ↔ xs = ys
  | [], [] => by simp [PyData.eqvAll]
  | _ :: _, [] => by simp [PyData.eqvAll]
  | [], _ :: _ => by simp [PyData.eqvAll]
  | x :: xs, y :: ys => by simp [PyData.eqvAll, e.eqv, eqvAll_map e xs ys]
/-- a tuple of things of one kind -/
def tupL (e : Enc α) : Enc (List α) := ⟨fun xs => .tuple (xs.map e.f), fun a b => by simp [alike, alikeAll_map], e.dep + 1, fun a => by have := e.depAll a; simp [PyData.depth]; omega, fun a b => by simp [PyData.eqv, eqvAll_map], fun _ => by simp⟩
def lstL (e : Enc α) : Enc (List α) := ⟨fun xs => .list (xs.map e.f), fun a b => by simp [alike, alikeAll_map], e.dep + 1, fun a => by have := e.depAll a; simp [PyData.depth]; omega, fun a b => by simp [PyData.eqv, eqvAll_map], fun _ => by simp⟩
def tup2 (e : Enc α) (e' : Enc β) : Enc (α × β) := ⟨fun p => .tuple [e.f p.1, e'.f p.2], fun a b => by simp [alike, alikeAll, e.alk, e'.alk], max e.dep e'.dep + 1, fun a => by have := e.dle a.1; have := e'.dle a.2; simp [PyData.depth, PyData.depthAll]; omega,
  fun a b => by simp [PyData.eqv, PyData.eqvAll, e.eqv, e'.eqv, Prod.ext_iff], fun _ => by simp⟩
def tup3 (e : Enc α) (e' : Enc β) (e2 : Enc γ) : Enc (α × β × γ) := ⟨fun p => .tuple [e.f p.1, e'.f p.2.1, e2.f p.2.2], fun a b => by simp [alike, alikeAll, e.alk, e'.alk, e2.alk], max e.dep (max e'.dep e2.dep) + 1, fun a => by have := e.dle a.1; have := e'.dle a.2.1; have := e2.dle a.2.2; simp [PyData.depth, PyData.depthAll]; omega,
  fun a b => by simp [PyData.eqv, PyData.eqvAll, e.eqv, e'.eqv, e2.eqv, Prod.ext_iff], fun _ => by simp⟩
/-! their orders -/
theorem lt_int (a b : Int) : int.lt a b = decide (a < b) := dataLt_int a b
theorem lt_nat (a b : Nat) : nat.lt a b = decide (a < b) := by
  show dataLt (.int a) (.int b) = _
  rw [dataLt_int]
  by_cases h : a < b
  · rw [decide_eq_true h, decide_eq_true (by omega)]
  · rw [decide_eq_false h, decide_eq_false (by omega)]
theorem lt_str (a b : Str) : str.lt a b = decide (a.cps.toList < b.cps.toList) := dataLt_str a b
theorem lt_tup2 [DecidableEq α] (e : Enc α) (e' : Enc β) (p q : α × β) : (tup2 e e').lt p q = (e.lt p.1 q.1 || (decide (p.1 = q.1) && e'.lt p.2 q.2)) := by
  show dataLt (.tuple [e.f p.1, e'.f p.2]) (.tuple [e.f q.1, e'.f q.2]) = _
  classical
  rw [dataLt_pair (e.alk _ _) (e'.alk _ _), e.eqv_d]
  by_cases h : p.1 = q.1
  · rw [decide_eq_true h, if_pos rfl, h, e.irr]
    simp only [Bool.false_or, Bool.true_and]
    rw [e'.eqv_d]
    by_cases h2 : p.2 = q.2
    · rw [decide_eq_true h2, if_pos rfl, h2, e'.irr]
    · rw [decide_eq_false h2]; rfl
  · rw [decide_eq_false h]
    simp [lt]
theorem lt_tupL_nil (e : Enc α) (ys : List α) : (tupL e).lt [] ys = !ys.isEmpty := by
  show dataLt (.tuple ([].map e.f)) (.tuple (ys.map e.f)) = _
  rw [dataLt_tuple]
  cases ys with
  | nil => exact lex_irrefl _
  | cons y ys =>
    rw [List.map_cons, List.map_nil, toks_all_cons]
    simp only [keyToksAll]
    rw [lex_diff (O := itemOrd) (by simp)]
    rfl
theorem lt_tupL_nil' (e : Enc α) (xs : List α) : (tupL e).lt xs [] = false := by
  cases xs with
  | nil => exact (tupL e).irr _
  | cons x xs =>
    refine (tupL e).asymm ?_
    rw [lt_tupL_nil]; rfl
theorem lt_tupL_cons [DecidableEq α] (e : Enc α) (x y : α) (xs ys : List α) : (tupL e).lt (x :: xs) (y :: ys) = (e.lt x y || (decide (x = y) && (tupL e).lt xs ys)) := by
  show dataLt (.tuple ((x :: xs).map e.f)) (.tuple ((y :: ys).map e.f)) = (e.lt x y || (decide (x = y) && dataLt (.tuple (xs.map e.f)) (.tuple (ys.map e.f))))
  rw [dataLt_tuple, dataLt_tuple, List.map_cons, List.map_cons, dataLt_cons (e.alk _ _), e.eqv_d]
  by_cases h : x = y
  · subst h
    rw [decide_eq_true rfl, if_pos rfl, e.irr]
    simp
  · rw [decide_eq_false h]
    simp [lt]
end Enc
/-! operators on natural numbers -/
section
variable (a b : Nat)
theorem ltD_nat : ltD (.int a) (.int b) = some (.bool (decide (a < b))) := by rw [ltD_int]; congr 2; simp
theorem leD_nat : leD (.int a) (.int b) = some (.bool (decide (a ≤ b))) := by rw [leD_int]; congr 2; simp
theorem gtD_nat : gtD (.int a) (.int b) = some (.bool (decide (b < a))) := by rw [gtD_int]; congr 2; simp
theorem geD_nat : geD (.int a) (.int b) = some (.bool (decide (b ≤ a))) := by rw [geD_int]; congr 2; simp
theorem eqD_nat : eqD (.int a) (.int b) = some (.bool (decide (a = b))) := by rw [eqD_int]; congr 3; simp; omega
theorem neD_nat : neD (.int a) (.int b) = some (.bool (!decide (a = b))) := by rw [neD_int]; congr 4; simp; omega
theorem addD_nat : addD (.int a) (.int b) = some (.int ((a + b : Nat) : Int)) := by simp
theorem addD_nat1 : addD (.int a) (.int 1) = some (.int ((a + 1 : Nat) : Int)) := by simp
theorem iaddD_nat : iaddD (.int a) (.int b) = some (.int ((a + b : Nat) : Int)) := by simp [iaddD]
theorem iaddD_nat1 : iaddD (.int a) (.int 1) = some (.int ((a + 1 : Nat) : Int)) := by simp [iaddD]
theorem iaddD_int (a b : Int) : iaddD (.int a) (.int b) = some (.int (a + b)) := rfl
theorem subD_nat1 (h : 1 ≤ a) : subD (.int a) (.int 1) = some (.int ((a - 1 : Nat) : Int)) := by simp; omega
theorem eqD_nat0 : eqD (.int a) (.int 0) = some (.bool (decide (a = 0))) := by rw [eqD_int]; congr 3; simp
theorem gtD_nat0 : gtD (.int a) (.int 0) = some (.bool (decide (0 < a))) := by rw [gtD_int]; congr 2; simp
theorem mulD_nat (h : a < 2 ^ 64 ∨ b < 2 ^ 64) : mulD (.int a) (.int b) = some (.int ((a * b : Nat) : Int)) := by
  rcases h with h | h
  · rw [mulD_int' (by omega)]; simp
  · rw [mulD_int (by omega)]; simp
end
/-! items -/
theorem item_tm {α : Type} (f : α → PyData) (xs : List α) (i : Nat) (h : i < xs.length) : itemD (.tuple (xs.map f)) (.int i) = some (f xs[i]) := by
  rw [itemD_tuple, List.getElem?_map, List.getElem?_eq_getElem h]; rfl
theorem item_lm {α : Type} (f : α → PyData) (xs : List α) (i : Nat) (h : i < xs.length) : itemD (.list (xs.map f)) (.int i) = some (f xs[i]) := by
  rw [itemD_list, List.getElem?_map, List.getElem?_eq_getElem h]; rfl
theorem item_llast {ds : List PyData} {d : PyData} (h : ds.getLast? = some d) : itemD (.list ds) (.int (-1)) = some d := by
  have hl : ds ≠ [] := fun z => by rw [z] at h; cases h
  have hl' : 0 < ds.length := List.length_pos_iff.mpr hl
  unfold itemD atI ixN
  simp only
  rw [List.getLast?_eq_getElem?] at h
  by_cases h1 : (0 : Int) ≤ -1
  · exact absurd h1 (by decide)
  · have e : ((-1 : Int) + ds.length).toNat = ds.length - 1 := by omega
    rw [if_neg (by decide), if_pos (by omega), e]
    exact h
/-! kinds -/
section
variable {b : Bool} {i : Int} {x : Str} {ds : List PyData}
theorem y_bool_none : isiB .bool .none = false := rfl
theorem y_bool_bool : isiB .bool (.bool b) = true := rfl
theorem y_bool_int : isiB .bool (.int i) = false := rfl
theorem y_bool_str : isiB .bool (.str x) = false := rfl
theorem y_bool_list : isiB .bool (.list ds) = false := rfl
theorem y_bool_tuple : isiB .bool (.tuple ds) = false := rfl
theorem y_int_none : isiB .int .none = false := rfl
theorem y_int_bool : isiB .int (.bool b) = true := rfl
theorem y_int_int : isiB .int (.int i) = true := rfl
theorem y_int_str : isiB .int (.str x) = false := rfl
theorem y_int_list : isiB .int (.list ds) = false := rfl
theorem y_int_tuple : isiB .int (.tuple ds) = false := rfl
theorem y_str_none : isiB .str .none = false := rfl
theorem y_str_bool : isiB .str (.bool b) = false := rfl
theorem y_str_int : isiB .str (.int i) = false := rfl
theorem y_str_str : isiB .str (.str x) = true := rfl
theorem y_str_list : isiB .str (.list ds) = false := rfl
theorem y_str_tuple : isiB .str (.tuple ds) = false := rfl
theorem y_list_none : isiB .list .none = false := rfl
theorem y_list_bool : isiB .list (.bool b) = false := rfl
theorem y_list_int : isiB .list (.int i) = false := rfl
theorem y_list_str : isiB .list (.str x) = false := rfl
theorem y_list_list : isiB .list (.list ds) = true := rfl
theorem y_list_tuple : isiB .list (.tuple ds) = false := rfl
theorem y_tuple_none : isiB .tuple .none = false := rfl
theorem y_tuple_bool : isiB .tuple (.bool b) = false := rfl
theorem y_tuple_int : isiB .tuple (.int i) = false := rfl
theorem y_tuple_str : isiB .tuple (.str x) = false := rfl
theorem y_tuple_list : isiB .tuple (.list ds) = false := rfl
theorem y_tuple_tuple : isiB .tuple (.tuple ds) = true := rfl
end
/-! sums, kinds of rows -/
theorem ints_map {α : Type} (g : α → Int) : ∀ xs : List α, intsOf (xs.map fun x => PyData.int (g x)) = some (xs.map g)
  | [] => rfl
  | x :: xs => by rw [List.map_cons, intsOf, ints_map g xs]; rfl
theorem sum_int {α : Type} (g : α → Int) (xs : List α) : sumD (.list (xs.map fun x => PyData.int (g x))) = some (.int (xs.map g).sum) := by
  unfold sumD; simp only; rw [ints_map]; rfl
theorem sum_cast {α : Type} (g : α → Nat) : ∀ xs : List α, (xs.map fun x => ((g x : Nat) : Int)).sum = (((xs.map g).sum : Nat) : Int)
  | [] => rfl
  | x :: xs => by simp [sum_cast g xs]
theorem sum_nat {α : Type} (g : α → Nat) (xs : List α) : sumD (.list (xs.map fun x => PyData.int ((g x : Nat) : Int))) = some (.int (((xs.map g).sum : Nat) : Int)) := by
  rw [sum_int (fun x => ((g x : Nat) : Int)), sum_cast]
theorem tupleD_tuple (ds : List PyData) : tupleD (.tuple ds) = some (.tuple ds) := rfl
theorem listD_tuple (ds : List PyData) : listD (.tuple ds) = some (.list ds) := rfl
theorem listD_list (ds : List PyData) : listD (.list ds) = some (.list ds) := rfl
theorem mulD_nat' (a b : Nat) (h : a < 2 ^ 64) : mulD (.int a) (.int b) = some (.int ((a * b : Nat) : Int)) := mulD_nat a b (.inl h)
/-! slices -/
theorem cut_from {α : Type} (xs : List α) (k : Nat) : cutD xs (some (k : Int)) none = xs.drop k := by
  unfold cutD
  rw [HT.sIx_nat, HT.sIx_none]
  by_cases h : k ≤ xs.length
  · rw [Nat.min_eq_left h, List.take_of_length_le (by rw [List.length_drop]; omega)]
  · rw [Nat.min_eq_right (by omega), List.drop_length, List.drop_eq_nil_of_le (by omega), List.take_nil]
theorem cut_to {α : Type} (xs : List α) (k : Nat) : cutD xs none (some (k : Int)) = xs.take k := by
  unfold cutD
  rw [HT.sIx_nat, HT.sIx_none, List.drop_zero, Nat.sub_zero]
  by_cases h : k ≤ xs.length
  · rw [Nat.min_eq_left h]
  · rw [Nat.min_eq_right (by omega), List.take_length, List.take_of_length_le (by omega)]
theorem slice_from_t {α : Type} (f : α → PyData) (xs : List α) (k : Nat) : sliceD (.tuple (xs.map f)) (some (k : Int)) none = some (.tuple ((xs.drop k).map f)) := by
  unfold sliceD; simp only; rw [cut_from, List.map_drop]
theorem slice_to_t {α : Type} (f : α → PyData) (xs : List α) (k : Nat) : sliceD (.tuple (xs.map f)) none (some (k : Int)) = some (.tuple ((xs.take k).map f)) := by
  unfold sliceD; simp only; rw [cut_to, List.map_take]
theorem slice_from_l {α : Type} (f : α → PyData) (xs : List α) (k : Nat) : sliceD (.list (xs.map f)) (some (k : Int)) none = some (.list ((xs.drop k).map f)) := by
  unfold sliceD; simp only; rw [cut_from, List.map_drop]
theorem slice_to_l {α : Type} (f : α → PyData) (xs : List α) (k : Nat) : sliceD (.list (xs.map f)) none (some (k : Int)) = some (.list ((xs.take k).map f)) := by
  unfold sliceD; simp only; rw [cut_to, List.map_take]
theorem isD_bool (k l : Bool) : isD (.bool k) (.bool l) = some (.bool (k == l)) := rfl
theorem isNotD_bool (k l : Bool) : isNotD (.bool k) (.bool l) = some (.bool (!(k == l))) := rfl
theorem isD_none (a : PyData) : isD a .none = some (.bool (isNoneD a)) := by unfold isD; cases a <;> rfl
theorem isNotD_none (a : PyData) : isNotD a .none = some (.bool (!isNoneD a)) := by unfold isNotD; cases a <;> rfl
end DL
end
section
set_option Elab.async false
set_option linter.all false
set_option maxRecDepth 100000
set_option maxHeartbeats 1000000
/-! The data layer, part y: list comprehensions with two clauses. -/
namespace DL
open PySem PySem.Spec PyProof.Rows L2 PySem.SeqAt PySem.W
/-- the inner loop: the list in the making is the own object n, the last -/
def inN (iv : IVal) (g : GS) (ft : EvT) (fe : EvD) (env : List (Option SV)) (n : Nat) : Nat → Nat → Sto → Res Sto
  | 0, _, _ => .stuck
  | m + 1, i, st => match iv i st with
    | some (some d) => (match g d env with
      | some e1 => (match ft ⟨e1, st⟩ with
        | .ok (true, st1) => (match fe ⟨e1, st1⟩ with
          | .ok (y, st2) => (match st2[n]? with
            | some (.lst ds) => if ds.length < 16777216 then inN iv g ft fe env n m (i + 1) (st2.set n (.lst (ds ++ [y]))) else .stuck
            | _ => .stuck)
          | _ => .stuck)
        | .ok (false, st1) => inN iv g ft fe env n m (i + 1) st1
        | _ => .stuck)
      | none => .stuck)
    | some none => .ok st
    | none => .stuck
def comp2N (iv : IVal) (g : GS) (ft : EvT) (fi1 : EvI) (vs1 : List Nat) (g1 : GS) (ft1 : EvT) (fe : EvD) (env : List (Option SV)) : Nat → Nat → Sto → List PyData → RC
  | 0, _, _, _ => .stuck
  | m + 1, i, st, acc => match iv i st with
    | some (some d) => (match g d env with
      | some e1 => (match ft ⟨e1, st⟩ with
        | .ok (true, st1) => (match fi1 ⟨e1, st1 ++ [.lst acc]⟩ with
          | .ok (iv1, st2) => (match inN iv1 g1 ft1 fe (wipeL e1 vs1) st.length m 0 st2 with
            | .ok st3 => (match st3[st.length]? with
              | some (.lst acc') => comp2N iv g ft fi1 vs1 g1 ft1 fe env m (i + 1) (st3.take st.length) acc'
              | _ => .stuck)
            | _ => .stuck)
          | _ => .stuck)
        | .ok (false, st1) => comp2N iv g ft fi1 vs1 g1 ft1 fe env m (i + 1) st1 acc
        | _ => .stuck)
      | none => .stuck)
    | some none => .ok (acc, st)
    | none => .stuck
/-- one fuel for both -/
noncomputable def comp2C (fi : EvI) (vs : List Nat) (g : GS) (ft : EvT) (fi1 : EvI) (vs1 : List Nat) (g1 : GS) (ft1 : EvT) (fe : EvD) : EvC := fun s => (fi s).bind fun p => lim fun m => comp2N p.1 g ft fi1 vs1 g1 ft1 fe (wipeL s.env vs) m 0 p.2 []
section
variable {K : PySem.W.Frag} {c : Cfg} {B as : List Addr} {σ σ' : L2.St} {H H' : Hp} {s : S} {env env' : List (Option SV)} {st' : Sto} {D : Addr} {o : O}
/-- the list in the making lies outside again -/
theorem SR.backD (sr' : SR K c B (as ++ [D]) H' σ' ⟨env', st' ++ [o]⟩) (sr : SR K c (D :: B) as H σ s) (ev : Evo (as ++ [D]) H H') : SR K c (D :: B) as H' σ ⟨s.env, st'⟩ := by
  have hav : ∀ x ∈ (D :: B) ++ as, x ∈ B ++ (as ++ [D]) ∨ H' x = none := fun x hx => .inl (by
    rcases List.mem_append.mp hx with z | z
    · rcases List.mem_cons.mp z with z | z
      · rw [z]; exact List.mem_append_right _ (List.mem_append_right _ (List.mem_singleton.mpr rfl))
      · exact List.mem_append_left _ z
    · exact List.mem_append_right _ (List.mem_append_left _ z))
  have hev : ∀ x ∈ as ++ [D], x ∈ (D :: B) ++ as := fun x hx => by
    rcases List.mem_append.mp hx with z | z
    · exact List.mem_append_right _ z
    · rw [List.mem_singleton.mp z]; exact List.mem_append_left _ List.mem_cons_self
  have hal := sr'.aslen
  simp only [List.length_append, List.length_cons, List.length_nil] at hal
  refine ⟨sr.len, fun i sv q => ?_, (List.nodup_append.mp sr'.nd).1, by simp only; omega, fun i o' a h1 h2 => ?_, fun a ha => ?_, sr'.tabs⟩
  · obtain ⟨v, q1, q2⟩ := sr.slot i sv q
    exact ⟨v, q1, q2.evo ev hev⟩
  · have hi := (List.getElem?_eq_some_iff.mp h2).1
    have h1' : (st' ++ [o])[i]? = some o' := by
      rw [List.getElem?_append_left (by omega)]; exact h1
    have h2' : (as ++ [D])[i]? = some a := by
      rw [List.getElem?_append_left hi]; exact h2
    exact (sr'.objs i o' a h1' h2').avoid hav
  · rcases List.mem_cons.mp ha with z | z
    · obtain ⟨u, q, _⟩ := sr'.there (a := D) (List.mem_append_right _ (List.mem_singleton.mpr rfl))
      rw [z, q]; exact fun z => by cases z
    · exact sr'.out a z
end
section
variable {X : Cx} {c : Cfg} {W : WX} {B as : List Addr} {σ : L2.St} {H : Hp} {s : S} {tg iter elt tg1 iter1 : Expr} {ifs ifs1 : List Expr} {scope : Scope} {pos : Pos} {g g1 : GS} {ft ft1 : EvT} {fe : EvD} {fi fi1 : EvI} {q : Bool} {is is1 : List Nat}
def iDI (X : Cx) (c : Cfg) (W : WX) (fi : EvI) : TI := fun σ H R => ∃ (B as : List Addr) (s : S), SR X.K c B as H σ s ∧ WantsG X c W (RepI X.K c) B as σ H s.env false R (fi s)
theorem DI.pi (h : DI X c W tg iter fi) : PI X tg iter (iDI X c W fi) := by
  obtain ⟨wi, p, r⟩ := h
  refine ⟨fun pins s σ H R I h => ?_⟩
  obtain ⟨B, as, s', sr, hw⟩ := h
  exact p.run pins s σ H R I (r B as σ H s' R sr hw)
/-- what the reading of a comprehension with two clauses asks -/
theorem lc2_ref {wi : TI} {vs vs1 : List Nat} (his : ∀ i ∈ is, i ∈ vs) (his1 : ∀ i ∈ is1, i ∈ vs1)
    (ri : ∀ (B as : List Addr) (σ : L2.St) (H : Hp) (s : S) (R : It → Hp → Prop), SR X.K c B as H σ s → WantsG X c W (RepI X.K c) B as σ H s.env false R (fi s) → wi σ H R)
    {Q : VK} (sr : SR X.K c B as H σ s) (hw : WantsC X c W B as σ H s.env Q (comp2C fi vs g ft fi1 vs1 g1 ft1 fe s)) :
    tLc2 wi (gDG X c is g) (tDTs X c W0 ft) (iDI X c W0 fi1) (gDG X c is1 g1) (tDTs X c W0 ft1) (tDE X.K X c W0 false q fe) vs vs1 σ H Q := by
  show wi σ H _
  refine WantsC.bindG (s := s) hw sr ri fun J H1 iv st1 e1 ev1 sr1 wd hw1 => ?_
  intro D hD
  have hns : lim (fun m => comp2N iv g ft fi1 vs1 g1 ft1 fe (wipeL s.env vs) m 0 st1 []) ≠ .stuck := fun z => by simp only [z] at hw1; exact hw1
  obtain ⟨m, em⟩ := lim_some hns
  have hw' : WantsC X c W B as σ H1 s.env Q (comp2N iv g ft fi1 vs1 g1 ft1 fe (wipeL s.env vs) m 0 st1 []) := by rw [← em]; exact hw1
  clear em hns hw1
  generalize hR : comp2N iv g ft fi1 vs1 g1 ft1 fe (wipeL s.env vs) m 0 st1 [] = R at hw'
  have hDas : D ∉ as := not_as sr1 hD
  refine ⟨fun i m H => ∃ st acc us, Evo as H1 H ∧ SR X.K c (D :: B) as H σ ⟨s.env, st⟩ ∧ H D = some (.lst us) ∧ RepA X.K ((D :: B) ++ as) H acc us ∧ comp2N iv g ft fi1 vs1 g1 ft1 fe (wipeL s.env vs) m i st acc = R,
    ⟨m, st1, [], [], Evo.new hD, sr1.outN hD, upd_same, .nil, hR⟩, ?_⟩
  rintro i m H2 ⟨st, acc, us, ev, sr2, eD, rs, eR⟩
  have hB : ∀ x ∈ D :: B, x ∈ B ∨ H1 x = none := fun x hx => by
    rcases List.mem_cons.mp hx with z | z
    · exact .inr (by rw [z]; exact hD)
    · exact .inl z
  cases m with
  | zero => rw [← eR] at hw'; exact hw'.elim
  | succ m =>
    unfold comp2N at eR
    split at eR
    · rename_i d ei
      obtain ⟨go, yl⟩ := wd.goes (D :: B) i H2 σ ⟨s.env, st⟩ d hB ev sr2 ei
      split at eR
      · rename_i env1 eg
        refine .inr ⟨go, fun H' => ∃ st acc us, Evo as H1 H' ∧ SR X.K c (D :: B) as H' σ ⟨s.env, st⟩ ∧ H' D = some (.lst us) ∧ RepA X.K ((D :: B) ++ as) H' acc us ∧ comp2N iv g ft fi1 vs1 g1 ft1 fe (wipeL s.env vs) m (i + 1) st acc = R, fun H' q => ⟨m, Nat.lt_succ_self m, q⟩, fun x H3 y => ?_⟩
        obtain ⟨evn, rx⟩ := yl x H3 y
        have sr3 := sr2.evo evn
        have srw := SR.wipe sr3 vs
        refine ⟨D :: B, as, ⟨wipeL s.env vs, st⟩, d, env1, srw, rx, eg, fun σ2 sr4 wn => ⟨?_, ?_⟩⟩
        · rw [wn vs his]
          exact wipe_twice vs σ
        · refine ⟨D :: B, as, ⟨env1, st⟩, sr4, ?_⟩
          have eD3 : H3 D = some (.lst us) := evn.keep D _ eD (by simp) (fun _ z => by cases z)
          have rs3 := RepA.evo evn (fun _ z => by cases z) _ _ rs
          have kD : ∀ {H' : Hp}, Evo as H3 H' → H' D = some (.lst us) ∧ RepA X.K ((D :: B) ++ as) H' acc us := fun e' =>
            ⟨e'.keep D _ eD3 hDas (fun _ z => by cases z), RepA.evo e' (fun x hx => List.mem_append_right _ hx) _ _ rs3⟩
          have ev3 : Evo as H1 H3 := ev.trans' evn.wide
          split at eR
          · rename_i st2 eft
            rw [eft]
            intro b H4 e4 sr5 hb
            have hb' : b = true := hb
            subst hb'
            rw [if_pos rfl]
            have e4' : Evo as H3 H4 := e4
            obtain ⟨k1, k2⟩ := kD e4'
            have sr6 := SR.own sr5 hDas k1 k2
            refine ⟨B, as ++ [D], ⟨env1, st2 ++ [.lst acc]⟩, sr6, ?_⟩
            have hstl : st.length = as.length := sr2.aslen.symm
            have hDn : (as ++ [D])[st.length]? = some D := by rw [hstl, List.getElem?_append_right (Nat.le_refl _), Nat.sub_self]; rfl
            split at eR
            · rename_i iv1 st3 efi
              rw [efi]
              intro J1 H5 e5 sr7 wd1
              have e5' : Evo (as ++ [D]) H4 H5 := e5
              generalize hR1 : inN iv1 g1 ft1 fe (wipeL env1 vs1) st.length m 0 st3 = R1 at eR
              have hDto : ∀ x ∈ as ++ [D], x ∈ as ∨ H1 x = none := fun x hx => by
                rcases List.mem_append.mp hx with z | z
                · exact .inl z
                · exact .inr (by rw [List.mem_singleton.mp z]; exact hD)
              have ev45 : Evo (as ++ [D]) H3 H5 := (e4'.mono fun x hx => List.mem_append_left _ hx).trans' e5'
              refine ⟨fun j k H => ∃ stx, Evo (as ++ [D]) H5 H ∧ SR X.K c B (as ++ [D]) H σ2 ⟨env1, stx⟩ ∧ inN iv1 g1 ft1 fe (wipeL env1 vs1) st.length k j stx = R1,
                ⟨m, st3, Evo.refl, sr7, hR1⟩, ?_⟩
              rintro j k H6 ⟨stx, ev6, sr8, eR1⟩
              cases k with
              | zero => rw [← eR1] at eR; rw [← eR] at hw'; exact hw'.elim
              | succ k =>
                unfold inN at eR1
                split at eR1
                · rename_i d1 ej
                  obtain ⟨go1, yl1⟩ := wd1.goes B j H6 σ2 ⟨env1, stx⟩ d1 (fun x hx => .inl hx) ev6 sr8 ej
                  split at eR1
                  · rename_i env2 eg1
                    refine .inr ⟨go1, fun H' => ∃ stx, Evo (as ++ [D]) H5 H' ∧ SR X.K c B (as ++ [D]) H' σ2 ⟨env1, stx⟩ ∧ inN iv1 g1 ft1 fe (wipeL env1 vs1) st.length k (j + 1) stx = R1, fun H' q => ⟨k, Nat.lt_succ_self k, q⟩, fun x H7 y => ?_⟩
                    obtain ⟨evn1, rx1⟩ := yl1 x H7 y
                    have sr9 := sr8.evo evn1
                    have srw1 := SR.wipe sr9 vs1
                    have ev7 : Evo (as ++ [D]) H5 H7 := ev6.trans' evn1.wide
                    refine ⟨B, as ++ [D], ⟨wipeL env1 vs1, stx⟩, d1, env2, srw1, rx1, eg1, fun σ3 sr10 wn1 => ⟨?_, ?_⟩⟩
                    · rw [wn1 vs1 his1]
                      exact wipe_twice vs1 σ2
                    · refine ⟨B, as ++ [D], ⟨env2, stx⟩, sr10, ?_⟩
                      split at eR1
                      · rename_i st4 eft1
                        rw [eft1]
                        intro b H8 e8 sr11 hb
                        have hb' : b = true := hb
                        subst hb'
                        rw [if_pos rfl]
                        have e8' : Evo (as ++ [D]) H7 H8 := e8
                        refine ⟨B, as ++ [D], ⟨env2, st4⟩, sr11, ?_⟩
                        split at eR1
                        · rename_i y2 st5 efe
                          rw [efe]
                          intro v H9 e9 sr12 rv
                          have e9' : Evo (as ++ [D]) H8 H9 := e9.mono wq_as
                          split at eR1
                          · rename_i ds eds
                            split at eR1
                            · rename_i hlt
                              obtain ⟨us9, w1, w2⟩ := sr12.objs st.length _ D eds hDn
                              obtain ⟨w3, w4⟩ := sr12.writeL hDn (w2.append (.cons rv .nil))
                              refine ⟨us9, w1, by rw [sizeLine_eq, w2.length]; exact hlt, _, (ev7.trans' (e8'.trans' e9')).trans' w3, ?_, eR1⟩
                              exact SR.slots (s := ⟨env1, stx⟩) (σ := σ2) w4 sr9 ((e8'.trans' e9').trans' w3)
                            · rw [← eR1] at eR; rw [← eR] at hw'; exact hw'.elim
                          · rw [← eR1] at eR; rw [← eR] at hw'; exact hw'.elim
                        · rw [← eR1] at eR; rw [← eR] at hw'; exact hw'.elim
                      · rename_i st4 eft1
                        rw [eft1]
                        intro b H8 e8 sr11 hb
                        have hb' : b = false := hb
                        subst hb'
                        rw [if_neg Bool.false_ne_true]
                        have e8' : Evo (as ++ [D]) H7 H8 := e8
                        exact ⟨st4, ev7.trans' e8', SR.slots (s := ⟨env1, stx⟩) (σ := σ2) sr11 sr9 e8', eR1⟩
                      · rw [← eR1] at eR; rw [← eR] at hw'; exact hw'.elim
                  · rw [← eR1] at eR; rw [← eR] at hw'; exact hw'.elim
                · rename_i ej
                  refine .inl ⟨wd1.stops B j H6 σ2 ⟨env1, stx⟩ (fun x hx => .inl hx) ev6 sr8 ej, ?_⟩
                  rw [← eR1] at eR
                  simp only at eR
                  split at eR
                  · rename_i acc' eacc
                    obtain ⟨us6, w1, w2⟩ := sr8.objs st.length _ D eacc hDn
                    have hl8 := sr8.aslen
                    simp only [List.length_append, List.length_cons, List.length_nil] at hl8
                    have hsplit : stx = stx.take st.length ++ [.lst acc'] := by
                      have h1 : st.length < stx.length := (List.getElem?_eq_some_iff.mp eacc).1
                      have h2 : stx[st.length] = .lst acc' := (List.getElem?_eq_some_iff.mp eacc).2
                      have h3 : stx.drop st.length = [.lst acc'] := by
                        rw [List.drop_eq_getElem_cons h1, h2, List.drop_eq_nil_of_le (by omega)]
                      rw [← h3, List.take_append_drop]
                    rw [hsplit] at sr8
                    have sr13 := SR.backD sr8 sr3 (ev45.trans' ev6)
                    have hav : ∀ x ∈ (D :: B) ++ as, x ∈ B ++ (as ++ [D]) ∨ H6 x = none := fun x hx => .inl (by
                      rcases List.mem_append.mp hx with z | z
                      · rcases List.mem_cons.mp z with z | z
                        · rw [z]; exact List.mem_append_right _ (List.mem_append_right _ (List.mem_singleton.mpr rfl))
                        · exact List.mem_append_left _ z
                      · exact List.mem_append_right _ (List.mem_append_left _ z))
                    exact ⟨stx.take st.length, acc', us6, ev3.trans (ev45.trans' ev6) hDto, sr13, w1, RepA.avoid hav _ _ w2, eR⟩
                  · rw [← eR] at hw'; exact hw'.elim
                · rw [← eR1] at eR; rw [← eR] at hw'; exact hw'.elim
            · rw [← eR] at hw'; exact hw'.elim
          · rename_i st2 eft
            rw [eft]
            intro b H4 e4 sr5 hb
            have hb' : b = false := hb
            subst hb'
            rw [if_neg Bool.false_ne_true]
            have e4' : Evo as H3 H4 := e4
            obtain ⟨k1, k2⟩ := kD e4'
            exact ⟨st2, acc, us, ev3.trans' e4', SR.slots (s := ⟨s.env, st⟩) (σ := σ) sr5 sr3 e4', k1, k2, eR⟩
          · rw [← eR] at hw'; exact hw'.elim
      · rw [← eR] at hw'; exact hw'.elim
    · rename_i ei
      refine .inl ⟨wd.stops (D :: B) i H2 σ ⟨s.env, st⟩ hB ev sr2 ei, ?_⟩
      rw [← eR] at hw'
      exact hw' D us H2 ev hD sr2 eD rs
    · rw [← eR] at hw'; exact hw'.elim
/-- [e for x in a .. for y in b ..] -/
theorem dc_lc2 (own : List (Str × Nat)) (vs1 : List Nat) (hc : X.calm = true) (hN : X.N.Nodup) (hi : DI X c W tg iter fi) (ok : BlkOk X.N X.env.scope scope own) (hv : ∀ i ∈ vs1, i ∈ own.map (·.2))
    (hg : ∀ (s : Shared) (H : Hp) (C : Addr) (cl : List (Str × Addr)) (fp : List Addr), DG (X.blk s H scope (compEnvC scope cl C X.env) fp) c tg is g)
    (ht : ∀ (s : Shared) (H : Hp) (C : Addr) (cl : List (Str × Addr)) (fp : List Addr), DTs (X.blk s H scope (compEnvC scope cl C X.env) fp) c W0 ifs ft)
    (hi1 : ∀ (s : Shared) (H : Hp) (C : Addr) (cl : List (Str × Addr)) (fp : List Addr), DI (X.blk s H scope (compEnvC scope cl C X.env) fp) c W0 tg1 iter1 fi1)
    (hg1 : ∀ (s : Shared) (H : Hp) (C : Addr) (cl : List (Str × Addr)) (fp : List Addr), DG (X.blk s H scope (compEnvC scope cl C X.env) fp) c tg1 is1 g1)
    (ht1 : ∀ (s : Shared) (H : Hp) (C : Addr) (cl : List (Str × Addr)) (fp : List Addr), DTs (X.blk s H scope (compEnvC scope cl C X.env) fp) c W0 ifs1 ft1)
    (he : ∀ (s : Shared) (H : Hp) (C : Addr) (cl : List (Str × Addr)) (fp : List Addr), DE (X.blk s H scope (compEnvC scope cl C X.env) fp) c W0 elt false q fe)
    (his : ∀ i ∈ is, i ∈ own.map (·.2)) (his1 : ∀ i ∈ is1, i ∈ vs1) (hs : ∀ x, foldedSetIterable iter X.env x = pure x) (hs1 : ∀ env x, foldedSetIterable iter1 env x = pure x) :
    DC X c W (.ListComp elt [⟨tg, iter, ifs, 0⟩, ⟨tg1, iter1, ifs1, 0⟩] scope pos) (comp2C fi (own.map (·.2)) g ft fi1 vs1 g1 ft1 fe) := by
  obtain ⟨wi, pi, ri⟩ := hi
  exact ⟨_, pe_lc2 (g := gDG X c is g) (tt := tDTs X c W0 ft) (wi1 := iDI X c W0 fi1) (g1 := gDG X c is1 g1) (tt1 := tDTs X c W0 ft1) (te := tDE X.K X c W0 false q fe) hc hN pi ok hv (fun s H C cl fp => (hg s H C cl fp).pg) (fun s H C cl fp => (ht s H C cl fp).pts) (fun s H C cl fp => (hi1 s H C cl fp).pi) (fun s H C cl fp => (hg1 s H C cl fp).pg) (fun s H C cl fp => (ht1 s H C cl fp).pts) (fun s H C cl fp => (he s H C cl fp).pe) hs hs1,
    fun B as σ H s Q sr hw => lc2_ref his his1 ri sr hw⟩
theorem ds_setLc2 {i : Nat} {y : Str} {py spos : Pos} {fa : EvV} (own : List (Str × Nat)) (vs1 : List Nat) (hc : X.calm = true) (hN : X.N.Nodup) (hy : X.N[i]? = some y) (hyl : X.env.scope.names.lookup y = some .local)
    (hsw : swapsWith (.ListComp elt [⟨tg, iter, ifs, 0⟩, ⟨tg1, iter1, ifs1, 0⟩] scope pos) (some (.Name y py)) spos.line X.env = pure true) (hi : DI X c W tg iter fi) (ok : BlkOk X.N X.env.scope scope own) (hv : ∀ i ∈ vs1, i ∈ own.map (·.2))
    (hg : ∀ (s : Shared) (H : Hp) (C : Addr) (cl : List (Str × Addr)) (fp : List Addr), DG (X.blk s H scope (compEnvC scope cl C X.env) fp) c tg is g)
    (ht : ∀ (s : Shared) (H : Hp) (C : Addr) (cl : List (Str × Addr)) (fp : List Addr), DTs (X.blk s H scope (compEnvC scope cl C X.env) fp) c W0 ifs ft)
    (hi1 : ∀ (s : Shared) (H : Hp) (C : Addr) (cl : List (Str × Addr)) (fp : List Addr), DI (X.blk s H scope (compEnvC scope cl C X.env) fp) c W0 tg1 iter1 fi1)
    (hg1 : ∀ (s : Shared) (H : Hp) (C : Addr) (cl : List (Str × Addr)) (fp : List Addr), DG (X.blk s H scope (compEnvC scope cl C X.env) fp) c tg1 is1 g1)
    (ht1 : ∀ (s : Shared) (H : Hp) (C : Addr) (cl : List (Str × Addr)) (fp : List Addr), DTs (X.blk s H scope (compEnvC scope cl C X.env) fp) c W0 ifs1 ft1)
    (he : ∀ (s : Shared) (H : Hp) (C : Addr) (cl : List (Str × Addr)) (fp : List Addr), DE (X.blk s H scope (compEnvC scope cl C X.env) fp) c W0 elt false q fe)
    (his : ∀ i ∈ is, i ∈ own.map (·.2)) (his1 : ∀ i ∈ is1, i ∈ vs1) (hs : ∀ x, foldedSetIterable iter X.env x = pure x) (hs1 : ∀ env x, foldedSetIterable iter1 env x = pure x)
    (hfa : ∀ (B as : List Addr) (σ : L2.St) (H : Hp) (s : S) (Q : VK), SR X.K c B as H σ s → WantsV X c W (RepV X.K) B as σ H s.env Q (fa s) → WantsC X c W B as σ H s.env Q (comp2C fi (own.map (·.2)) g ft fi1 vs1 g1 ft1 fe s)) :
    DS X c W (.Assign [.Name y py] (.ListComp elt [⟨tg, iter, ifs, 0⟩, ⟨tg1, iter1, ifs1, 0⟩] scope pos) spos) (setS i fa) := by
  obtain ⟨wi, pi, ri⟩ := hi
  exact ds_setBy (ps_setLc2 (g := gDG X c is g) (tt := tDTs X c W0 ft) (wi1 := iDI X c W0 fi1) (g1 := gDG X c is1 g1) (tt1 := tDTs X c W0 ft1) (te := tDE X.K X c W0 false q fe) hc hN hy hyl hsw pi ok hv (fun s H C cl fp => (hg s H C cl fp).pg) (fun s H C cl fp => (ht s H C cl fp).pts) (fun s H C cl fp => (hi1 s H C cl fp).pi) (fun s H C cl fp => (hg1 s H C cl fp).pg) (fun s H C cl fp => (ht1 s H C cl fp).pts) (fun s H C cl fp => (he s H C cl fp).pe) hs hs1)
    fun B as σ H s Q sr hw => lc2_ref his his1 ri sr (hfa B as σ H s Q sr hw)
end
end DL
end
section
set_option Elab.async false
set_option linter.all false
set_option maxRecDepth 100000
set_option maxHeartbeats 1000000
/-! The data layer, part z: own dicts whose keys are tuples, nested: made, read, asked, stored. -/
namespace DL
open PySem PySem.Spec PyProof.Rows L2 PySem.SeqAt PySem.W
noncomputable local instance pdE : DecidableEq PyData := DK.pdEq
/-! ### as lists of pairs -/
def mFind (kvs : List (PyData × PyData)) (k : PyData) : Option PyData := (kvs.find? fun kv => PyData.eqv kv.1 k).map (·.2)
def mPut (kvs : List (PyData × PyData)) (k d : PyData) : List (PyData × PyData) := if (mFind kvs k).isSome = true then kvs.map (fun kv => if PyData.eqv kv.1 k = true then (kv.1, d) else kv) else kvs ++ [(k, d)]
/-- a key: a tuple of what can be a key -/
def mKey : PyData → Bool
  | .tuple xs => DK.kOkAll xs && decide (PyData.depthAll xs ≤ 6)
  | _ => false
theorem mKey_ok {d : PyData} (h : mKey d = true) : DK.kOk d = true ∧ d.depth ≤ 7 ∧ ∃ xs, d = .tuple xs := by
  cases d with
  | tuple xs =>
    simp only [mKey, Bool.and_eq_true, decide_eq_true_eq] at h
    refine ⟨h.1, ?_, xs, rfl⟩
    rw [PyData.depth]
    omega
  | _ => cases h
section
variable {K : PySem.W.Frag} {av : List Addr} {H : Hp} {k : PyData}
theorem MRep.len {kvs : List (PyData × PyData)} {xs : List (PyData × Addr × V)} (m : MRep K av H kvs xs) : kvs.length = xs.length := Paired.length m
/-- what is found -/
theorem find_there (hk : DK.kOk k = true) : ∀ {kvs : List (PyData × PyData)} {xs : List (PyData × Addr × V)} {ys : List (PyData × Addr × Value)} {d : PyData}, MRep K av H kvs xs →
    Paired (fun (p : PyData × Addr × V) (q : PyData × Addr × Value) => p.1 = q.1 ∧ p.2.1 = q.2.1 ∧ RelV p.2.2 q.2.2) xs ys → mFind kvs k = some d → ∃ p v, atKey ys (DK.norm k) = some p ∧ RelV v p.2 ∧ Rep K av H d v
  | _, _, _, d, .nil, .nil, e => by simp [mFind] at e
  | _, _, _, d, .cons (a := kv) (b := x) r rs, .cons (b := y) q qs, e => by
    obtain ⟨r1, r2, r3, r4, r5⟩ := r
    obtain ⟨q1, q2, q3⟩ := q
    have hn : PyData.eqv kv.1 k = decide (y.1 = DK.norm k) := by
      rw [Bool.eq_iff_iff, decide_eq_true_iff, DK.norm_eqv _ _ r2 hk, r1, q1]
    unfold mFind at e
    rw [List.find?_cons] at e
    unfold atKey
    rw [List.find?_cons]
    rw [hn] at e
    by_cases h : y.1 = DK.norm k
    · rw [decide_eq_true h] at e ⊢
      simp only [Option.map_some, Option.some.injEq] at e
      exact ⟨_, x.2.2, rfl, q3, by rw [← e]; exact r5⟩
    · rw [decide_eq_false h] at e ⊢
      exact find_there hk rs qs e
theorem find_not (hk : DK.kOk k = true) : ∀ {kvs : List (PyData × PyData)} {xs : List (PyData × Addr × V)} {ys : List (PyData × Addr × Value)}, MRep K av H kvs xs →
    Paired (fun (p : PyData × Addr × V) (q : PyData × Addr × Value) => p.1 = q.1 ∧ p.2.1 = q.2.1 ∧ RelV p.2.2 q.2.2) xs ys → mFind kvs k = none → atKey ys (DK.norm k) = none
  | _, _, _, .nil, .nil, e => rfl
  | _, _, _, .cons (a := kv) (b := x) r rs, .cons (b := y) q qs, e => by
    obtain ⟨r1, r2, r3, r4, r5⟩ := r
    obtain ⟨q1, q2, q3⟩ := q
    have hn : PyData.eqv kv.1 k = decide (y.1 = DK.norm k) := by
      rw [Bool.eq_iff_iff, decide_eq_true_iff, DK.norm_eqv _ _ r2 hk, r1, q1]
    unfold mFind at e
    rw [List.find?_cons] at e
    unfold atKey
    rw [List.find?_cons]
    rw [hn] at e
    by_cases h : y.1 = DK.norm k
    · rw [decide_eq_true h] at e
      cases e
    · rw [decide_eq_false h] at e ⊢
      exact find_not hk rs qs e
theorem find_isSome (hk : DK.kOk k = true) {kvs : List (PyData × PyData)} {xs : List (PyData × Addr × V)} {ys : List (PyData × Addr × Value)} (m : MRep K av H kvs xs)
    (q : Paired (fun (p : PyData × Addr × V) (q : PyData × Addr × Value) => p.1 = q.1 ∧ p.2.1 = q.2.1 ∧ RelV p.2.2 q.2.2) xs ys) : (atKey ys (DK.norm k)).isSome = (mFind kvs k).isSome := by
  cases e : mFind kvs k with
  | none => rw [find_not hk m q e]; rfl
  | some d => obtain ⟨p, v, h, _⟩ := find_there hk m q e; rw [h]; rfl
/-- entries, stored -/
noncomputable def xPut (xs : List (PyData × Addr × V)) (k : PyData) (a : Addr) (v : V) (there : Bool) : List (PyData × Addr × V) := if there = true then xs.map (fun x => if x.1 = k then (x.1, x.2.1, v) else x) else xs ++ [(k, a, v)]
theorem paired_map {α β γ δ : Type} {F : α → β → Prop} {G : γ → δ → Prop} {f : α → γ} {g : β → δ} (h : ∀ a b, F a b → G (f a) (g b)) : ∀ {l : List α} {m : List β}, Paired F l m → Paired G (l.map f) (m.map g)
  | _, _, .nil => .nil
  | _, _, .cons r t => .cons (h _ _ r) (paired_map h t)
theorem paired_snoc {α β : Type} {F : α → β → Prop} {a : α} {b : β} (h : F a b) : ∀ {l : List α} {m : List β}, Paired F l m → Paired F (l ++ [a]) (m ++ [b])
  | _, _, .nil => .cons h .nil
  | _, _, .cons r t => .cons r (paired_snoc h t)
theorem put_x {xs : List (PyData × Addr × V)} {ys : List (PyData × Addr × Value)} {a : Addr} {v : V} {u : Value} (rv : RelV v u)
    (q : Paired (fun (p : PyData × Addr × V) (q : PyData × Addr × Value) => p.1 = q.1 ∧ p.2.1 = q.2.1 ∧ RelV p.2.2 q.2.2) xs ys) {kk : PyData} {t : Bool} (ht : (atKey ys kk).isSome = t) :
    Paired (fun (p : PyData × Addr × V) (q : PyData × Addr × Value) => p.1 = q.1 ∧ p.2.1 = q.2.1 ∧ RelV p.2.2 q.2.2) (xPut xs kk a v t) (storedH ys kk a u) := by
  subst ht
  unfold xPut storedH
  by_cases h : (atKey ys kk).isSome = true
  · rw [if_pos h, if_pos h]
    refine paired_map (fun p q r => ?_) q
    obtain ⟨r1, r2, r3⟩ := r
    unfold putAt
    by_cases e : p.1 = kk
    · rw [if_pos e, if_pos (r1 ▸ e)]
      exact ⟨r1, r2, rv⟩
    · rw [if_neg e, if_neg (fun z => e (r1.trans z))]
      exact ⟨r1, r2, r3⟩
  · rw [if_neg h, if_neg h]
    exact paired_snoc ⟨rfl, rfl, rv⟩ q
theorem put_m (hk : DK.kOk k = true) (hdep : k.depth ≤ 7) {a : Addr} {d : PyData} {v : V} (rk : Rep K av H k (.ref a)) (rv : Rep K av H d v) {kvs : List (PyData × PyData)} {xs : List (PyData × Addr × V)} (m : MRep K av H kvs xs) : MRep K av H (mPut kvs k d) (xPut xs (DK.norm k) a v (mFind kvs k).isSome) := by
  unfold mPut xPut
  by_cases h : (mFind kvs k).isSome = true
  · rw [if_pos h, if_pos h]
    refine paired_map (fun p q r => ?_) m
    obtain ⟨r1, r2, r3, r4, r5⟩ := r
    have hn := DK.norm_eqv p.1 k r2 hk
    by_cases e : PyData.eqv p.1 k = true
    · rw [if_pos e, if_pos (r1 ▸ hn.mp e)]
      exact ⟨r1, r2, r3, r4, rv⟩
    · rw [if_neg e, if_neg (fun z => e (hn.mpr (r1.trans z)))]
      exact ⟨r1, r2, r3, r4, r5⟩
  · rw [if_neg h, if_neg h]
    exact paired_snoc ⟨rfl, hk, hdep, rk, rv⟩ m
theorem mPut_len (kvs : List (PyData × PyData)) (k d : PyData) : (mPut kvs k d).length ≤ kvs.length + 1 := by
  unfold mPut
  split
  · rw [List.length_map]; omega
  · rw [List.length_append]; simp
theorem keys_x {xs : List (PyData × Addr × V)} {ys : List (PyData × Addr × Value)} (q : Paired (fun (p : PyData × Addr × V) (q : PyData × Addr × Value) => p.1 = q.1 ∧ p.2.1 = q.2.1 ∧ RelV p.2.2 q.2.2) xs ys) : xs.map (·.1) = ys.map (·.1) := by
  induction q with
  | nil => rfl
  | cons r t ih => rw [List.map_cons, List.map_cons, r.1, ih]
end
/-! ### the dict is no code object -/
theorem mutDict (hs : PyData → Int) (a : Addr) (xs : List (PyData × Addr × V)) (hn : (xs.map (·.1)).Nodup) (ha : (a == sysModules) = false) : Mut (DictT hs a xs) := by
  refine ⟨(fun _ z => by cases z), fun c P z => ?_⟩
  have hval : ∀ v : V, ∃ u, RelV v u := fun v => by
    cases v with
    | non => exact ⟨_, rfl⟩
    | bl b => exact ⟨_, rfl⟩
    | int i => exact ⟨_, (default : Tok), rfl⟩
    | str x => exact ⟨_, (default : Tok), rfl⟩
    | byt b => exact ⟨_, (default : Tok), rfl⟩
    | flt b => exact ⟨_, (default : Tok), rfl⟩
    | ref a => exact ⟨_, rfl⟩
    | ty n => exact ⟨_, rfl⟩
  have hys : ∀ l : List (PyData × Addr × V), ∃ ys : List (PyData × Addr × Value), Paired (fun (p : PyData × Addr × V) (q : PyData × Addr × Value) => p.1 = q.1 ∧ p.2.1 = q.2.1 ∧ RelV p.2.2 q.2.2) l ys := by
    intro l
    induction l with
    | nil => exact ⟨[], .nil⟩
    | cons x l ih =>
      obtain ⟨ys, h⟩ := ih
      obtain ⟨u, hu⟩ := hval x.2.2
      exact ⟨(x.1, x.2.1, u) :: ys, .cons ⟨rfl, rfl, hu⟩ h⟩
  obtain ⟨ys, hy⟩ := hys xs
  have hφ : (DictAt hs a xs) = fun h => PySem.W.CodeHd h c P ∧ CodeN h c := by
    have := z
    unfold DictT CodeT at this
    exact HO.ext.inj this
  let ob : Obj := { cls := .type "dict", data := .dict (ys.map (fun x => (⟨hs x.1, .ref x.2.1, x.2.2⟩ : DictEntry))).toArray 0 }
  let h0 : Heap := { objs := (Array.replicate a ({ cls := .none } : Obj)).push ob }
  have hget : h0.get? a = some ob := by
    show (match ((Array.replicate a ({ cls := .none } : Obj)).push ob)[a]? with
      | some ⟨_, _, .freed, _⟩ => none
      | o => o) = some ob
    rw [Array.getElem?_push]
    simp [ob]
  have h1 : DictAt hs a xs h0 := ⟨ha, hn, ys, hy, ob, _, 0, hget, ⟨rfl, rfl, rfl⟩, rfl, by simp⟩
  rw [hφ] at h1
  obtain ⟨⟨o, vs, file, tf, flags, tg, inF, text, tt, e1, e2, _⟩, _⟩ := h1
  have : o.cls = .none ∨ o = ob := by
    have e1' : (match ((Array.replicate a ({ cls := .none } : Obj)).push ob)[c]? with
      | some ⟨_, _, .freed, _⟩ => none
      | o => o) = some o := e1
    rw [Array.getElem?_push] at e1'
    by_cases hc : c = (Array.replicate a ({ cls := .none } : Obj)).size
    · rw [if_pos hc] at e1'
      exact .inr (by simpa [ob] using e1'.symm)
    · rw [if_neg hc, Array.getElem?_replicate] at e1'
      by_cases hca : c < a
      · rw [if_pos hca] at e1'
        simp at e1'
        exact .inl (by rw [← e1'])
      · rw [if_neg hca] at e1'
        cases e1'
  rcases this with h | h
  · rw [h] at e2; cases e2
  · rw [h] at e2
    simp [ob] at e2
end DL
end
section
set_option Elab.async false
set_option linter.all false
set_option maxRecDepth 100000
set_option maxHeartbeats 1000000
/-! The data layer, part ma: own dicts whose keys are tuples: the walks. -/
namespace DL
open PySem PySem.Spec PyProof.Rows L2 PySem.SeqAt PySem.W
noncomputable local instance pdE2 : DecidableEq PyData := DK.pdEq
theorem dictT_ok {P : Program} {w : World} {H : Hp} {h : Heap} {hs : PyData → Int} {a : Addr} {xs : List (PyData × Addr × V)} (p : DictAt hs a xs h) : ObjOk P w H h a (DictT hs a xs) := by
  refine ⟨p, ?_, ?_⟩
  · obtain ⟨_, _, _, _, o, _, _, e, _⟩ := p
    exact ⟨o, e⟩
  · rintro h1 h2 ⟨p1, p2, ys, p3, o, es, ep, p4, p5⟩ k
    exact ⟨p1, p2, ys, p3, o, es, ep, k o p4, p5⟩
section
variable {X : Cx} {pins : List (Addr × Obj)} {σ : L2.St} {H : Hp} {s : Shared} {av : List Addr}
theorem isK_of (I : Inv X pins σ H s) {k : PyData} {b : Addr} (hk : DK.kOk k = true) (hd : k.depth ≤ 7) (r : Rep X.K av H k (.ref b)) : DK.IsK s.heap (DK.norm k) b := by
  obtain ⟨as, hr⟩ := Rep.reads I k (.ref b) (.ref b) r rfl
  exact ⟨k, as, hr, hk, hd, rfl⟩
theorem dictH (I : Inv X pins σ H s) {d : Addr} {kvs : List (PyData × PyData)} {xs : List (PyData × Addr × V)} (e : H d = some (DictT (DK.hashD X.w) d xs)) (m : MRep X.K av H kvs xs) :
    (d == sysModules) = false ∧ (xs.map (·.1)).Nodup ∧ ∃ ys : List (PyData × Addr × Value), Paired (fun (p : PyData × Addr × V) (q : PyData × Addr × Value) => p.1 = q.1 ∧ p.2.1 = q.2.1 ∧ RelV p.2.2 q.2.2) xs ys ∧
      s.heap.DictOfH (DK.dataKind (prog := X.prog) (w := X.w)) d ys := by
  obtain ⟨⟨p1, p2, ys, p3, o, es, ep, p4, p5, p6, p7⟩, xt, stb⟩ := I.hok d _ e
  clear xt stb
  refine ⟨p1, p2, ys, p3, o, es, ep, p4, p5, p6, p7, ?_, by rw [← keys_x p3]; exact p2⟩
  clear p4 p5 p6 p7 p2 e
  intro y hy
  induction m generalizing ys with
  | nil => cases p3; cases hy
  | cons r t ih =>
    cases p3 with
    | cons q1 q2 =>
      rcases List.mem_cons.mp hy with z | z
      · subst z
        obtain ⟨r1, r2, r3, r4, r5⟩ := r
        rw [← q1.1, ← q1.2.1, ← r1]
        exact isK_of I r2 r3 r4
      · exact ih _ q2 z
theorem mKey_ref {K : PySem.W.Frag} {k : PyData} {y : V} (hk : mKey k = true) (r : Rep K av H k y) : ∃ b, y = .ref b := by
  obtain ⟨_, _, xs, rfl⟩ := mKey_ok hk
  simp only [Rep] at r
  obtain ⟨a, vs, e, _⟩ := r
  exact ⟨a, e⟩
theorem room_in1 {A : Around} (hu : A.units + 64 < cLine) : (DK.dataKind (prog := X.prog) (w := X.w)).room A.in1 := by
  show A.in1.units + 48 < cLine
  have : A.in1.units ≤ A.units + 1 := by show A.units + 1 ≤ _; omega
  omega
/-- d[y] -/
theorem m_getItem {A : Around} {E : Value → Shared → Prop} {Q : Value → Shared → Prop} {a : Addr} {kvs : List (PyData × PyData)} {xs : List (PyData × Addr × V)} {k d : PyData} {y : V} {u : Value} (hu : A.units + 64 < cLine) (I : Inv X pins σ H s)
    (e : H a = some (DictT (DK.hashD X.w) a xs)) (m : MRep X.K av H kvs xs) (hk : mKey k = true) (rk : Rep X.K av H k y) (ry : RelV y u) (ed : mFind kvs k = some d) (h : ∀ v w' s', Inv X pins σ H s' → RelV v w' → Rep X.K av H d v → Q w' s') :
    wpAny (model X.prog X.w) A (getItem (.ref a) u) Q E s := by
  obtain ⟨b, rfl⟩ := mKey_ref hk rk
  cases (show u = Value.ref b from ry)
  obtain ⟨p1, p2, ys, p3, dd⟩ := dictH I e m
  obtain ⟨k1, k2, _⟩ := mKey_ok hk
  obtain ⟨p, v, hp, rv, rd⟩ := find_there k1 m p3 ed
  exact wpAny_getItem_heap (room_in1 hu) (isK_of I k1 k2 rk) dd hp (h v _ _ (I.tok _) rv rd)
theorem m_in {A : Around} {E : Value → Shared → Prop} {Q : Value → Shared → Prop} {a : Addr} {kvs : List (PyData × PyData)} {xs : List (PyData × Addr × V)} {k : PyData} {y : V} {u : Value} (hu : A.units + 64 < cLine) (I : Inv X pins σ H s)
    (e : H a = some (DictT (DK.hashD X.w) a xs)) (m : MRep X.K av H kvs xs) (hk : mKey k = true) (rk : Rep X.K av H k y) (ry : RelV y u) (h : ∀ s', Inv X pins σ H s' → Q (.bool (mFind kvs k).isSome) s') :
    wpAny (model X.prog X.w) A (compareOp .In u (.ref a)) Q E s := by
  obtain ⟨b, rfl⟩ := mKey_ref hk rk
  cases (show u = Value.ref b from ry)
  obtain ⟨p1, p2, ys, p3, dd⟩ := dictH I e m
  obtain ⟨k1, k2, _⟩ := mKey_ok hk
  refine wpAny_in_heap (room_in1 hu) (isK_of I k1 k2 rk) p1 dd ?_
  rw [find_isSome k1 m p3]
  exact h _ (I.tok _)
theorem m_notIn {A : Around} {E : Value → Shared → Prop} {Q : Value → Shared → Prop} {a : Addr} {kvs : List (PyData × PyData)} {xs : List (PyData × Addr × V)} {k : PyData} {y : V} {u : Value} (hu : A.units + 64 < cLine) (I : Inv X pins σ H s)
    (e : H a = some (DictT (DK.hashD X.w) a xs)) (m : MRep X.K av H kvs xs) (hk : mKey k = true) (rk : Rep X.K av H k y) (ry : RelV y u) (h : ∀ s', Inv X pins σ H s' → Q (.bool (!(mFind kvs k).isSome)) s') :
    wpAny (model X.prog X.w) A (compareOp .NotIn u (.ref a)) Q E s := by
  obtain ⟨b, rfl⟩ := mKey_ref hk rk
  cases (show u = Value.ref b from ry)
  obtain ⟨p1, p2, ys, p3, dd⟩ := dictH I e m
  obtain ⟨k1, k2, _⟩ := mKey_ok hk
  refine wpAny_notIn_heap (room_in1 hu) (isK_of I k1 k2 rk) p1 dd ?_
  rw [find_isSome k1 m p3]
  exact h _ (I.tok _)
theorem nodup_x {xs : List (PyData × Addr × V)} {ys : List (PyData × Addr × Value)} (q : Paired (fun (p : PyData × Addr × V) (q : PyData × Addr × Value) => p.1 = q.1 ∧ p.2.1 = q.2.1 ∧ RelV p.2.2 q.2.2) xs ys) (h : (ys.map (·.1)).Nodup) : (xs.map (·.1)).Nodup := by
  rw [keys_x q]; exact h
/-- d[y] = v -/
theorem m_setItem {A : Around} {E : Value → Shared → Prop} {Q : Unit → Shared → Prop} {a : Addr} {kvs : List (PyData × PyData)} {xs : List (PyData × Addr × V)} {k : PyData} {y v : V} {u r : Value} (hu : A.units + 64 < cLine) (I : Inv X pins σ H s)
    (e : H a = some (DictT (DK.hashD X.w) a xs)) (m : MRep X.K av H kvs xs) (hk : mKey k = true) (rk : Rep X.K av H k y) (ry : RelV y u) (rv : RelV v r) (hl : kvs.length ≤ sizeLine)
    (h : ∀ b s', y = .ref b → ((xPut xs (DK.norm k) b v (mFind kvs k).isSome).map (·.1)).Nodup → (a == sysModules) = false → Inv X pins σ (upd H a (DictT (DK.hashD X.w) a (xPut xs (DK.norm k) b v (mFind kvs k).isSome))) s' → Q () s') :
    wpAny (model X.prog X.w) A (setItem (.ref a) u r) Q E s := by
  obtain ⟨b, rfl⟩ := mKey_ref hk rk
  cases (show u = Value.ref b from ry)
  obtain ⟨p1, p2, ys, p3, dd⟩ := dictH I e m
  obtain ⟨k1, k2, _⟩ := mKey_ok hk
  have hz : ys.length ≤ sizeLine := by rw [← Paired.length p3, ← MRep.len m]; exact hl
  refine wpAny_setItem_heap (hsz := hz) (room_in1 hu) (isK_of I k1 k2 rk) dd fun h' dd' hs => ?_
  have pp := put_x (kk := DK.norm k) (a := b) rv p3 (find_isSome k1 m p3)
  obtain ⟨o, es, ep, q1, q2, q3, q4, q5, q6⟩ := dd'
  have nd := nodup_x pp q6
  refine h b _ rfl nd p1 (d_write I (by rw [e]; exact True.intro) hs ⟨o, q1⟩ (dictT_ok ⟨p1, nd, _, pp, o, es, ep, q1, q2, q3, q4⟩))
end
/-- {} -/
def tMNew (hs : PyData → Int) : TE := fun _ H Q => ∀ p, H p = none → (p == sysModules) = false → Q (.ref p) (upd H p (DictT hs p []))
theorem pe_mnew {X : Cx} {pos : Pos} : PE X (.Dict [] [] pos) (tMNew (DK.hashD X.w)) := ⟨fun pins s σ H Q I h =>
  have hb : (s.heap.objs.size == sysModules) = false := beq_eq_false_iff_ne.mpr (Ne.symm (Nat.ne_of_lt I.big))
  wpAny_Dict_empty ⟨.ref s.heap.objs.size, _, I.laid (a := s.heap.objs.size) (o := DictT (DK.hashD X.w) s.heap.objs.size []) (t' := s.toks) (fun _ _ q => Heap.get?_push_of_some _ q) (Nat.le_refl _)
    (dictT_ok ⟨hb, List.nodup_nil, [], .nil, _, #[], 0, Heap.get?_push_size _ rfl, ⟨rfl, rfl, rfl⟩, rfl, rfl⟩), rfl, h _ (I.hok.fresh (Nat.le_refl _)) hb⟩⟩
def tMGet (X : Cx) (td ty : TE) : TE := fun σ H Q => td σ H fun x H1 => ty σ H1 fun y H2 => ∃ a xs kvs k d av, x = .ref a ∧ H2 a = some (DictT (DK.hashD X.w) a xs) ∧ MRep X.K av H2 kvs xs ∧ mKey k = true ∧ Rep X.K av H2 k y ∧ mFind kvs k = some d ∧
  ∀ v, Rep X.K av H2 d v → Q v H2
def tMIn (X : Cx) (neg : Bool) (ty td : TE) : TE := fun σ H Q => ty σ H fun y H1 => td σ H1 fun x H2 => ∃ a xs kvs k av, x = .ref a ∧ H2 a = some (DictT (DK.hashD X.w) a xs) ∧ MRep X.K av H2 kvs xs ∧ mKey k = true ∧ Rep X.K av H2 k y ∧
  Q (.bl (neg ^^ (mFind kvs k).isSome)) H2
def sMPut (X : Cx) (td ty tv : TE) : TS := fun D σ H => tv σ H fun v H1 => td σ H1 fun x H2 => ty σ H2 fun y H3 => ∃ a xs kvs k av, x = .ref a ∧ H3 a = some (DictT (DK.hashD X.w) a xs) ∧ MRep X.K av H3 kvs xs ∧ mKey k = true ∧ Rep X.K av H3 k y ∧
  kvs.length ≤ sizeLine ∧ ∀ b, y = .ref b → ((xPut xs (DK.norm k) b v (mFind kvs k).isSome).map (·.1)).Nodup → (a == sysModules) = false → D.nx σ (upd H3 a (DictT (DK.hashD X.w) a (xPut xs (DK.norm k) b v (mFind kvs k).isSome)))
section
variable {X : Cx} {o i e value : Expr} {pos pos' tpos : Pos} {td ty tv : TE}
theorem pe_mget (hu : X.A.units + 64 < cLine) (ho : PE X o td) (hi : PE X i ty) (hs : NoSl i) : PE X (.Subscript o i pos) (tMGet X td ty) := by
  refine ⟨fun pins s σ H Q I h => ?_⟩
  refine subD_of PySem.F.slot_dict_getitem.lookup hs (thn (ho.run pins s σ H _ I h) fun u s1 ⟨x, H1, I1, rx, q1⟩ => thn (hi.run pins s1 σ H1 _ I1 q1) fun iv s2 ⟨y, H2, I2, ry, a, xs, kvs, k, d, av, ex, e, m, hk, rk, ed, q2⟩ => ?_)
  subst ex
  obtain rfl : u = Value.ref a := rx
  refine ⟨?_, m_getItem hu I2 e m hk rk ry ed fun v w' s3 I3 rw' rd => ⟨v, H2, I3, rw', q2 v rd⟩⟩
  obtain ⟨_, _, ys, _, dd⟩ := dictH I2 e m
  exact dd.typeIs
theorem pc_min (hu : X.A.units + 64 < cLine) (hi : PE X i ty) (ho : PE X o td) : PC X .In i o (tMIn X false ty td) := by
  refine ⟨fun pins s σ H Q I h => ?_⟩
  refine thn (hi.run pins s σ H _ I h) fun iv s1 ⟨y, H1, I1, ry, q1⟩ => thn (ho.run pins s1 σ H1 _ I1 q1) fun u s2 ⟨x, H2, I2, rx, a, xs, kvs, k, av, ex, e, m, hk, rk, q2⟩ => ?_
  subst ex
  obtain rfl : u = Value.ref a := rx
  rw [Bool.false_xor] at q2
  exact m_in hu I2 e m hk rk ry fun s3 I3 => ⟨.bl (mFind kvs k).isSome, H2, I3, rfl, q2⟩
theorem pc_mnotin (hu : X.A.units + 64 < cLine) (hi : PE X i ty) (ho : PE X o td) : PC X .NotIn i o (tMIn X true ty td) := by
  refine ⟨fun pins s σ H Q I h => ?_⟩
  refine thn (hi.run pins s σ H _ I h) fun iv s1 ⟨y, H1, I1, ry, q1⟩ => thn (ho.run pins s1 σ H1 _ I1 q1) fun u s2 ⟨x, H2, I2, rx, a, xs, kvs, k, av, ex, e, m, hk, rk, q2⟩ => ?_
  subst ex
  obtain rfl : u = Value.ref a := rx
  rw [Bool.true_xor] at q2
  exact m_notIn hu I2 e m hk rk ry fun s3 I3 => ⟨.bl (!(mFind kvs k).isSome), H2, I3, rfl, q2⟩
theorem ps_mput (hu : X.A.units + 64 < cLine) (ho : PE X o td) (hi : PE X i ty) (hv : PE X value tv) (hs : swapsWith value (some (.Subscript o i pos')) pos.line X.env = pure false) :
    PS X (.Assign [.Subscript o i pos'] value pos) (sMPut X td ty tv) := by
  refine ⟨fun pins s σ H D I h => ?_⟩
  refine wpAny_Assign_Subscript (thn (hv.run pins s σ H _ I h) fun r s1 ⟨v, H1, I1, rv, q1⟩ => thn (ho.run pins s1 σ H1 _ I1 q1) fun u s2 ⟨x, H2, I2, rx, q2⟩ => thn (hi.run pins s2 σ H2 _ I2 q2) fun iv s3 ⟨y, H3, I3, ry, a, xs, kvs, k, av, ex, e, m, hk, rk, hl, q3⟩ => ?_) hs
  subst ex
  obtain rfl : u = Value.ref a := rx
  exact m_setItem hu I3 e m hk rk ry rv hl fun b s4 eb nd ha I4 => ⟨σ, _, I4, q3 b eb nd ha⟩
end
/-! ### in the data layer -/
section
variable {X : Cx} {c : Cfg} {W : WX} {B as P L : List Addr} {σ : L2.St} {H H1 : Hp} {s : S} {e a b : Expr} {pos : Pos} {fa fb : EvD} {q qa qb : Bool}
/-- {}, its keys to be tuples -/
def dict0M : EvV := fun s => .ok (.obj s.st.length, s.st ++ [.dM []])
theorem dv_dict0M (hcs : c.hs = DK.hashD X.w) : DV X c W (.Dict [] [] pos) dict0M := ⟨_, pe_mnew, fun B as σ H s Q sr hw p hp hb => WantsV.new hw sr hp (Evo.new hp) ⟨[], by rw [hcs]; exact upd_same, mutDict _ _ _ List.nodup_nil hb, Nat.zero_le _, .nil⟩⟩
/-- d[k] -/
def mgetE (i : Nat) (fk : EvD) : EvD := fun s => match objAt s.env i with
  | some j => (fk s).bind fun p => (match p.2[j]? with
    | some (.dM kvs) => (match mKey p.1, mFind kvs p.1 with
      | true, some d => .ok (d, p.2)
      | _, _ => .stuck)
    | _ => .stuck)
  | none => .stuck
theorem de_mget {i : Nat} {x : Str} {p1 : Pos} (hu : X.A.units + 64 < cLine) (hcs : c.hs = DK.hashD X.w) (hN : X.N[i]? = some x) (hv : Vis X.env.scope x) (hd : (x == ("__debug__" : Str)) = false) (hcd : (x == ("__classdict__" : Str)) = false) (h : DE X c W e false q fa) (hs : NoSl e) : DE X c W (.Subscript (.Name x p1) e pos) false q (mgetE i fa) := by
  obtain ⟨t, p, r⟩ := h
  refine ⟨_, pe_mget hu (pe_var hN hv hd hcd) p hs, fun B as σ H s Q sr hw => ?_⟩
  unfold mgetE at hw
  cases ej : objAt s.env i with
  | none => rw [ej] at hw; exact hw.elim
  | some j =>
    rw [ej] at hw
    obtain ⟨a, q1, q2⟩ := objAt_get sr ej
    refine ⟨_, q1, ?_⟩
    show t σ H _
    rw [← Bool.and_true q] at hw
    refine WantsG.bind (s := s) hw sr r fun y H1 d st1 e1 ev1 sr1 r1 hw1 => ?_
    simp only at hw1
    split at hw1
    · rename_i kvs el
      split at hw1
      · rename_i d' hk ed
        obtain ⟨xs, h1, h2, h3, h4⟩ := sr1.objs j _ a el q2
        rw [hcs] at h1
        exact ⟨a, xs, kvs, d, d', _, rfl, h1, h4, hk, r1, ed, fun v rv => hw1.fin sr1 Evo.refl rv⟩
      · exact hw1.elim
    · exact hw1.elim
/-- k in d, k not in d -/
def minE (neg : Bool) (i : Nat) (fk : EvD) : EvD := fun s => match objAt s.env i with
  | some j => (fk s).bind fun p => (match p.2[j]? with
    | some (.dM kvs) => (match mKey p.1 with
      | true => .ok (.bool (neg ^^ (mFind kvs p.1).isSome), p.2)
      | _ => .stuck)
    | _ => .stuck)
  | none => .stuck
theorem min_run {i : Nat} {neg : Bool} {t : TE} (hcs : c.hs = DK.hashD X.w) (r : ∀ (B as : List Addr) (σ : L2.St) (H : Hp) (s : S) (Q : VK), SR X.K c B as H σ s → WantsG X c W (RepE X.K false) B as σ H s.env q Q (fa s) → t σ H Q) (sr : SR X.K c B as H σ s) {Q : VK}
    (hw : WantsG X c W (RepE X.K false) B as σ H s.env q Q (minE neg i fa s)) : tMIn X neg t (tVar i) σ H Q := by
  unfold minE at hw
  cases ej : objAt s.env i with
  | none => rw [ej] at hw; exact hw.elim
  | some j =>
    rw [ej] at hw
    obtain ⟨a, q1, q2⟩ := objAt_get sr ej
    show t σ H _
    rw [← Bool.and_true q] at hw
    refine WantsG.bind (s := s) hw sr r fun y H1 d st1 e1 ev1 sr1 r1 hw1 => ?_
    refine ⟨_, q1, ?_⟩
    simp only at hw1
    split at hw1
    · rename_i kvs el
      split at hw1
      · rename_i hk
        obtain ⟨xs, h1, h2, h3, h4⟩ := sr1.objs j _ a el q2
        rw [hcs] at h1
        exact ⟨a, xs, kvs, d, _, rfl, h1, h4, hk, r1, hw1.fin sr1 Evo.refl (show Rep X.K (B ++ as) H1 (.bool (neg ^^ (mFind kvs d).isSome)) _ by simp only [Rep])⟩
      · exact hw1.elim
    · exact hw1.elim
theorem de_min {i : Nat} {x : Str} {p1 : Pos} (hu : X.A.units + 64 < cLine) (hcs : c.hs = DK.hashD X.w) (hN : X.N[i]? = some x) (hv : Vis X.env.scope x) (hd : (x == ("__debug__" : Str)) = false) (hcd : (x == ("__classdict__" : Str)) = false) (h : DE X c W e false q fa) :
    DE X c W (.Compare e [.In] [.Name x p1] pos) false q (minE false i fa) := by
  obtain ⟨t, p, r⟩ := h
  exact ⟨_, pe_cmp (pc_min hu p (pe_var hN hv hd hcd)), fun B as σ H s Q sr hw => min_run hcs r sr hw⟩
theorem de_mnotin {i : Nat} {x : Str} {p1 : Pos} (hu : X.A.units + 64 < cLine) (hcs : c.hs = DK.hashD X.w) (hN : X.N[i]? = some x) (hv : Vis X.env.scope x) (hd : (x == ("__debug__" : Str)) = false) (hcd : (x == ("__classdict__" : Str)) = false) (h : DE X c W e false q fa) :
    DE X c W (.Compare e [.NotIn] [.Name x p1] pos) false q (minE true i fa) := by
  obtain ⟨t, p, r⟩ := h
  exact ⟨_, pe_cmp (pc_mnotin hu p (pe_var hN hv hd hcd)), fun B as σ H s Q sr hw => min_run hcs r sr hw⟩
def minT (neg : Bool) (i : Nat) (fk : EvD) : EvT := fun s => match objAt s.env i with
  | some j => (fk s).bind fun p => (match p.2[j]? with
    | some (.dM kvs) => (match mKey p.1 with
      | true => .ok (neg ^^ (mFind kvs p.1).isSome, p.2)
      | _ => .stuck)
    | _ => .stuck)
  | none => .stuck
theorem minT_run {i : Nat} {neg : Bool} {t : TE} (hcs : c.hs = DK.hashD X.w) (r : ∀ (B as : List Addr) (σ : L2.St) (H : Hp) (s : S) (Q : VK), SR X.K c B as H σ s → WantsG X c W (RepE X.K false) B as σ H s.env q Q (fa s) → t σ H Q) (sr : SR X.K c B as H σ s) {Q : Bool → Hp → Prop}
    (hw : WantsG X c W RepB B as σ H s.env false Q (minT neg i fa s)) : tB (tMIn X neg t (tVar i)) σ H Q := by
  unfold minT at hw
  cases ej : objAt s.env i with
  | none => rw [ej] at hw; exact hw.elim
  | some j =>
    rw [ej] at hw
    obtain ⟨a, q1, q2⟩ := objAt_get sr ej
    show t σ H _
    refine WantsG.bindL (s := s) hw sr r fun y H1 d st1 e1 ev1 sr1 r1 hw1 => ?_
    refine ⟨_, q1, ?_⟩
    simp only at hw1
    split at hw1
    · rename_i kvs el
      split at hw1
      · rename_i hk
        obtain ⟨xs, h1, h2, h3, h4⟩ := sr1.objs j _ a el q2
        rw [hcs] at h1
        exact ⟨a, xs, kvs, d, _, rfl, h1, h4, hk, r1, _, rfl, hw1.fin sr1 Evo.refl rfl⟩
      · exact hw1.elim
    · exact hw1.elim
theorem dt_min {i : Nat} {x : Str} {p1 : Pos} (hu : X.A.units + 64 < cLine) (hcs : c.hs = DK.hashD X.w) (hN : X.N[i]? = some x) (hv : Vis X.env.scope x) (hd : (x == ("__debug__" : Str)) = false) (hcd : (x == ("__classdict__" : Str)) = false) (h : DE X c W e false q fa) :
    DT X c W (.Compare e [.In] [.Name x p1] pos) (minT false i fa) := by
  obtain ⟨t, p, r⟩ := h
  exact ⟨_, pt_cmp (pc_min hu p (pe_var hN hv hd hcd)), fun B as σ H s Q sr hw => minT_run hcs r sr hw⟩
theorem dt_mnotin {i : Nat} {x : Str} {p1 : Pos} (hu : X.A.units + 64 < cLine) (hcs : c.hs = DK.hashD X.w) (hN : X.N[i]? = some x) (hv : Vis X.env.scope x) (hd : (x == ("__debug__" : Str)) = false) (hcd : (x == ("__classdict__" : Str)) = false) (h : DE X c W e false q fa) :
    DT X c W (.Compare e [.NotIn] [.Name x p1] pos) (minT true i fa) := by
  obtain ⟨t, p, r⟩ := h
  exact ⟨_, pt_cmp (pc_mnotin hu p (pe_var hN hv hd hcd)), fun B as σ H s Q sr hw => minT_run hcs r sr hw⟩
/-- d[k] = e -/
def mputS (i : Nat) (fk fe : EvD) : EvS := fun n s => (fe s).bx s.env fun p => match objAt s.env i with
  | some j => (fk ⟨s.env, p.2⟩).bx s.env fun q => (match q.2[j]? with
    | some (.dM kvs) => (match mKey q.1, decide (kvs.length < 16777216) with
      | true, true => .ok (.next, ⟨s.env, q.2.set j (.dM (mPut kvs q.1 p.1))⟩)
      | _, _ => .stuck)
    | _ => .stuck)
  | none => .stuck
theorem ds_mput {i : Nat} {x : Str} {p1 p2 : Pos} {ke : Expr} {fk : EvD} (hu : X.A.units + 64 < cLine) (hcs : c.hs = DK.hashD X.w) (hN : X.N[i]? = some x) (hv : Vis X.env.scope x) (hd : (x == ("__debug__" : Str)) = false) (hcd : (x == ("__classdict__" : Str)) = false) (hk : DE X c W ke false qb fk) (h : DE X c W e false q fa)
    (hs : swapsWith e (some (.Subscript (.Name x p1) ke p2)) pos.line X.env = pure false) : DS X c W (.Assign [.Subscript (.Name x p1) ke p2] e pos) (mputS i fk fa) := by
  obtain ⟨t, p, r⟩ := h
  obtain ⟨tk, pk, rk⟩ := hk
  refine ⟨_, ps_mput hu (pe_var hN hv hd hcd) pk p hs, fun B P L σ H s D srl hw => ?_⟩
  show t σ H _
  refine WantsS.bindG (s := s) hw srl r fun v H1 d st1 e1 ev1 sr1 r1 hw1 => ?_
  show tVar i σ H1 _
  simp only at hw1
  cases ej : objAt s.env i with
  | none => rw [ej] at hw1; exact hw1.elim
  | some j =>
    rw [ej] at hw1
    obtain ⟨a, q1, q2⟩ := objAt_get sr1.sr ej
    refine ⟨_, q1, ?_⟩
    show tk σ H1 _
    refine WantsS.bindG (s := ⟨s.env, st1⟩) hw1 sr1 rk fun y H2 d2 st2 e2 ev2 sr2 r2 hw2 => ?_
    simp only at hw2
    split at hw2
    · rename_i kvs el
      split at hw2
      · rename_i hk hlt
        rw [decide_eq_true_eq] at hlt
        obtain ⟨xs, h1, h2, h3, h4⟩ := sr2.sr.objs j _ a el q2
        rw [hcs] at h1 h2
        have rv : Rep X.K (B ++ (P ++ L)) H2 d v := Rep.evo ev2 (fun x hx => List.mem_append_right _ hx) _ _ r1
        have hm := List.mem_of_getElem? q2
        refine ⟨a, xs, kvs, d2, _, rfl, h1, h4, hk, r2, h3, fun b eb nd ha => ?_⟩
        subst eb
        have evw : Evo [a] H2 (upd H2 a (DictT (DK.hashD X.w) a (xPut xs (DK.norm d2) b v (mFind kvs d2).isSome))) := Evo.at h1 h2 (List.mem_singleton.mpr rfl)
        obtain ⟨k1, k2, _⟩ := mKey_ok hk
        have hlen : (mPut kvs d2 d).length ≤ sizeLine := by have := mPut_len kvs d2 d; rw [sizeLine_eq]; omega
        obtain ⟨w1, w2⟩ := sr2.sr.write (o := .dM (mPut kvs d2 d)) (u := DictT (DK.hashD X.w) a (xPut xs (DK.norm d2) b v (mFind kvs d2).isSome)) q2
          ⟨_, by rw [hcs]; exact upd_same, by rw [hcs]; exact mutDict _ _ _ nd ha, hlen, MRep.evo evw (fun x hx => by rw [List.mem_singleton.mp hx]; exact List.mem_append_right _ hm) (put_m k1 k2 r2 rv h4)⟩
        exact hw2.fin w1 ⟨w2, sr2.off⟩
      · exact hw2.elim
    · exact hw2.elim
end
end DL
end
section
set_option Elab.async false
set_option linter.all false
set_option maxRecDepth 100000
set_option maxHeartbeats 1000000
/-! The data layer, part mb: reversed slices, ranges as lists and tuples, an own list unpacked, remove, calls that get a new own object. -/
namespace HT
open PySem PySem.Spec PyProof.Rows
section
variable {prog : Program} {w : World} {A : Around} {E : Value → Shared → Prop} {s : Shared}
theorem adjust_rev (n : Nat) : Builtin.Slice.sliceAdjust none none (-1) (n : Int) = ((n : Int) - 1, -1) := by
  have h1 : (-1 : Int) < 0 := by omega
  unfold Builtin.Slice.sliceAdjust
  simp only [h1, if_true]
theorem places_rev (n : Nat) : Builtin.Slice.slicePlaces ((n : Int) - 1) (-1) (-1) = n := by
  unfold Builtin.Slice.slicePlaces
  have h1 : ¬ ((-1 : Int) > 0) := by omega
  simp only [h1, if_false]
  by_cases h : (n : Int) - 1 > -1
  · rw [if_pos h]
    have e : ((n : Int) - 1 - -1 - 1) / - -1 + 1 = (n : Int) := by
      rw [show (- -1 : Int) = 1 by decide, Int.ediv_one]
      omega
    rw [e]
    exact Int.toNat_natCast n
  · rw [if_neg h]
    omega
theorem pick_rev (xs : Array Value) : ((List.range xs.size).filterMap fun (m : Nat) => xs[(((xs.size : Int) - 1) + (m : Int) * (-1)).toNat]?).toArray = xs.toList.reverse.toArray := by
  have e : ((List.range xs.size).filterMap fun (m : Nat) => xs[(((xs.size : Int) - 1) + (m : Int) * (-1)).toNat]?) = ((List.range xs.size).map fun k => xs.size - 1 - k).filterMap (xs[·]?) := by
    rw [List.filterMap_map]
    have : ∀ l : List Nat, (∀ m ∈ l, m < xs.size) → (l.filterMap fun (m : Nat) => xs[(((xs.size : Int) - 1) + (m : Int) * (-1)).toNat]?) = l.filterMap ((fun x => xs[x]?) ∘ fun k => xs.size - 1 - k) := by
      intro l
      induction l with
      | nil => intro _; rfl
      | cons m l ih =>
        intro hl
        have hm := hl m List.mem_cons_self
        have q : (((xs.size : Int) - 1) + (m : Int) * (-1)).toNat = xs.size - 1 - m := by omega
        rw [List.filterMap_cons, List.filterMap_cons, ih fun x hx => hl x (List.mem_cons_of_mem _ hx), q]
        rfl
    exact this _ fun m hm => List.mem_range.mp hm
  rw [e, PySem.W.krv_range, List.filterMap_reverse, PySem.W.krv_all]
theorem getItem_tuple_rev {t sl : Addr} {items : Array Value} {vs : Value} {Q : Value → Shared → Prop} (ht : IsTup s.heap t items) (hs : s.heap.IsSliceOf sl .none .none vs) (ps : IsPart vs (some (-1)))
    (h : Q (.ref s.heap.objs.size) { s with heap := s.heap.push { cls := .type "tuple", data := .seq items.toList.reverse.toArray } }) (hsz : items.size ≤ sizeLine) : wpAny (model prog w) A (getItem (.ref t) (.ref sl)) Q E s := by
  have htake : sizeOk (.seq items.toList.reverse.toArray) := by
    show items.toList.reverse.toArray.size ≤ sizeLine
    rw [List.size_toArray, List.length_reverse, Array.length_toList]
    exact hsz
  obtain ⟨os, hos, hcs, hds⟩ := id hs
  have hTs : s.TypeIs (.ref sl) "slice" := ⟨os, hos, hcs⟩
  unfold getItem
  try with_reducible refine wpAny_holding ?_
  first | refine wpAny_bind (wpAny_pure ?_) | skip
  refine wpAny_bind (wpAny_sequenceKey ht.typeIs (by decide) ?_)
  refine wpAny_bind (wpAny_callSpecial?_slot (name := Str.ofString "__getitem__") ht.typeIs PyProof.Rows.slot_tuple_getitem
    (wpAny_call_entry PyProof.Rows.slot_tuple_getitem ht.typeIs entry_tuple_getitem ?_ (args_tuple_getitem _ _)))
  show wpAny _ _ (Builtin.Tuple.tupleItemsOf (.ref t) >>= _) _ _ s
  refine wpAny_bind (tupleItemsOf_ ht ?_)
  refine wpAny_bind (wpAny_typeOf hTs ?_)
  rw [if_pos (by decide)]
  refine wpAny_bind ?_
  · unfold Builtin.Slice.sliceApplied Builtin.Slice.sliceFields
    refine wpAny_bind (wpAny_bind (wpAny_field hos hds (x := .none) rfl (wpAny_bind (wpAny_field hos hds (x := .none) rfl (wpAny_bind (wpAny_field hos hds (x := vs) rfl (wpAny_pure ?_)))))))
    refine wpAny_bind (slicePart_ ps ?_)
    show wpAny _ _ (if ((-1 : Int) == 0) = true then _ else _) _ _ s
    rw [if_neg (by decide)]
    refine wpAny_bind (slicePart_none (wpAny_bind (slicePart_none (wpAny_bind (wpAny_pure ?_)))))
    show wpAny _ _ (match Builtin.Slice.sliceAdjust none none (-1) (items.size : Int) with | (lo, hi) => pure (lo, (-1 : Int), Builtin.Slice.slicePlaces lo hi (-1))) _ _ s
    rw [adjust_rev]
    show wpAny _ _ (pure (((items.size : Int) - 1), (-1 : Int), Builtin.Slice.slicePlaces ((items.size : Int) - 1) (-1) (-1))) _ _ s
    rw [places_rev]
    refine wpAny_pure ?_
    have hno : ¬ ((((items.size : Int) - 1) == 0 && (-1 : Int) == 1 && items.size == items.size) = true) := by
      intro q
      rw [Bool.and_eq_true, Bool.and_eq_true] at q
      exact absurd q.1.2 (by decide)
    show wpAny _ _ (if ((((items.size : Int) - 1) == 0 && (-1 : Int) == 1 && items.size == items.size) = true) then _ else _) _ _ s
    rw [if_neg hno, pick_rev]
    first
      | exact wpAny_bind (m := Builtin.Tuple.tupleExact _) (wpAny_newObj_type (wpAny_pure ⟨_, rfl, wpAny_pure h⟩) htake)
      | exact wpAny_bind (m := Builtin.Tuple.tupleExact _) (wpAny_newObj_type (wpAny_bind (wpAny_pure (wpAny_pure ⟨_, rfl, wpAny_pure h⟩))) htake)
      | exact wpAny_bind (wpAny_bind (m := Builtin.Tuple.tupleExact _) (wpAny_newObj_type (wpAny_pure (wpAny_pure ⟨_, rfl, wpAny_pure h⟩)) htake))
      | exact wpAny_bind (wpAny_bind (m := Builtin.Tuple.tupleExact _) (wpAny_newObj_type (wpAny_pure ⟨_, rfl, wpAny_pure h⟩) htake))
end
end HT
namespace DL
open PySem PySem.Spec PyProof.Rows L2 PySem.SeqAt PySem.W
/-! ### e[::-1] -/
def tRevA (K : PySem.W.Frag) (te : TE) : TE := fun σ H Q => te σ H fun x H1 => (∃ a xs, x = .ref a ∧ SqL K H1 a xs ∧ ∀ p, H1 p = none → Q (.ref p) (upd H1 p (.lst xs.reverse))) ∨ (∃ a xs, x = .ref a ∧ SqT K H1 a xs ∧ ∀ p, H1 p = none → Q (.ref p) (upd H1 p (.tup xs.reverse)))
theorem pe_revA {X : Cx} {e : Expr} {te : TE} {k : Nat} {p1 p2 p3 pos : Pos} (he : PE X e te) : PE X (.Subscript e (.Slice none none (some (.UnaryOp .USub (.Constant (.int 1) k p1) p2)) p3) pos) (tRevA X.K te) := by
  refine ⟨fun pins s σ H Q I h => ?_⟩
  refine Subscript_ (thn (he.run pins s σ H _ I h) fun v s1 ⟨x, H1, I1, r1, q1⟩ => ?_)
  have hst : PO X (some (.UnaryOp .USub (.Constant (.int 1) k p1) p2)) (tPart (tUn (rU fun i => .int (-i)) (tC (.int 1)))) := po_some (pe_un un_neg pe_int)
  refine wpAny_Slice (thn (po_none.run pins s1 σ H1 (fun o H2 => o = none ∧ H2 = H1) I1 ⟨rfl, rfl⟩) fun vl s2 ⟨l, H2, I2, pl, el, e2⟩ => ?_)
  subst el e2
  refine thn (po_none.run pins s2 σ H2 (fun o H3 => o = none ∧ H3 = H2) I2 ⟨rfl, rfl⟩) fun vu s3 ⟨u, H3, I3, pu, eu, e3⟩ => ?_
  subst eu e3
  refine thn (hst.run pins s3 σ H3 (fun o H4 => o = some (-1) ∧ H4 = H3) I3 ⟨1, rfl, -1, rfl, rfl, rfl⟩) fun vs s4 ⟨o, H4, I4, ps, eo, e4⟩ => ?_
  subst eo e4
  cases pl
  cases pu
  have I5 : Inv X pins σ H4 { s4 with heap := s4.heap.push { cls := .type "slice", data := .fields #[.none, .none, vs] } } := I4.kept (t' := s4.toks) fun b ob q => Heap.get?_push_of_some _ q
  rcases q1 with ⟨a, xs, ex, hx, q⟩ | ⟨a, xs, ex, hx, q⟩
  · subst ex
    cases r1
    obtain ⟨its, r, ht, hz⟩ := I5.list hx
    have hlen := r.length
    show wpAny (model X.prog X.w) X.A (subscriptTail e (.Slice none none (some (.UnaryOp .USub (.Constant (.int 1) k p1) p2)) p3) (.ref a) (.ref s4.heap.objs.size)) (EP X pins σ Q) X.xe { s4 with heap := s4.heap.push { cls := .type "slice", data := .fields #[.none, .none, vs] } }
    refine tail_any (ops := [.ref a, .ref s4.heap.objs.size]) ht.isList.typeIs (PySem.slot_list_getitem.lookup) ?_ (by with_unfolding_all rfl)
    refine wpAny_getItem_list_slice ht.isList (Heap.IsSliceOf.new _ .none .none vs) .none .none ps (by decide) ?_ (by rw [List.size_toArray]; omega)
    rw [PySem.W.krv_pick]
    refine ⟨.ref _, _, I5.laid (t' := s4.toks) (o := .lst xs.reverse) (fun b ob q => Heap.get?_push_of_some _ q) (Nat.le_refl _) ?_, rfl, q _ (I5.hok.fresh (Nat.le_refl _))⟩
    exact ⟨by rw [List.length_reverse]; exact hz, _, 0, r.reverse, Heap.get?_push_size _ rfl⟩
  · subst ex
    cases r1
    obtain ⟨its, r, ht, hz⟩ := I5.tuple hx
    have hlen := r.length
    show wpAny (model X.prog X.w) X.A (subscriptTail e (.Slice none none (some (.UnaryOp .USub (.Constant (.int 1) k p1) p2)) p3) (.ref a) (.ref s4.heap.objs.size)) (EP X pins σ Q) X.xe { s4 with heap := s4.heap.push { cls := .type "slice", data := .fields #[.none, .none, vs] } }
    refine tail_any (ops := [.ref a, .ref s4.heap.objs.size]) ht.typeIs (PyProof.Rows.slot_tuple_getitem.lookup) ?_ (by with_unfolding_all rfl)
    refine HT.getItem_tuple_rev ht (Heap.IsSliceOf.new _ .none .none vs) ps ?_ (by rw [List.size_toArray]; omega)
    refine ⟨.ref _, _, I5.laid (t' := s4.toks) (o := .tup xs.reverse) (fun b ob q => Heap.get?_push_of_some _ q) (Nat.le_refl _) ?_, rfl, q _ (I5.hok.fresh (Nat.le_refl _))⟩
    exact ⟨by rw [List.length_reverse]; exact hz, _, r.reverse, IsTup.new _ _⟩
def revD : PyData → Option PyData
  | .list ds => some (.list ds.reverse)
  | .tuple ds => some (.tuple ds.reverse)
  | _ => none
section
variable {X : Cx} {c : Cfg} {W : WX} {B as P L : List Addr} {σ : L2.St} {H H1 : Hp} {s : S} {e a b : Expr} {es : List Expr} {pos p : Pos} {fa fb : EvD} {fe : EvA} {F : FSem} {q qa qb tr : Bool} {j k n : Nat}
theorem de_rev {k : Nat} {p1 p2 p3 : Pos} (h : DE X c W a tr qa fa) : DE X c W (.Subscript a (.Slice none none (some (.UnaryOp .USub (.Constant (.int 1) k p1) p2)) p3) pos) false qa (un1 revD fa) := by
  obtain ⟨ta, pa, ra⟩ := h
  refine ⟨_, pe_revA pa, fun B as σ H s Q sr hw => ?_⟩
  show ta σ H _
  rw [← Bool.and_true qa] at hw
  refine WantsG.bind (s := s) hw sr ra fun x H1 da st1 e1 ev1 sr1 r1 hw1 => ?_
  obtain ⟨d, ed0, hw2⟩ := hw1.opt
  have ed : revD da = some d := ed0
  have rt := RepX.t r1
  unfold revD at ed
  split at ed
  · cases ed
    obtain ⟨p, vs, rfl, l, rs⟩ := rt.list
    exact .inl ⟨p, vs, rfl, l, fun q hq => hw2.fin sr1 (Evo.new hq) (Rep.newLst rs.reverse hq (sr1.notnew hq))⟩
  · cases ed
    obtain ⟨p, vs, rfl, l, rs⟩ := rt.tuple
    exact .inr ⟨p, vs, rfl, l.sq, fun q hq => hw2.fin sr1 (Evo.new hq) (Rep.newTup rs.reverse hq (sr1.notnew hq))⟩
  · cases ed
/-! ### list(range(..)), tuple(range(..)) -/
def rgD (a b : Int) : List PyData := (List.range (b - a).toNat).map fun i => .int (a + (i : Nat))
theorem rgD_rep {K : PySem.W.Frag} {av : List Addr} {H : Hp} (a b : Int) : RepA K av H (rgD a b) (rgV a b) := by
  unfold rgD rgV
  induction (List.range (b - a).toNat) with
  | nil => exact .nil
  | cons i l ih => exact .cons (by simp only [Rep]) ih
def smallI (n : Int) : Bool := decide (0 ≤ n) && decide (n ≤ 16777216)
def rg1E (mk : List PyData → PyData) (fa : EvD) : EvD := fun s => (fa s).bind fun p => match p.1 with
  | .int n => (match smallI n with
    | true => .ok (mk (rgD 0 n), p.2)
    | false => .stuck)
  | _ => .stuck
theorem rgOk {n : Int} (h : smallI n = true) : RgOk 0 n := by
  unfold smallI at h
  rw [Bool.and_eq_true, decide_eq_true_eq, decide_eq_true_eq] at h
  exact RgOk.of_le (Int.le_refl _) h.2 (by omega) h.1
theorem rg1_run {ta : TE} {mk : List PyData → PyData} {mo : List V → HO} (hmk : ∀ (K : PySem.W.Frag) (av : List Addr) (H : Hp) (ds : List PyData) (vs : List V) (p : Addr), RepA K av H ds vs → H p = none → p ∉ av → Rep K av (upd H p (mo vs)) (mk ds) (.ref p))
    (ra : ∀ (B as : List Addr) (σ : L2.St) (H : Hp) (s : S) (Q : VK), SR X.K c B as H σ s → WantsG X c W (RepE X.K false) B as σ H s.env qa Q (fa s) → ta σ H Q) (sr : SR X.K c B as H σ s) {Q : VK} (hw : WantsG X c W (RepE X.K false) B as σ H s.env qa Q (rg1E mk fa s)) :
    tRg1 ta σ H fun a b H1 => RgOk a b ∧ ∀ q, H1 q = none → Q (.ref q) (upd H1 q (mo (rgV a b))) := by
  show ta σ H _
  rw [← Bool.and_true qa] at hw
  refine WantsG.bind (s := s) hw sr ra fun x H1 da st1 e1 ev1 sr1 r1 hw1 => ?_
  simp only at hw1
  split at hw1
  · rename_i n
    split at hw1
    · rename_i hs
      refine ⟨n, RepT.int (RepX.t r1), rgOk hs, fun q hq => ?_⟩
      exact hw1.fin sr1 (Evo.new hq) (hmk _ _ _ _ _ _ (rgD_rep 0 n) hq (sr1.notnew hq))
    · exact hw1.elim
  · exact hw1.elim
theorem de_listRg1 {p2 p3 : Pos} (hc : X.calm = true) (hg : Gl X "list") (hm : X.mg "list" = none) (hg2 : Gl X "range") (hm2 : X.mg "range" = none) (h : DE X c W a false qa fa) (na : starEach [a] X.env = (false, eval a X.env) :: starEach [] X.env)
    (na2 : starEach [(.Call (.Name "range" p2) [a] [] p3 : Expr)] X.env = (false, eval (.Call (.Name "range" p2) [a] [] p3) X.env) :: starEach [] X.env) : DE X c W (.Call (.Name "list" p) [.Call (.Name "range" p2) [a] [] p3] [] pos) false qa (rg1E .list fa) := by
  obtain ⟨ta, pa, ra⟩ := h
  exact ⟨_, pe_listRg hc hg hm (prg_1 hg2 hm2 pa na) na2, fun B as σ H s Q sr hw => rg1_run (mo := .lst) (fun K av H ds vs p r h1 h2 => Rep.newLst r h1 h2) ra sr hw⟩
theorem de_tupRg1 {p2 p3 : Pos} (hc : X.calm = true) (hg : Gl X "tuple") (hm : X.mg "tuple" = none) (hg2 : Gl X "range") (hm2 : X.mg "range" = none) (h : DE X c W a false qa fa) (na : starEach [a] X.env = (false, eval a X.env) :: starEach [] X.env)
    (na2 : starEach [(.Call (.Name "range" p2) [a] [] p3 : Expr)] X.env = (false, eval (.Call (.Name "range" p2) [a] [] p3) X.env) :: starEach [] X.env) : DE X c W (.Call (.Name "tuple" p) [.Call (.Name "range" p2) [a] [] p3] [] pos) false qa (rg1E .tuple fa) := by
  obtain ⟨ta, pa, ra⟩ := h
  exact ⟨_, pe_tupRg hc hg hm (prg_1 hg2 hm2 pa na) na2, fun B as σ H s Q sr hw => rg1_run (mo := .tup) (fun K av H ds vs p r h1 h2 => Rep.newTup r h1 h2) ra sr hw⟩
/-! ### (a, b, ..) = a list (an own one, too) -/
def unlS (n : Nat) (fa : EvD) (g : GSs) : EvS := fun _ s => (fa s).bx s.env fun p => match p.1 with
  | .list ds => (match decide (ds.length = n), g ds s.env with
    | true, some e1 => .ok (.next, ⟨e1, p.2⟩)
    | _, _ => .stuck)
  | _ => .stuck
theorem ds_unl {is : List Nat} {g : GSs} {kt : Nat} {pt : Pos} (hc : X.calm = true) (h : DE X c W e tr qa fa) (hg : DGs X c es is g) (hn : (assignEach es X.env).length = n) (hst : (assignEach es X.env).findIdx? (·.1) = none)
    (hs : swapsWithSole [.Tuple es kt pt] e pos.line X.env = pure false) (hw : swappedStores [.Tuple es kt pt] e X.env = pure none) (h1 : (assignEach [.Tuple es kt pt] X.env).map (·.2) = [assign (.Tuple es kt pt) X.env]) :
    DS X c W (.Assign [.Tuple es kt pt] e pos) (unlS n fa g) := by
  obtain ⟨t, p, r⟩ := h
  obtain ⟨u, p2, r2⟩ := hg
  refine ⟨_, ps_asg p (pg_unl hc p2 hn hst) hs hw h1, fun B P L σ H s D srl hw => ?_⟩
  show t σ H _
  refine WantsS.bindG (s := s) hw srl r fun v H1 d st1 e1 ev1 sr1 r1 hw1 => ?_
  simp only at hw1
  split at hw1
  · rename_i ds
    split at hw1
    · rename_i env1 hl eg
      rw [decide_eq_true_eq] at hl
      obtain ⟨a, vs, rfl, l, rs⟩ := RepT.list (RepX.t r1)
      exact ⟨a, vs, rfl, l, by rw [rs.length]; exact hl, r2 B (P ++ L) σ H1 ⟨s.env, st1⟩ ds vs env1 _ sr1.sr rs eg fun σ' sr' _ => hw1.now ⟨sr', sr1.off⟩⟩
    · exact hw1.elim
  · exact hw1.elim
/-! ### x.remove(e), ints -/
theorem ints_rep_of {K : PySem.W.Frag} {av : List Addr} {H : Hp} : ∀ {ns : List Int} {vs : List V}, RepA K av H (ns.map .int) vs → vs = ns.map V.int
  | [], vs, h => by simpa [RepA] using h
  | n :: r, vs, h => by
    rw [List.map_cons] at h
    simp only [RepA, Rep] at h
    obtain ⟨v, q, rfl, rfl, h2⟩ := h
    rw [List.map_cons, ints_rep_of h2]
def remE (i : Nat) (fe : EvD) : EvD := fun s => match objAt s.env i with
  | some j => if isLst s.st[j]? = true then (fe s).bind fun p => (match p.2[j]?, p.1 with
    | some (.lst ds), .int k => (match intsOf ds with
      | some ns => (match decide (k ∈ ns) with
        | true => .ok (.none, p.2.set j (.lst ((ns.erase k).map .int)))
        | false => .stuck)
      | none => .stuck)
    | _, _ => .stuck) else .stuck
  | none => .stuck
theorem de_rem {i : Nat} {x : Str} {p1 apos cpos : Pos} {fe : EvD} (hN : X.N[i]? = some x) (hv : Vis X.env.scope x) (hd : (x == ("__debug__" : Str)) = false) (hcd : (x == ("__classdict__" : Str)) = false) (he : DE X c W e false q fe)
    (hbase : attributeBase (.Name x p1) "remove" X.env (eval (.Name x p1) X.env) = eval (.Name x p1) X.env)
    (hfew : ((backTo cpos (starEach [e] X.env)).all (fun x => !x.1) && (backToKw cpos (keywordEach [] X.env)).all (fun x => x.1.isSome)
      && decide ([e].length + ([] : List Keyword).length + (if ([] : List Keyword).isEmpty then 0 else 1) < 30)) = true)
    (hline : (apos.endLine == cpos.line) = true) (hs : starEach [e] X.env = (false, eval e X.env) :: starEach [] X.env) : DE X c W (.Call (.Attribute (.Name x p1) "remove" apos) [e] [] cpos) false false (remE i fe) := by
  obtain ⟨te, pe, re⟩ := he
  refine ⟨_, pe_bm PySem.F.plainAttrs_list PySem.F.slot_list_remove PySem.F.type_list_remove mt_remove (pe_var hN hv hd hcd) (pa_cons pe pa_nil hs) hbase hfew hline hs rfl, fun B as σ H s Q sr hw => ?_⟩
  unfold remE at hw
  cases ej : objAt s.env i with
  | none => rw [ej] at hw; exact hw.elim
  | some j =>
    rw [ej] at hw
    simp only at hw
    split at hw
    · rename_i hl
      obtain ⟨a, q1, q2⟩ := objAt_get sr ej
      refine ⟨_, q1, .inl ⟨rfl, sr.isList q2 hl⟩, ?_⟩
      show te σ H _
      refine WantsG.bindL (s := s) hw sr re fun y H1 d1 st1 e1 ev1 sr1 r1 hw1 => ?_
      simp only at hw1
      split at hw1
      · rename_i ds k el
        split at hw1
        · rename_i ns en
          split at hw1
          · rename_i hk
            rw [decide_eq_true_eq] at hk
            obtain ⟨vs, h1, h2⟩ := sr1.objs j _ a el q2
            have eds := intsOf_eq en
            subst eds
            have ev := ints_rep_of h2
            subst ev
            obtain ⟨m, z1, z2, z3, z4⟩ := first_at hk
            obtain ⟨w1, w2⟩ := sr1.writeL (ds := (ns.erase k).map .int) (vs := (ns.erase k).map V.int) q2 (ints_rep _)
            refine ⟨a, ns, k, m, rfl, ?_, h1, z2, z3, ?_⟩
            · have : y = .int k := RepT.int (RepX.t r1)
              rw [this]
            · rw [z4]
              exact hw1 _ _ w1 w2 (by simp [RepE, RepX, Rep])
          · exact hw1.elim
        · exact hw1.elim
      · exact hw1.elim
    · exact hw.elim
/-! ### f(..), new own objects among the arguments -/
def callVE (n : Nat) (F : FSem) (f : EvA) : EvD := fun s => match f s with
  | .ok p => (match callS n F p.1 ⟨s.env, p.2⟩ with
    | .ok q => .ok (q.1, q.2.take s.st.length)
    | _ => .stuck)
  | _ => .stuck
theorem de_fnV {x : Str} (C : Cal X.prog X.w X.K X.mg X.base j x (spD X.K c n F)) (hr : Room k X.A) (hk : j ≤ k) (hg : Gl X x) (tk : Takes X W) (ha : DVA X c W (e :: es) fe) (hdb : (x == ("__debug__" : Str)) = false) (he : starEach (e :: es) X.env = (false, eval e X.env) :: starEach es X.env)
    (hpl : (backTo pos (starEach es X.env)).any (·.1) = false) : DE X c W (.Call (.Name x p) (e :: es) [] pos) false false (callVE n F fe) := by
  obtain ⟨f, fd, ps, G, hm, kp, b⟩ := C.ex
  obtain ⟨ta, pa, ra⟩ := ha
  refine ⟨_, pe_callSD (dvs := []) (E := fun σ cls d H => W cls d σ H) (G.mono hk) hr hg hm kp b .nil (fun σ => passAt tk σ) pa hdb he hpl, fun B as σ H s Q sr hw => ?_⟩
  show ta σ H fun vs H1 => spD X.K c n F (vs ++ []) H1 Q _
  simp only [List.append_nil]
  unfold callVE at hw
  refine ra B as σ H s _ sr ?_
  cases ep : fe s with
  | stuck => rw [ep] at hw; exact hw.elim
  | exc cl s' => rw [ep] at hw; exact hw.elim
  | ok p =>
    rw [ep] at hw
    simp only at hw
    intro vs N H1 ev1 hn1 sr1 r1
    cases eq : callS n F p.1 ⟨s.env, p.2⟩ with
    | stuck => rw [eq] at hw; exact hw.elim
    | exc cl s' => rw [eq] at hw; exact hw.elim
    | ok q =>
      rw [eq] at hw
      refine callS_ref sr1 r1 ?_
      rw [eq]
      intro v H2 ev2 sr2 rv
      have evA : Evo as H H2 := ev1.trans ev2 fun x hx => (List.mem_append.mp hx).imp id (hn1 x)
      have part := SR.part sr2
      have hal := sr.aslen
      rw [hal] at part
      have hw' : WantsG X c W (RepE X.K false) B as σ H s.env false Q (.ok (q.1, q.2.take s.st.length)) := hw
      refine hw' v H2 evA ⟨sr.len, fun i sv qs => ?_, part.nd, part.aslen, part.objs, part.out, part.tabs⟩ ?_
      · obtain ⟨u, u1, u2⟩ := sr.slot i sv qs
        exact ⟨u, u1, u2.evo evA fun x hx => List.mem_append_right _ hx⟩
      · exact Rep.avoid (fun x hx => .inl (by rw [← List.append_assoc]; exact List.mem_append_left _ hx)) _ _ rv
end
end DL
end
section
set_option Elab.async false
set_option linter.all false
set_option maxRecDepth 100000
set_option maxHeartbeats 1000000
/-! The data layer, part mw: the plain side of parts z, ma, mb. -/
namespace DL
open PySem PySem.Spec PyProof.Rows L2 PySem.W
section
variable {env env1 env2 : List (Option SV)} {st st1 st2 st3 : Sto} {fa fb fc : EvD} {a b c d x y : PyData} {k l : Bool} {i j n m : Nat} {sv : SV} {f g : EvS} {Q : Fl → S → Prop} {fv : EvV} {ds : List PyData} {fx : EvA} {svs : List SV} {F : FSem} {kvs : List (PyData × PyData)} {o o' : O} {d0 d1 d2 d3 : PyData}
theorem callO1 {st' : Sto} (hj : st[j]? = some o) (hF : F [.obj 0] [o] = .ok (d, [o'])) : callS 1 F [.obj j] ⟨env, st⟩ = .ok (d, st.set j o') := by
  have hn : [SV.obj j].length = 1 ∧ (idsOf [SV.obj j]).Nodup := ⟨rfl, List.nodup_cons.mpr ⟨by simp [idsOf], List.nodup_nil⟩⟩
  unfold callS
  rw [if_pos hn]
  simp [idsOf, gather, hj, renum, hF, scatter]
theorem callO5 (hj : st[j]? = some o) (hF : F [.pure d0, .pure d1, .pure d2, .pure d3, .obj 0] [o] = .ok (d, [o'])) : callS 5 F [.pure d0, .pure d1, .pure d2, .pure d3, .obj j] ⟨env, st⟩ = .ok (d, st.set j o') := by
  have hn : [SV.pure d0, .pure d1, .pure d2, .pure d3, .obj j].length = 5 ∧ (idsOf [SV.pure d0, .pure d1, .pure d2, .pure d3, .obj j]).Nodup := ⟨rfl, List.nodup_cons.mpr ⟨by simp [idsOf], List.nodup_nil⟩⟩
  unfold callS
  rw [if_pos hn]
  simp [idsOf, gather, hj, renum, hF, scatter]
theorem rgD_nat (n : Nat) : rgD 0 (n : Int) = (List.range n).map fun i => PyData.int (i : Nat) := by
  unfold rgD
  rw [Int.sub_zero, Int.toNat_natCast]
  simp
theorem e_rg1 {mk : List PyData → PyData} (h : fa ⟨env, st⟩ = .ok (.int (n : Int), st1)) (hn : n ≤ 16777216) : rg1E mk fa ⟨env, st⟩ = .ok (mk ((List.range n).map fun i => PyData.int (i : Nat)), st1) := by
  unfold rg1E
  rw [h, Res.bind_ok]
  have : smallI (n : Int) = true := by
    unfold smallI
    rw [Bool.and_eq_true, decide_eq_true_eq, decide_eq_true_eq]
    omega
  simp only [this]
  rw [rgD_nat]
theorem s_unl {gs : GSs} (h : fa ⟨env, st⟩ = .ok (.list ds, st1)) (hl : ds.length = n) (he : gs ds env = some env1) (hq : Q .next ⟨env1, st1⟩) : OkS (unlS n fa gs m ⟨env, st⟩) Q := by
  unfold unlS
  rw [h]
  simp only [Res.bx, decide_eq_true hl, he]
  exact .of (p := (.next, ⟨env1, st1⟩)) hq
theorem e_rem {ns : List Int} {z : Int} (h1 : env[i]? = some (some (.obj j))) (h0 : isLst st[j]? = true) (hf : fa ⟨env, st⟩ = .ok (.int z, st1)) (h2 : st1[j]? = some (.lst (ns.map .int))) (hz : z ∈ ns) (h3 : st1.set j (.lst ((ns.erase z).map .int)) = st2) : remE i fa ⟨env, st⟩ = .ok (.none, st2) := by
  have hi : intsOf (ns.map PyData.int) = some ns := by
    have := ints_map (fun x : Int => x) ns
    simpa using this
  unfold remE objAt
  simp only [h1, h0, hf, Res.bind_ok, h2, hi, decide_eq_true hz, h3, if_true]
theorem e_callVE (h : fx ⟨env, st⟩ = .ok (svs, st1)) (hc : callS n F svs ⟨env, st1⟩ = .ok (d, st2)) (ht : st2.take st.length = st3) : callVE n F fx ⟨env, st⟩ = .ok (d, st3) := by
  unfold callVE
  simp only [h, hc, ht]
theorem e_dict0M (hn : st.length = n) (h3 : st ++ [.dM []] = st3) : dict0M ⟨env, st⟩ = .ok (.obj n, st3) := by
  subst hn h3; rfl
theorem e_mget (h1 : env[i]? = some (some (.obj j))) (hf : fa ⟨env, st⟩ = .ok (x, st1)) (h2 : st1[j]? = some (.dM kvs)) (hk : mKey x = true) (h3 : mFind kvs x = some d) : mgetE i fa ⟨env, st⟩ = .ok (d, st1) := by
  unfold mgetE objAt
  simp only [h1, hf, Res.bind_ok, h2, hk, h3]
theorem t_min {neg : Bool} (h1 : env[i]? = some (some (.obj j))) (hf : fa ⟨env, st⟩ = .ok (x, st1)) (h2 : st1[j]? = some (.dM kvs)) (hk : mKey x = true) : minT neg i fa ⟨env, st⟩ = .ok (neg ^^ (mFind kvs x).isSome, st1) := by
  unfold minT objAt
  simp only [h1, hf, Res.bind_ok, h2, hk]
theorem s_mput (h : fb ⟨env, st⟩ = .ok (x, st1)) (h1 : env[i]? = some (some (.obj j))) (hi : fa ⟨env, st1⟩ = .ok (y, st2)) (h2 : st2[j]? = some (.dM kvs)) (hk : mKey y = true) (hl : kvs.length < 16777216) (h3 : st2.set j (.dM (mPut kvs y x)) = st3) (hq : Q .next ⟨env, st3⟩) : OkS (mputS i fa fb n ⟨env, st⟩) Q := by
  unfold mputS objAt
  rw [h]
  simp only [Res.bx, h1, hi, h2, hk, decide_eq_true hl, h3]
  exact .of (p := (.next, ⟨env, st3⟩)) hq
end
theorem revD_tuple (ds : List PyData) : revD (.tuple ds) = some (.tuple ds.reverse) := rfl
theorem revD_list (ds : List PyData) : revD (.list ds) = some (.list ds.reverse) := rfl
/-! ### keys of one kind -/
theorem kOkAll_map {α : Type} (f : α → PyData) (h : ∀ a, DK.kOk (f a) = true) : ∀ xs : List α, DK.kOkAll (xs.map f) = true
  | [] => rfl
  | x :: xs => by rw [List.map_cons, DK.kOkAll, h, kOkAll_map f h xs, Bool.and_self]
theorem mPut_find {kvs : List (PyData × PyData)} {k d : PyData} (hk : PyData.eqv k k = true) : mFind (mPut kvs k d) k = some d := by
  unfold mPut
  split
  · rename_i h
    unfold mFind at h ⊢
    induction kvs with
    | nil => simp at h
    | cons x r ih =>
      rw [List.map_cons, List.find?_cons]
      by_cases e : PyData.eqv x.1 k = true
      · rw [if_pos e]
        simp only [e, Option.map_some]
      · rw [if_neg e]
        have ef : PyData.eqv x.1 k = false := by simpa using e
        simp only [ef]
        refine ih ?_
        rw [List.find?_cons, ef] at h
        exact h
  · rename_i h
    have hn : mFind kvs k = none := by simpa using h
    unfold mFind at hn ⊢
    have hn' : kvs.find? (fun kv => PyData.eqv kv.1 k) = none := by simpa using hn
    rw [List.find?_append, hn']
    simp [hk]
theorem mPut_mem {kvs : List (PyData × PyData)} {k d : PyData} {p : PyData × PyData} (h : p ∈ mPut kvs k d) : (∃ q ∈ kvs, q.1 = p.1 ∧ PyData.eqv q.1 k = true ∧ p.2 = d) ∨ p ∈ kvs ∨ p = (k, d) := by
  unfold mPut at h
  split at h
  · obtain ⟨q, hq, rfl⟩ := List.mem_map.mp h
    by_cases e : PyData.eqv q.1 k = true
    · rw [if_pos e]; exact .inl ⟨q, hq, rfl, e, rfl⟩
    · rw [if_neg e]; exact .inr (.inl hq)
  · rcases List.mem_append.mp h with z | z
    · exact .inr (.inl z)
    · exact .inr (.inr (List.mem_singleton.mp z))
theorem mFind_mem {kvs : List (PyData × PyData)} {k d : PyData} (h : mFind kvs k = some d) : ∃ q ∈ kvs, PyData.eqv q.1 k = true ∧ q.2 = d := by
  unfold mFind at h
  obtain ⟨q, h1, h2⟩ := Option.map_eq_some_iff.mp h
  exact ⟨q, List.mem_of_find?_eq_some h1, (List.find?_some (p := fun kv : PyData × PyData => kv.1.eqv k) h1), h2⟩
end DL
end
section
set_option Elab.async false
set_option linter.all false
set_option maxRecDepth 100000
set_option maxHeartbeats 1000000
/-! sorted(xs, key=f): f runs by the layer; what is sorted and the keys stand outside of what is tracked until the end. -/
namespace DL
open PySem PySem.Spec PyProof.Rows L2 PySem.SeqAt PySem.W PySem.Calls
section
variable {X : Cx} {pins : List (Addr × Obj)} {σ : L2.St} {H H1 H2 : Hp} {s s1 s2 : Shared}
/-- from (H, s) the body may have come to (H1, s1) -/
structure Rch (X : Cx) (H : Hp) (s : Shared) (H1 : Hp) (s1 : Shared) : Prop where
  os : s1.os = s.os
  un : Un (frs X.stack) [] H H1 s.heap s1.heap
  hok : HOk X.prog X.w H1 s1.heap
  bare : AllBare s1.gens
theorem Rch.refl (I : Inv X pins σ H s) : Rch X H s H s := ⟨rfl, Un.refl, I.hok, I.bare⟩
theorem Rch.trans (a : Rch X H s H1 s1) (b : Rch X H1 s1 H2 s2) : Rch X H s H2 s2 := ⟨b.os.trans a.os, a.un.trans b.un, b.hok, b.bare⟩
theorem Rch.inv (a : Rch X H s H1 s1) (I : Inv X pins σ H s) : Inv X pins σ H1 s1 := I.call' (ch := []) a.os a.un a.hok a.bare fun b hb => by cases hb
/-- untracked objects change -/
theorem hok_but {P : Program} {w : World} {h h' : Heap} {ch : List Addr} (x : HOk P w H h) (n : ∀ c ∈ ch, H c = none) (k : ∀ b o, b ∉ ch → h.get? b = some o → h'.get? b = some o) : HOk P w H h' := fun b u e => by
  refine (x b u e).stay (fun d v hd q => k d v (fun z => ?_) q) (fun _ q => q) fun _ _ q => q
  have := n d z
  rcases hd with y | y
  · rw [y, e] at this; cases this
  · rw [y] at this; cases this
/-- new, untracked objects change; others are laid -/
theorem Rch.raw {ch : List Addr} {h' : Heap} {tk : Nat} (a : Rch X H s H1 s1) (n : ∀ c ∈ ch, H1 c = none ∧ s.heap.get? c = none) (k : ∀ b o, b ∉ ch → s1.heap.get? b = some o → h'.get? b = some o) : Rch X H s H1 { s1 with heap := h', toks := tk } := by
  have off : ∀ b o, s.heap.get? b = some o → b ∉ ch := fun b o e z => by have := (n b z).2; rw [e] at this; cases this
  refine ⟨a.os, ⟨fun b o e hb hf hx => k b o (off b o e) (a.un.keep b o e hb hf hx), fun b o e hb hf hx => ?_, a.un.free, fun b o e hx => ?_, a.un.tups, a.un.frzs, a.un.tbls⟩, hok_but a.hok (fun c hc => (n c hc).1) k, a.bare⟩
  · obtain ⟨sl, q⟩ := a.un.slot b o e hb hf hx
    exact ⟨sl, k b _ (off b o e) q⟩
  · obtain ⟨o', q⟩ := a.un.there b o e hx
    exact ⟨o', k b _ (off b o e) q⟩
/-- an object of ours is tracked from now on -/
theorem Rch.track {c : Addr} {o : HO} (a : Rch X H s H1 s1) (n : H1 c = none) (h0 : s.heap.get? c = none) (hH : H c = none) (new : ObjOk X.prog X.w (upd H1 c o) s1.heap c o) : Rch X H s (upd H1 c o) s1 := by
  have off : ∀ b o, s.heap.get? b = some o → b ≠ c := fun b o e z => by rw [z, h0] at e; cases e
  refine ⟨a.os, ⟨a.un.keep, a.un.slot, fun b o e hb hx => by rw [upd_ne (off b o e)]; exact a.un.free b o e hb hx, a.un.there, fun b xs e => ?_, fun b o u e => ?_, fun b ps e => ?_⟩, a.hok.laidN (fun b u e => e) n new, a.bare⟩
  · rw [upd_ne (ne_of_none e hH)]; exact a.un.tups b xs e
  · rw [upd_ne (ne_of_none e hH)]; exact a.un.frzs b o u e
  · rw [upd_ne (ne_of_none e hH)]; exact a.un.tbls b ps e
end
section
variable {X : Cx} {pins : List (Addr × Obj)} {σ : L2.St} {H : Hp} {s : Shared} {A : Around} {av W : List Addr} {J : Hp → Prop}
/-- f(v) comes back with what the datum k is -/
def KeyRun (X : Cx) (av W : List Addr) (J : Hp → Prop) (H1 : Hp) (s1 : Shared) (k : PyData) (kv : Value) (s2 : Shared) : Prop := ∃ (H2 : Hp) (y : V), Rch X H1 s1 H2 s2 ∧ Evo W H1 H2 ∧ J H2 ∧ RelV y kv ∧ Rep X.K av H2 k y
/-- all calls that may come -/
def KeyTurns (X : Cx) (A : Around) (av W : List Addr) (J : Hp → Prop) (H : Hp) (s : Shared) (f : Addr) (fo : Obj) (vs : List Value) (kz : List PyData) : Prop :=
  ∀ (i : Nat) (v : Value) (k : PyData), vs[i]? = some v → kz[i]? = some k → ∀ (H1 : Hp) (s1 : Shared), Rch X H s H1 s1 → Evo W H H1 → J H1 → s1.heap.get? f = some fo → H1 f = none → wpAny (model X.prog X.w) A (call (.ref f) [v]) (KeyRun X av W J H1 s1 k) (fun _ _ => False) s1
theorem keyI_rest {a kS f : Addr} {fo : Obj} {b : Bool} {e1 : Nat} {vs : List Value} {kz : List PyData} {P : PySem.Fin → Shared → Prop} {E : Value → Shared → Prop} {H0 : Hp} {s0 : Shared}
    (hW : ∀ x ∈ W, x ∈ av) (I : Inv X pins σ H0 s0) (R : Rch X H0 s0 H s) (ev : Evo W H0 H) (j0 : J H) (ha : s0.heap.get? a = none) (hk0 : s0.heap.get? kS = none) (na : H a = none) (nk : H kS = none) (nf : H f = none) (fa : a ∉ frs X.stack) (fk : kS ∉ frs X.stack) (ff : f ∉ frs X.stack) (hka : kS ≠ a) (hfa : f ≠ a) (hfk : f ≠ kS)
    (ok : s.heap.get? kS = some (seqObj "list" #[] 0)) (oa : s.heap.get? a = some (seqObj "list" #[] e1)) (of : s.heap.get? f = some fo)
    (hlen : kz.length = vs.length) (hZ : vs.length ≤ sizeLine) (hal : AllAlike kz) (hsk : Sortable kz) (hu : ∀ d, d ∈ kz → A.units + d.depth < cLine) (turn : KeyTurns X A av W J H0 s0 f fo vs kz)
    (h : ∀ s' H' out c, Rch X H0 s0 H' s' → Evo W H0 H' → J H' → H' a = none → s'.heap.get? a = some (seqObj "list" (List.toArray out) c) → KeyedOut b kz vs out → P (.done (.ret .none)) s') :
    wpAny (model X.prog X.w) A (ksk_rest a (.ref f) b vs.toArray e1 (.ref kS)) P E s := by
  unfold ksk_rest
  refine wpAny_bind (wpAny_rule ?_)
  first
    | rw [List.forIn_toArray]
    | (rw [← Array.forIn_toList]; simp only [List.toList_toArray])
    | rw [← Array.forIn_toList]
  refine wpAny_bind (ksk_fold (fun i s' => ∃ H' kA e, Rch X H0 s0 H' s' ∧ Evo W H0 H' ∧ J H' ∧ H' a = none ∧ H' kS = none ∧ H' f = none ∧ s'.heap.get? kS = some (seqObj "list" kA e) ∧ s'.heap.get? a = some (seqObj "list" #[] e1) ∧ s'.heap.get? f = some fo ∧
    EachIs (fun v k => ∃ y, RelV y v ∧ Rep X.K av H' k y) kA.toList (kz.take i)) vs 0 s ⟨H, #[], 0, R, ev, j0, na, nk, nf, ok, oa, of, by rw [List.take_zero]; exact EachIs.nil⟩ ?step ?done)
  case step =>
    rintro j x s' hx ⟨H', kA, e, R', ev', jj', na', nk', nf', ok', oa', of', hk⟩
    simp only [Nat.zero_add] at hk ⊢
    have hj : j < vs.length := (List.getElem?_eq_some_iff.mp hx).1
    obtain ⟨k, hkj⟩ : ∃ k, kz[j]? = some k := ⟨_, List.getElem?_eq_getElem (by omega)⟩
    have hz : kA.size ≤ vs.length := by
      have h1 := hk.length
      rw [Array.length_toList, List.length_take] at h1
      omega
    refine wpAny_bind (wpAny_attempt (wpAny_mono (turn j x k hx hkj H' s' R' ev' jj' of' nf') (fun v s'' he => ?_) fun _ _ hF => hF.elim))
    obtain ⟨H2, y, R2, ev2, jj2, ry, rk⟩ := he
    try dsimp only
    have nn : ∀ {c : Addr} {o : Obj}, s'.heap.get? c = some o → H' c = none → c ∉ frs X.stack → s''.heap.get? c = some o ∧ H2 c = none := fun {c o} e1 e2 e3 => ⟨R2.un.keep c o e1 e2 e3 (by simp), R2.un.free c o e1 e2 (by simp)⟩
    obtain ⟨ok2, nk2⟩ := nn ok' nk' fk
    obtain ⟨oa2, na2⟩ := nn oa' na' fa
    obtain ⟨of2, nf2⟩ := nn of' nf' ff
    have sb := Heap.SameBut.update s''.heap kS (Obj.mapSeq (·.push v))
    obtain ⟨c2, hc2⟩ : ∃ c2, (s''.heap.update kS (Obj.mapSeq (·.push v))).get? kS = some (seqObj "list" (kA.push v) c2) := ⟨_, get?_update_seq ok2 (·.push v)⟩
    have ek : kz.take (j + 1) = kz.take j ++ [k] := by rw [List.take_add_one, hkj]; simp
    have ea : (kA.push v).toList = kA.toList ++ [v] := by simp
    refine wpAny_bind (listUpdate_at ok2 rfl ?_ (Nat.le_trans hz hZ) (Nat.le_trans (Nat.le_of_eq (Array.size_push ..)) (Nat.succ_le_succ (Nat.le_trans hz hZ))))
    refine wpAny_pure ⟨rfl, H2, kA.push v, c2, (R'.trans R2).raw (ch := [kS]) (tk := s''.toks) (fun c hc => by rw [List.mem_singleton.mp hc]; exact ⟨nk2, hk0⟩) (fun b o hb e => (sb.2 b (fun z => hb (by simp [z]))).trans e), ev'.trans' ev2, jj2, na2, nk2, nf2, hc2, (sb.2 a hka.symm).trans oa2, (sb.2 f hfk).trans of2, ?_⟩
    rw [ea, ek]
    exact each_snoc (R := fun (u : Value) (d : PyData) => ∃ y, RelV y u ∧ Rep X.K av H2 d y) ⟨y, ry, rk⟩ (hk.mono fun u d ⟨y, q1, q2⟩ => ⟨y, q1, q2.evo ev2 hW⟩)
  case done =>
    rintro s' ⟨H', kA, e, R', ev', jj', na', nk', nf', ok', oa', of', hk⟩
    have I' : Inv X pins σ H' s' := R'.inv I
    have hk' : EachIs (fun v k => ∃ as, Reads s'.heap v k as) kA.toList kz := by
      have e3 : kz.take (0 + vs.length) = kz := List.take_of_length_le (by omega)
      rw [e3] at hk
      exact hk.mono fun v k ⟨y, q1, q2⟩ => Rep.reads I' _ y v q2 q1
    have hsz : kA.size = vs.length := by
      have h1 := hk'.length
      rw [Array.length_toList] at h1
      omega
    try dsimp only
    refine wpAny_bind (listItems_at ok' rfl ?_)
    obtain ⟨G, g1, g2⟩ := restrict s'.heap fun b => !decide (b = kS)
    have kp : KeepsBut a G s'.heap := fun b o hb e => by
      by_cases z : b = kS
      · rw [g2 b (by simp [z])] at e; cases e
      · rw [g1 b (by simp [z])] at e; exact e
    refine keyH_end (κ := PySem.W.dataKind s'.heap kz) (h₁ := G) kp (g2 kS (by simp)) ok' oa' hka (SortsAt.data (s := s') hk' hal hsk hu) hsz hZ fun h3 tk3 c k3 n3 => ?_
    refine h _ H' _ c (R'.raw (ch := [a, kS]) (tk := tk3) (fun c hc => ?_) fun b o hb e => ?_) ev' jj' na' n3 ⟨s'.heap, kA.toList, hal, rfl, hk'⟩
    · rcases List.mem_cons.mp hc with rfl | hc
      · exact ⟨na', ha⟩
      · rw [List.mem_singleton.mp hc]; exact ⟨nk', hk0⟩
    · have hbn : b ≠ a ∧ b ≠ kS := by
        simp only [List.mem_cons, List.not_mem_nil, or_false, not_or] at hb
        exact hb
      exact k3 b o hbn.1 ((g1 b (by simp [hbn.2])).trans e)
end
section
variable {X : Cx} {pins : List (Addr × Obj)} {σ : L2.St} {H : Hp} {s : Shared} {av W : List Addr} {J : Hp → Prop}
theorem nofr (I : Inv X pins σ H s) : ∀ f, s.heap.objs.size ≤ f → f ∉ frs X.stack := fun f hf z => by
  rcases List.mem_cons.mp (I.stkSub _ z) with e | e
  · have h1 := I.lt
    rw [← e] at h1
    exact Nat.lt_irrefl _ (Nat.lt_of_lt_of_le h1 hf)
  · exact I.nofs hf e
/-- list.sort by key, of the copy that sorted made -/
theorem keyI_tree {f : Addr} {fo : Obj} {b : Bool} {vs : List Value} {kz : List PyData} {P : PySem.Fin → Shared → Prop} {E : Value → Shared → Prop} (hW : ∀ x ∈ W, x ∈ av) (I : Inv X pins σ H s) (j0 : J H) (nf : H f = none) (ff : f ∉ frs X.stack) (of : s.heap.get? f = some fo)
    (hlen : kz.length = vs.length) (hZ : vs.length ≤ sizeLine) (hal : AllAlike kz) (hsk : Sortable kz) (hu : ∀ d, d ∈ kz → X.A.in1.in1.units + d.depth < cLine) (turn : KeyTurns X X.A.in1.in1 av W J H s f fo vs kz)
    (h : ∀ s' H' out c, Rch X H s H' s' → Evo W H H' → J H' → H' (s.heap.objs.size + 1) = none → s'.heap.get? (s.heap.objs.size + 1) = some (seqObj "list" (List.toArray out) c) → KeyedOut b kz vs out → P (.done (.ret .none)) s') :
    wpAny (model X.prog X.w) X.A.in1.in1 (ksk_tree (s.heap.objs.size + 1) (.ref f) b) P E { s with heap := copyHeap s.heap vs } := by
  have ho := copyHeap_at s.heap vs
  generalize hh : copyHeap s.heap vs = h1 at ho
  have hold : ∀ c o, s.heap.get? c = some o → h1.get? c = some o := fun c o e => by rw [← hh]; exact copyHeap_old e
  clear hh
  have ha : s.heap.objs.size + 1 < h1.objs.size := Heap.lt_size ho
  obtain ⟨e1, ho1⟩ : ∃ e1, (h1.update (s.heap.objs.size + 1) (Obj.mapSeq fun _ => (#[] : Array Value))).get? (s.heap.objs.size + 1) = some (seqObj "list" #[] e1) := ⟨_, get?_update_seq ho fun _ => #[]⟩
  have hkS : ((h1.update (s.heap.objs.size + 1) (Obj.mapSeq fun _ => (#[] : Array Value))).push (seqObj "tuple" vs.toArray 0)).objs.size = h1.objs.size + 1 := by rw [size_push', Heap.size_update]
  have fresh : ∀ c, s.heap.objs.size ≤ c → s.heap.get? c = none := fun c hc => Heap.get?_none_of_le hc
  have flt := Heap.lt_size of
  unfold ksk_tree
  refine wpAny_bind (listItems_at ho rfl ?_)
  refine wpAny_bind (listUpdate_at ho rfl ?_ (by rw [List.size_toArray]; exact hZ) (Nat.zero_le _))
  refine wpAny_bind (seqEpoch_at ho1 rfl ?_)
  refine wpAny_bind (wpAny_newTuple ?_ (by show vs.length ≤ _; exact hZ))
  refine wpAny_bind (wpAny_newList ?_ (Nat.zero_le _))
  refine wpAny_holding ?_
  have kp : ∀ c o, s.heap.get? c = some o → (sortingHeap h1 (s.heap.objs.size + 1) vs).get? c = some o := fun c o q => sortingHeap_old (Nat.ne_of_lt (Nat.lt_succ_of_lt (Heap.lt_size q))) (hold c o q)
  have hkge : s.heap.objs.size ≤ ((h1.update (s.heap.objs.size + 1) (Obj.mapSeq fun _ => (#[] : Array Value))).push (seqObj "tuple" vs.toArray 0)).objs.size := by rw [hkS]; omega
  refine keyI_rest (a := s.heap.objs.size + 1) (f := f) (H := H) (kz := kz) (H0 := H) (s0 := s) (s := { s with heap := sortingHeap h1 (s.heap.objs.size + 1) vs }) (kS := ((h1.update (s.heap.objs.size + 1) (Obj.mapSeq fun _ => (#[] : Array Value))).push (seqObj "tuple" vs.toArray 0)).objs.size)
    hW I ⟨rfl, Un.kept kp, I.hok.kept kp, I.bare⟩ Evo.refl j0 (fresh _ (Nat.le_succ _)) (fresh _ hkge) (I.hok.fresh (Nat.le_succ _)) (I.hok.fresh hkge) nf (nofr I _ (Nat.le_succ _)) (nofr I _ hkge) ff (by rw [hkS]; exact Nat.ne_of_gt (Nat.lt_succ_of_lt ha)) (Nat.ne_of_lt (Nat.lt_succ_of_lt flt)) (by rw [hkS]; exact Nat.ne_of_lt (Nat.lt_of_lt_of_le flt (Nat.le_succ_of_le (Nat.le_of_lt (Nat.lt_of_succ_lt ha)))))
    (Heap.get?_push_size _ rfl) (Heap.get?_push_of_some _ (Heap.get?_push_of_some _ ho1)) (kp f fo of) hlen hZ hal hsk hu turn h
theorem sortedI {l f : Addr} {fo : Obj} {vs : List Value} {kz : List PyData} {Q : Value → Shared → Prop} {E : Value → Shared → Prop} (hW : ∀ x ∈ W, x ∈ av) (I : Inv X pins σ H s) (j0 : J H) (nf : H f = none) (ff : f ∉ frs X.stack) (of : s.heap.get? f = some fo) (hl : s.heap.IsList l vs.toArray ∨ IsTup s.heap l vs.toArray)
    (hlen : kz.length = vs.length) (hZ : vs.length ≤ sizeLine) (hal : AllAlike kz) (hsk : Sortable kz) (hu : ∀ d, d ∈ kz → X.A.in1.in1.units + d.depth < cLine) (turn : KeyTurns X X.A.in1.in1 av W J H s f fo vs kz)
    (h : ∀ s' H' out c, Rch X H s H' s' → Evo W H H' → J H' → H' (s.heap.objs.size + 1) = none → s'.heap.get? (s.heap.objs.size + 1) = some (seqObj "list" (List.toArray out) c) → KeyedOut false kz vs out → Q (.ref (s.heap.objs.size + 1)) s') :
    wpAny (model X.prog X.w) X.A (call (.builtin "sorted") [.ref l] [(Str.ofString "key", .ref f)]) Q E s := by
  have body : ∀ E' : Value → Shared → Prop, wpAny (model X.prog X.w) X.A.in1.in1 (Builtin.«list.sort» ⟨[.ref (s.heap.objs.size + 1)], [(Str.ofString "key", .ref f)]⟩) (fun g s' => g = .done (.ret .none) ∧ Q (.ref (s.heap.objs.size + 1)) s') E' { s with heap := copyHeap s.heap vs } := fun E' => by
    rw [ksk_t1]
    exact keyI_tree hW I j0 nf ff of hlen hZ hal hsk hu turn fun s' H' out c a1 a2 a3 a4 a5 a6 => ⟨rfl, h s' H' out c a1 a2 a3 a4 a5 a6⟩
  rcases hl with hl | hl
  · exact sorted_of_sort hl hZ (ksk_s1 _ _) (fun _ => ksk_l1 _ _) body
  · exact sorted_of_sortT hl hZ (ksk_s1 _ _) (fun _ => ksk_l1 _ _) body
end
end DL
end
section
set_option Elab.async false
set_option linter.all false
set_option maxRecDepth 100000
set_option maxHeartbeats 1000000
/-! A lambda of one parameter: made, called. -/
namespace DL
open PySem PySem.Spec PyProof.Rows L2 PySem.SeqAt PySem.W PySem.Calls
abbrev lEnv (q : Str) (scope : Scope) (L f c' : Addr) (cl : List (Str × Addr)) : Env := newEnv scope L mainGlobals cl q (some f) (.ref c') none builtinsNs
/-- the body of a lambda: it starts at s, its frame at the heap's end; A: from where it is called -/
abbrev lCx (X : Cx) (A : Around) (s : Shared) (H : Hp) (scope : Scope) (q : Str) (f c' : Addr) : Cx :=
  { X with A := A.deeper (lEnv q scope s.heap.objs.size f c' (cloFrom X.env.cells scope.names [])), s_0 := s, H_0 := H, env := lEnv q scope s.heap.objs.size f c' (cloFrom X.env.cells scope.names []), outer := X.stack, stack := lEnv q scope s.heap.objs.size f c' (cloFrom X.env.cells scope.names []) :: X.stack, ex := [], fn := fun _ => false, pn := [], xe := fun _ _ => False }
structure LamOk (N : List Str) (sc scope : Scope) (x : Str) (i : Nat) : Prop where
  kind : scope.kind = .function
  co : scope.isCoroutine = false
  gen : scope.isGenerator = false
  par : scope.names.lookup x = some NameKind.local
  own : ∀ y ∈ scope.names, y.2 = .local → y.1 = x
  nocell : ∀ y ∈ scope.names, y.2 ≠ .cell
  ix : N[i]? = some x
  free : ∀ y ∈ scope.names, y.2 = .free → sc.names.lookup y.1 = some .cell ∨ sc.names.lookup y.1 = some .free
  uniq : ∀ y ∈ scope.names, scope.names.lookup y.1 = some y.2
def lamOkB (N : List Str) (sc scope : Scope) (x : Str) (i : Nat) : Bool :=
  decide (scope.kind = .function) && !scope.isCoroutine && !scope.isGenerator && decide (scope.names.lookup x = some NameKind.local) && decide (N[i]? = some x) &&
    scope.names.all fun y => (!decide (y.2 = .local) || decide (y.1 = x)) && !decide (y.2 = .cell) && (!decide (y.2 = .free) || decide (sc.names.lookup y.1 = some .cell) || decide (sc.names.lookup y.1 = some .free)) && decide (scope.names.lookup y.1 = some y.2)
theorem lamOk_by {N : List Str} {sc scope : Scope} {x : Str} {i : Nat} (h : lamOkB N sc scope x i = true) : LamOk N sc scope x i := by
  unfold lamOkB at h
  simp only [Bool.and_eq_true, Bool.or_eq_true, Bool.not_eq_true', decide_eq_true_eq, decide_eq_false_iff_not, List.all_eq_true] at h
  obtain ⟨⟨⟨⟨⟨h1, h2⟩, h3⟩, h4⟩, h5⟩, h6⟩ := h
  refine ⟨h1, h2, h3, h4, fun y hy e => ?_, fun y hy => (h6 y hy).1.1.2, h5, fun y hy e => ?_, fun y hy => (h6 y hy).2⟩
  · rcases (h6 y hy).1.1.1 with z | z
    · exact absurd e z
    · exact z
  · rcases (h6 y hy).1.2 with (z | z) | z
    · exact absurd e z
    · exact .inl z
    · exact .inr z
section
variable {X : Cx} {pins : List (Addr × Obj)} {σ : L2.St} {H : Hp} {s : Shared}
theorem LamOk.has {N : List Str} {scope : Scope} {x : Str} {i : Nat} (L : LamOk N X.env.scope scope x i) (ok : X.Ok) : ∀ y ∈ scope.names, y.2 = .free → ∃ c, X.env.cells.lookup y.1 = some c := fun y hy e => by
  rcases L.free y hy e with k | k
  · exact ok.has _ (.inl k)
  · exact ok.has _ (.inr k)
theorem lam_start {A : Around} {scope : Scope} {x q : Str} {i : Nat} {f c' : Addr} {h₁ : Heap} {tk : Nat} {xv : V} {u : Value} (I : Inv X pins σ H s) (L : LamOk X.N X.env.scope scope x i) (hN : X.N.Nodup) (hA : A.frames = some X.stack) (hd : A.handled = none)
    (hns : h₁.Ns s.heap.objs.size fun y => [(x, u)].reverse.lookup y) (kp : ∀ b o, s.heap.get? b = some o → h₁.get? b = some o) (rx : RelV xv u) :
    Inv (lCx X A s H scope q f c') [] ((L2.wipe σ [i]).set i (some xv)) H { s with heap := h₁, toks := tk } := by
  have hfree := L.has I.ok
  have e0 := I.env0
  have cm : ∀ {y c}, (cloFrom X.env.cells scope.names []).lookup y = some c → X.env.cells.lookup y = some c := fun {y c} e => by
    rcases cloFrom_mem (PySem.mem_of_lookup e) with hm | ⟨h1, h2⟩
    · cases hm
    · obtain ⟨c1, hc⟩ := hfree _ h1 rfl
      have hc : X.env.cells.lookup y = some c1 := hc
      have e2 : c = c1 := by
        rw [h2, hc] <;> rfl
      rw [e2]
      exact hc
  have look : ∀ {y}, scope.names.lookup y = some .free → ∃ c, (cloFrom X.env.cells scope.names []).lookup y = some c := fun {y} hl => by
    have hy : (y, NameKind.free) ∈ scope.names := PySem.mem_of_lookup hl
    exact mem_lookup (cloFrom_has (cells := X.env.cells) (acc := []) hy)
  have noA : ∀ b : Addr, b ∉ (lCx X A s H scope q f c').ex := fun b z => absurd (show b ∈ ([] : List Addr) from z) (by simp)
  refine ⟨⟨e0.mod, L.kind, rfl, rfl, Nat.le_refl _, fun y z c e1 e2 => I.ok.inj y z c (cm e1) (cm e2), fun y hy => ?_, fun y c z _ => ?_, fun _ => hd, Around.frames_deeper hA, .inr ⟨rfl, rfl⟩, fun b z => absurd z (noA b), e0.bs, e0.bsz, fun b _ _ => noA b,
      fun b z => absurd z (noA b), e0.funs, e0.frf⟩,
    rfl, e0.bare, Un.kept kp, ⟨_, hns, fun j y v e1 e2 e3 => ?_⟩, fun y c e => ?_, I.hok.fresh (Nat.le_refl _), fun y c e => I.freeC y c (cm e), fun q hq => absurd (show q ∈ ([] : List (Addr × Obj)) ++ [] from hq) (by simp), I.hok.kept kp, by rw [List.length_set, wipe_length]; exact I.len⟩
  · have hy : scope.names.lookup y = some .cell ∨ scope.names.lookup y = some .free := hy
    rcases hy with hy | hy
    · exact absurd rfl (L.nocell _ (PySem.mem_of_lookup hy))
    · exact look hy
  · have z : false = true := z
    cases z
  · have hi : i < σ.length := by
      rw [I.len]
      exact (List.getElem?_eq_some_iff.mp L.ix).1
    by_cases hji : j = i
    · subst hji
      have ey : y = x := Option.some.inj ((show X.N[j]? = some y from e1).symm.trans L.ix)
      subst ey
      have hlt : j < (L2.wipe σ [j]).length := by rw [wipe_length]; exact hi
      rw [List.getElem?_set_self hlt] at e2
      cases e2
      refine ⟨u, rx, .inl ⟨L.par, ?_⟩⟩
      show [(y, u)].reverse.lookup y = some u
      simp [List.lookup]
    · rw [List.getElem?_set_ne (Ne.symm hji)] at e2
      obtain ⟨e2, hne⟩ := wipe_some e2
      have e3 : Vis scope y := e3
      rcases e3 with k | k | k
      · exfalso
        have := L.own _ (PySem.mem_of_lookup k) rfl
        have ey : y = x := this
        subst ey
        exact hji (nodup_ix hN e1 L.ix)
      · exact absurd rfl (L.nocell _ (PySem.mem_of_lookup k))
      · obtain ⟨m, hn, hl⟩ := I.loc
        have hvis : Vis X.env.scope y := (L.free _ (PySem.mem_of_lookup k) rfl).elim (fun k => .inr (.inl k)) (fun k => .inr (.inr k))
        obtain ⟨w', r, qq⟩ := hl j y v e1 e2 hvis
        obtain ⟨c2, h2⟩ := look k
        refine ⟨w', r, .inr ⟨.inr k, c2, h2, ?_⟩⟩
        have c1 := cm h2
        rcases qq with ⟨k', _⟩ | ⟨_, c3, e', z⟩
        · have k' : X.env.scope.names.lookup y = some .local := k'
          rcases L.free _ (PySem.mem_of_lookup k) rfl with k2 | k2 <;> rw [show X.env.scope.names.lookup y = _ from k2] at k' <;> cases k'
        · rw [c1] at e'
          cases e'
          exact z.keeps kp
  · obtain ⟨w', z⟩ := I.cell y c (cm e)
    exact ⟨w', z.keeps kp⟩
/-- a call of a function whose body is an expression; its code's name may be any -/
theorem lam_call {prog : Program} {w : World} {A : Around} {R : Result → Shared → Prop} {s : Shared} {a : Addr} {args : Args} {o : Obj} {fd : FuncData} {body : Expr} {q : Str} (hroom : A.depth < recursionLimit) (ho : s.heap.get? a = some o)
    (hd' : o.data = .func fd) (hco : fd.scope.isCoroutine = false) (hgen : fd.scope.isGenerator = false) (hbody : fd.body = .expr body) (hcd : s.heap.CodeRec fd.code q)
    (h : wpAny (model prog w) A.in1 (bindArgs fd args) (fun binds s₁ =>
      wpAny (model prog w) A.in1 (newFunctionEnv fd.scope fd.globals fd.closure binds (q ++ ".<locals>.") (some a) fd.code none fd.builtins)
        (fun env s₂ => s₂.heap.NoLimit ∧ codeAny (model prog w) A (.expr body env) R s₂) (fun e s' => R (.error e) s') s₁) (fun e s' => R (.error e) s') s) :
    codeAny (model prog w) A (.call (.ref a) args) R s := by
  refine codeAny_of_tree ?_
  show wpAny _ A.in1 (callAny (.ref a) args) _ _ s
  simp only [callAny]
  refine wpAny_bind (wpAny_load ho ?_)
  obtain ⟨c, oc, vs, tq, hc, hoc, hdc, hq⟩ := hcd
  simp only [hd', callFunction, hco, hgen, hbody, hc]
  rw [hc] at h
  refine wpAny_bind (m := field (.ref c) 1) (wpAny_field hoc hdc hq (wpAny_bind (wpAny_pure ?_)))
  exact wpAny_bind (wpAny_mono h (fun binds s₁ h₁ => wpAny_bind (wpAny_mono h₁ (fun env s₂ h₂ => wpAny_bind (wpAny_enterFrame h₂.1 hroom
    (wpAny_pure (And.intro rfl h₂.2)))) fun _ _ h' => h')) fun _ _ h' => h')
/-- the lambda's object -/
abbrev lamObj (X : Cx) (params : Arguments) (body : Expr) (scope : Scope) (pm : Value) (c' : Addr) (ctv : Value) : Obj := kla_obj "<lambda>" (X.env.qual ++ "<lambda>") params body scope (cloFrom X.env.cells scope.names []) pm c' ctv
/-- the lambda called -/
theorem lam_run {A : Around} {params : Arguments} {body : Expr} {scope : Scope} {x : Str} {i k : Nat} {f c' P' : Addr} {pm ctv u : Value} {xv : V} {tb : TE} {Q : VK} (I : Inv X pins σ H s) (L : LamOk X.N X.env.scope scope x i) (hN : X.N.Nodup) (hA : A.frames = some X.stack) (hr : Room (k + 1) A)
    (hf : s.heap.get? f = some (lamObj X params body scope pm c' ctv)) (hcd : H c' = some (CodeT c' P')) (rx : RelV xv u)
    (hbind : bindArgs (kla_fn "<lambda>" (X.env.qual ++ "<lambda>") params body scope (cloFrom X.env.cells scope.names []) pm (.ref c') ctv) ⟨[u], []⟩ = pure [(x, u)])
    (hbody : ∀ (q : Str), PE (lCx X A s H scope q f c') body tb) (ht : tb ((L2.wipe σ [i]).set i (some xv)) H Q) :
    wpAny (model X.prog X.w) A (call (.ref f) [u]) (fun kv s2 => ∃ (H2 : Hp) (y : V), Rch X H s H2 s2 ∧ RelV y kv ∧ Q y H2) (fun _ _ => False) s := by
  obtain ⟨⟨_, oc, vs, q, t, hoc, hdc, hvc⟩, _, _⟩ := I.hok c' _ hcd
  refine wpAny_call (codeAny_mono (lam_call (R := fun r s' => match r with
    | .ok (.ret v) => ∃ (H2 : Hp) (y : V), Rch X H s H2 s' ∧ RelV y v ∧ Q y H2
    | _ => False) hr.depth hf rfl L.co L.gen rfl ⟨c', oc, vs, t, rfl, hoc, hdc, hvc⟩ ?_) fun r s' hq => ?_)
  · rw [hbind]
    refine wpAny_pure (wpAny_newFunctionEnv (fun y hy => L.nocell y hy) (fun y hy => ?_) (fun h₁ hns hsb => ⟨I.nolimit.fresh _ hsb, ?_⟩) L.kind)
    · rw [List.mem_singleton.mp hy]; exact L.par
    · show codeAny _ _ (.expr body (lEnv (q ++ ".<locals>.") scope s.heap.objs.size f c' (cloFrom X.env.cells scope.names []))) _ _
      have kp : ∀ b o, s.heap.get? b = some o → h₁.get? b = some o := fun b o e => hsb.extBut b o (Nat.ne_of_lt (Heap.lt_size e)) (Heap.get?_push_of_some _ e)
      have J := lam_start (A := A) (q := q ++ ".<locals>.") (f := f) (c' := c') (tk := s.toks + [(x, u)].length) I L hN hA hr.hd hns kp rx
      refine kla_codeExpr (wpAny_mono ((hbody (q ++ ".<locals>.")).run [] _ _ H Q J ht) (fun v s' hq => ?_) fun e s' hq => hq.elim)
      obtain ⟨w', H', J', rv, qq⟩ := hq
      exact ⟨H', w', ⟨J'.os, J'.base, J'.hok, J'.bare⟩, rv, qq⟩
  · cases r with
    | error e => exact hq.elim
    | ok fl =>
      cases fl with
      | ret v => exact hq
      | next => exact hq.elim
      | brk => exact hq.elim
      | cont => exact hq.elim
end
end DL
end
section
set_option Elab.async false
set_option linter.all false
set_option maxRecDepth 100000
set_option maxHeartbeats 1000000
/-! A lambda is made: its code object is new, or known. -/
namespace DL
open PySem PySem.Spec PyProof.Rows L2 PySem.SeqAt PySem.W PySem.Calls
section
variable {M : Model} {A : Around} {E : Value → Shared → Prop} {s : Shared} {name qual : Str} {params : Arguments} {body : Expr} {scope : Scope} {env : Env} {c P : Addr} {ps : Array Value} {pos : Pos} {firstLine : Nat} {mg : Str → Option Value}
  {clos : List (Str × Addr)} {Q : Value → Shared → Prop}
/-- as the library's, the new code object's own table told too -/
theorem lam_new (hcl : closureFor scope env = pure clos) (hge0 : env.globals = mainGlobals) (hg : s.heap.Ns mainGlobals mg) (hcode : env.code = .ref c) (C : CodeHd s.heap c P) (hP : s.heap.get? P = some (tabObj ps)) (ht : TriplesOk ps.toList)
    (hnf : codeAmong pos ps.toList = none) (hgP : mainGlobals ≠ P) (hb : s.heap.BuiltinsAt mg P)
    (h : ∀ c' ctv h' tk P', Heap.ExtBut P s.heap h' → s.heap.objs.size ≤ c' → c' < h'.objs.size → h'.CodeRec (.ref c') qual → h'.get? P = some (tabObj (ps ++ #[rawInt pos.line, rawInt pos.col, .ref c'])) → s.heap.objs.size ≤ P' → h'.IsCode c' P' #[] → h'.TableAt c' P' #[] →
      Q (.ref h'.objs.size) { s with heap := h'.push (kla_obj name qual params body scope clos ((mg "__name__").getD .none) c' ctv), toks := tk }) :
    wpAny M A (makeFunction name qual params (.expr body) scope env [] [] [] pos firstLine) Q E s := by
  rw [makeFunction_eq]
  simp only [List.zip_nil_right, List.filterMap_nil, List.isEmpty_nil, if_true, pure_bind]
  obtain ⟨bm, ob, hbm, hne0, _, hneP, hbo, hcls, hdict, hdata⟩ := hb
  unfold makeTail
  rw [hcl, hge0]
  refine wpAny_bind (wpAny_pure ?_)
  cases clos with
  | nil =>
    simp only [List.isEmpty_nil, if_true]
    refine wpAny_bind (wpAny_pure ?_)
    refine wpAny_bind (wpAny_functionCodeX hcode (C.code hP ht) (C.tab hP) hnf fun c' h' tk hx hge hlt _ hrec htb hnew => ?_)
    obtain ⟨P', hp1, hp2, hp3⟩ := hnew
    have hg' := hg.extBut hx hgP
    refine wpAny_bind (wpAny_builtinsFor hg' hbm hne0 (hx _ _ hneP hbo) hcls hdict hdata ?_)
    refine wpAny_bind (wpAny_nsGet hg' ?_)
    exact wpAny_bind (wpAny_pure (wpAny_newObj_type (h c' .none h' tk P' hx hge hlt hrec htb.2 hp1 hp2 hp3) (by size_fits)))
  | cons q r =>
    simp only [List.isEmpty_cons, Bool.false_eq_true, if_false]
    refine wpAny_bind (wpAny_newTextTuple ?_)
    refine wpAny_bind (wpAny_functionCodeX hcode ((C.keeps fun b o e => Heap.get?_push_of_some _ e).code (Heap.get?_push_of_some _ hP) ht) ((C.keeps fun b o e => Heap.get?_push_of_some _ e).tab (Heap.get?_push_of_some _ hP)) hnf fun c' h' tk hx hge hlt _ hrec htb hnew => ?_)
    obtain ⟨P', hp1, hp2, hp3⟩ := hnew
    have hg' := (hg.push _).extBut hx hgP
    have hx' : Heap.ExtBut P s.heap h' := fun b o hb' e => hx b o hb' (Heap.get?_push_of_some _ e)
    have up : ∀ {n : Nat} {oT : Obj}, (s.heap.push oT).objs.size ≤ n → s.heap.objs.size ≤ n := fun {n oT} z => Nat.le_trans (by rw [Heap.size_push]; omega) z
    refine wpAny_bind (wpAny_builtinsFor hg' hbm hne0 (hx' _ _ hneP hbo) hcls hdict hdata ?_)
    refine wpAny_bind (wpAny_nsGet hg' ?_)
    exact wpAny_bind (wpAny_pure (wpAny_newObj_type (h c' _ h' tk P' hx' (up hge) hlt hrec htb.2 (up hp1) hp2 hp3) (by size_fits)))
end
section
variable {X : Cx} {pins : List (Addr × Obj)} {σ : L2.St} {H : Hp} {s : Shared}
theorem lam_make {c P : Addr} {params : Arguments} {body : Expr} {scope : Scope} {x : Str} {i : Nat} {pos : Pos} {E : Value → Shared → Prop} {Q : Value → Shared → Prop} (I : Inv X pins σ H s) (L : LamOk X.N X.env.scope scope x i) (kn : Kn X.base c P H) (tP : TabT H P) (hcode : X.env.code = .ref c) (bm : X.base.BuiltinsAt X.mg P) (gP : mainGlobals ≠ P)
    (hdef : defaultsOf params X.env = ([], []))
    (h : ∀ (f : Addr) (cp : Addr × Addr) (pm ctv : Value) (H3 : Hp) (s' : Shared), Inv X pins σ H3 s' → Grown P cp H H3 → s'.heap.get? f = some (lamObj X params body scope pm cp.1 ctv) → H3 f = none → f ∉ frs X.stack → Q (.ref f) s') :
    wpAny (model X.prog X.w) X.A (eval (.Lambda params body scope pos) X.env) Q E s := by
  obtain ⟨ps, hP, htr⟩ := tP.g
  have hPs : s.heap.get? P = some { cls := .none, data := .fields ps } := I.hok P _ hP
  have cd : PySem.W.CodeHd s.heap c P := by
    rcases kn with z | z
    · exact z.keeps fun b u e => I.bk b u e
    · exact (I.hok c _ z).1.1
  have bP : s.heap.BuiltinsAt X.mg P := bm.keeps I.bk
  have nf := nofr I
  refine PySem.W.kla_eval hdef ?_
  cases hc : codeAmong pos ps.toList with
  | none =>
    refine lam_new (mg := X.mg) (c := c) (P := P) (ps := ps) (closure_ok (L.has I.ok)) I.ok.glob (I.mod.glob.keeps I.bk) hcode cd hPs htr hc gP bP fun c' ctv h' tk P' hx hge hlt hrec htb hgeP hcP htP => ?_
    have hsz : s.heap.objs.size ≤ h'.objs.size := Nat.le_trans hge (Nat.le_of_lt hlt)
    have ne : c' ≠ P' := by
      obtain ⟨_, _, _, _, _, _, _, _, _, _, _, _, _, _, _, _, _, _, _, _, z⟩ := hcP
      exact z
    have nC : H c' = none := I.hok.fresh hge
    have nQ : H P' = none := I.hok.fresh hgeP
    have hPl : P' < h'.objs.size := Heap.lt_size htP.2
    have hx' : ∀ b o, b ≠ P → s.heap.get? b = some o → (h'.push (lamObj X params body scope ((X.mg "__name__").getD .none) c' ctv)).get? b = some o := fun b o n e => Heap.get?_push_of_some _ (hx b o n e)
    have hcd : PySem.W.CodeHd (h'.push (lamObj X params body scope ((X.mg "__name__").getD .none) c' ctv)) c' P' := (PySem.W.CodeHd.of hcP htP).keeps fun b o e => Heap.get?_push_of_some _ e
    have hnm : CodeN (h'.push (lamObj X params body scope ((X.mg "__name__").getD .none) c' ctv)) c' := by
      obtain ⟨c2, oc, vs, t, e2, hoc, hd, hv⟩ := hrec
      cases e2
      exact ⟨oc, vs, _, t, Heap.get?_push_of_some _ hoc, hd, hv⟩
    refine h h'.objs.size (c', P') ((X.mg "__name__").getD .none) ctv _ _ (inv_code (t' := tk) I hP hx' (Heap.get?_push_of_some _ htb) hge hgeP ne hcd hnm (Heap.get?_push_of_some _ htP.2)) (.inr ⟨ps, pos, hP, htr, nC, nQ, ne, rfl⟩) (Heap.get?_push_size _ rfl) ?_ (nf _ hsz)
    rw [upd_ne (Nat.ne_of_gt hPl), upd_ne (Nat.ne_of_gt hlt), upd_ne (Nat.ne_of_gt (Nat.lt_of_lt_of_le (Heap.lt_size hPs) hsz))]
    exact I.hok.fresh hsz
  | some cv =>
    obtain ⟨c', P', rfl, k1, k2⟩ := tP.out hP hc
    refine PySem.W.kla_makeFunctionHit (mg := X.mg) (c := c) (P := P) (ps := ps) (closure_ok (L.has I.ok)) I.ok.glob (I.mod.glob.keeps I.bk) hcode cd hPs htr hc bP fun ctv h' tk hx hsz => ?_
    exact h h'.objs.size (c', P') ((X.mg "__name__").getD .none) ctv H _ (I.kept fun b o e => Heap.get?_push_of_some _ (hx b o e)) (.inl ⟨rfl, k1, k2⟩) (Heap.get?_push_size _ rfl) (I.hok.fresh hsz) (nf _ hsz)
end
end DL
end
section
set_option Elab.async false
set_option linter.all false
set_option maxRecDepth 100000
set_option maxHeartbeats 1000000
/-! sorted(xs, key=lambda x: ..) over data. -/
namespace DL
open PySem PySem.Spec PyProof.Rows L2 PySem.SeqAt PySem.W PySem.Calls
def itemsD : PyData → Option (List PyData)
  | .list ds => some ds
  | .tuple ds => some ds
  | _ => none
def sortKD (ds kz : List PyData) : List PyData := ((ds.zip kz).mergeSort (dataLe false fun p : PyData × PyData => p.2)).map (·.1)
/-- how sorted by key reads -/
def tSK (K : PySem.W.Frag) (base : Heap) (cc P : Addr) (ta : TE) (ix : Nat) (te : Addr × Addr → TE) : TE := fun σ H Q => ta σ H fun xv H1 => Kn base cc P H1 ∧ TabT H1 P ∧ ∀ cp H3, Grown P cp H1 H3 → ∃ (av W : List Addr) (J : Hp → Prop) (dx : PyData) (ds kz : List PyData),
  (∀ x ∈ W, x ∈ av) ∧ J H3 ∧ H3 cp.1 = some (CodeT cp.1 cp.2) ∧ RepT K av H3 dx xv ∧ itemsD dx = some ds ∧ kz.length = ds.length ∧ AllAlike kz ∧ Sortable kz ∧ PyData.depthAll kz ≤ 40 ∧
  (∀ (i : Nat) (d k : PyData), ds[i]? = some d → kz[i]? = some k → ∀ (H4 : Hp) (x : V), J H4 → Evo W H3 H4 → Rep K av H4 d x → te cp ((L2.wipe σ [ix]).set ix (some x)) H4 fun y H5 => Evo W H4 H5 ∧ J H5 ∧ Rep K av H5 k y) ∧
  ∀ (D : Addr) (us : List V) (H5 : Hp), Evo W H3 H5 → J H5 → H5 D = none → RepA K av H5 (sortKD ds kz) us → Q (.ref D) (upd H5 D (.lst us))
section
variable {X : Cx}
theorem kz_depth {d : PyData} : ∀ {kz : List PyData}, d ∈ kz → d.depth ≤ PyData.depthAll kz := depth_mem
theorem zip3_map : ∀ {ds kz : List PyData} {vs : List V}, vs.length = ds.length → kz.length = ds.length → ((ds.zip vs).zip kz).map (fun b : (PyData × V) × PyData => (b.1.1, b.2)) = ds.zip kz
  | [], kz, vs, h1, h2 => by simp
  | d :: ds, [], vs, h1, h2 => by simp at h2
  | d :: ds, k :: kz, [], h1, h2 => by simp at h1
  | d :: ds, k :: kz, v :: vs, h1, h2 => by
    simp only [List.length_cons, Nat.add_right_cancel_iff] at h1 h2
    simp only [List.zip_cons_cons, List.map_cons]
    rw [zip3_map h1 h2]
theorem zip3_sort {ds kz : List PyData} {vs : List V} (h1 : vs.length = ds.length) (h2 : kz.length = ds.length) :
    ((((ds.zip vs).zip kz).mergeSort (dataLe false fun b : (PyData × V) × PyData => b.2)).map fun b => b.1.1) = sortKD ds kz := by
  have e := sort_maps (l := (ds.zip vs).zip kz) (r := dataLe false fun b : (PyData × V) × PyData => b.2) (s := dataLe false fun p : PyData × PyData => p.2) (fun b : (PyData × V) × PyData => (b.1.1, b.2)) (fun a _ b _ => rfl)
  rw [zip3_map h1 h2] at e
  unfold sortKD
  rw [← e, List.map_map]
  rfl
theorem zip3_each {av : List Addr} {H : Hp} : ∀ {ds kz : List PyData} {vs : List V} {its : List Value}, RepA X.K av H ds vs → Vals vs its → kz.length = ds.length → EachIs (fun (v : Value) (b : (PyData × V) × PyData) => RelV b.1.2 v ∧ Rep X.K av H b.1.1 b.1.2) its ((ds.zip vs).zip kz)
  | [], kz, vs, its, h, r, h2 => by
    simp only [RepA] at h
    subst h
    cases r
    exact .nil
  | d :: ds, [], vs, its, h, r, h2 => by simp at h2
  | d :: ds, k :: kz, vs, its, h, r, h2 => by
    simp only [RepA] at h
    obtain ⟨v, q, rfl, h1, h3⟩ := h
    cases r with
    | cons r1 r2 =>
      simp only [List.zip_cons_cons]
      exact .cons ⟨r1, h1⟩ (zip3_each h3 r2 (by simpa using h2))
theorem zip3_back {av : List Addr} {H : Hp} : ∀ {out : List Value} {bs : List ((PyData × V) × PyData)}, EachIs (fun (v : Value) (b : (PyData × V) × PyData) => RelV b.1.2 v ∧ Rep X.K av H b.1.1 b.1.2) out bs → RepA X.K av H (bs.map fun b => b.1.1) (bs.map fun b => b.1.2) ∧ Vals (bs.map fun b => b.1.2) out
  | _, _, .nil => ⟨.nil, .nil⟩
  | _, _, .cons h t => by
    obtain ⟨q1, q2⟩ := zip3_back t
    exact ⟨.cons h.2 q1, .cons h.1 q2⟩
theorem zip3_keys : ∀ {ds kz : List PyData} {vs : List V}, vs.length = ds.length → kz.length = ds.length → ((ds.zip vs).zip kz).map (fun b : (PyData × V) × PyData => b.2) = kz
  | [], [], vs, h1, h2 => by simp
  | [], k :: kz, vs, h1, h2 => by simp at h2
  | d :: ds, [], vs, h1, h2 => by simp at h2
  | d :: ds, k :: kz, [], h1, h2 => by simp at h1
  | d :: ds, k :: kz, v :: vs, h1, h2 => by
    simp only [List.length_cons, Nat.add_right_cancel_iff] at h1 h2
    simp only [List.zip_cons_cons, List.map_cons]
    rw [zip3_keys h1 h2]
theorem pe_sortK {cc P : Addr} {k ix : Nat} {ta : TE} {te : Addr × Addr → TE} {a body : Expr} {params : Arguments} {scope : Scope} {x : Str} {p pos lpos kp : Pos} (hc : X.calm = true) (hN : X.N.Nodup) (hr : Room (k + 3) X.A) (hgl : Gl X "sorted") (hm : X.mg "sorted" = none) (hb : bootBuiltins "sorted" = some (.builtin "sorted"))
    (bm : X.base.BuiltinsAt X.mg P) (gP : mainGlobals ≠ P) (hcode : X.env.code = .ref cc) (L : LamOk X.N X.env.scope scope x ix) (hdef : defaultsOf params X.env = ([], [])) (pa : PE X a ta)
    (hbind : ∀ (q : Str) (cl : List (Str × Addr)) (pm code ct u : Value), bindArgs (kla_fn "<lambda>" q params body scope cl pm code ct) ⟨[u], []⟩ = pure [(x, u)])
    (hbody : ∀ (cp : Addr × Addr) (s : Shared) (H : Hp) (f : Addr) (q : Str), PE (lCx X X.A.in1.in1 s H scope q f cp.1) body (te cp)) (hs : starEach [a] X.env = (false, eval a X.env) :: starEach [] X.env) :
    PE X (.Call (.Name "sorted" p) [a] [⟨some "key", .Lambda params body scope lpos, kp⟩] pos) (tSK X.K X.base cc P ta ix te) := by
  refine ⟨fun pins s σ H Q I h => ?_⟩
  refine wpAny_Call_Name_kw (ld_blt I hgl hm hb ?_)
  refine PyProof.Rows.callWith_kw (e := a) (rest := []) ?_ (by rw [hs]; rfl) (by rw [hs]; rfl) rfl rfl
  rw [hs]
  refine Calls.spliced_cons ?_
  show wpAny _ _ (eval a X.env) _ _ s
  refine thn (pa.run pins s σ H _ I h) fun av s1 ⟨xv, H1, I1, r1, kn, tP, q1⟩ => ?_
  refine Calls.spliced_nil ?_
  refine kws_cons (lam_make I1 L kn tP hcode bm gP hdef fun f cp pm ctv H3 s3 I3 hgr hf nf ff => ?_)
  refine kws_nil ?_
  obtain ⟨avs, W, J, dx, ds, kz, hW, j0, hcd, rx, hit, hl, hal, hsk, hdp, turn, hq⟩ := q1 cp H3 hgr
  have hu := hr.units
  have main : ∀ (l : Addr) (vs : List V) (its : List Value), RepA X.K avs H3 ds vs → Vals vs its → its.length ≤ sizeLine → (s3.heap.IsList l its.toArray ∨ IsTup s3.heap l its.toArray) →
      wpAny (model X.prog X.w) X.A (call (.builtin "sorted") [.ref l] [(Str.ofString "key", .ref f)]) (EP X pins σ Q) X.xe s3 := by
    intro l vs its rs rv hz hlt
    have hvl : vs.length = ds.length := by have := rs.length; omega
    have hil : its.length = ds.length := by rw [← rv.length, hvl]
    refine sortedI (H := H3) (av := avs) (W := W) (J := J) hW I3 j0 nf ff hf hlt (kz := kz) (by rw [hl, hil]) hz hal hsk (fun d hd => ?_) (fun i v kd hv hk H4 s4 R4 ev4 j4 hf4 nf4 => ?_) fun s' H' out c R' ev' j' na oa ko => ?_
    · have := kz_depth hd
      have e2 : X.A.in1.in1.units = X.A.units + 2 := rfl
      omega
    · have hi : i < ds.length := by rw [← hil]; exact (List.getElem?_eq_some_iff.mp hv).1
      obtain ⟨y, hy, ry⟩ := rs.get (List.getElem?_eq_getElem hi)
      obtain ⟨u, hu', ru⟩ := rv.get hy
      rw [hv] at hu'
      cases hu'
      have I4 := R4.inv I3
      have cd4 : H4 cp.1 = some (CodeT cp.1 cp.2) := ev4.ext _ _ _ hcd
      refine wpAny_mono (lam_run (k := k) (Q := fun y H5 => Evo W H4 H5 ∧ J H5 ∧ Rep X.K avs H5 kd y) I4 L hN I.ok.frames (A := X.A.in1.in1) hr.in1.in1 hf4 cd4 ru (hbind _ _ _ _ _ _) (fun q => hbody cp s4 H4 f q) (turn i ds[i] kd (List.getElem?_eq_getElem hi) hk H4 y j4 ev4 (ry.evo ev4 hW))) (fun kv s2 hkv => ?_) fun _ _ z => z
      obtain ⟨H2, y2, R2, rv2, e2, j2, rk2⟩ := hkv
      exact ⟨H2, y2, R2, e2, j2, rv2, rk2⟩
    · have eK : kz = ((ds.zip vs).zip kz).map fun b => b.2 := (zip3_keys hvl hl).symm
      have hE := zip3_each (kz := kz) (RepA.evo ev' hW ds vs rs) rv hl
      have ko' : KeyedOut false (((ds.zip vs).zip kz).map fun b => b.2) its out := by rw [← eK]; exact ko
      have hout := keyedOut_each (fun b : (PyData × V) × PyData => b.2) ko' hE
      obtain ⟨q2, q3⟩ := zip3_back hout
      rw [zip3_sort hvl hl] at q2
      have hn : H3 (s3.heap.objs.size + 1) = none := I3.hok.fresh (Nat.le_succ _)
      have hlen : (((ds.zip vs).zip kz).mergeSort (dataLe false fun b : (PyData × V) × PyData => b.2)).length ≤ sizeLine := by
        rw [List.length_mergeSort, List.length_zip, List.length_zip, hvl, hl, Nat.min_self, Nat.min_self, ← hil]; exact hz
      have T := R'.track (o := .lst ((((ds.zip vs).zip kz).mergeSort (dataLe false fun b : (PyData × V) × PyData => b.2)).map fun b => b.1.2)) na (Heap.get?_none_of_le (Nat.le_succ _)) hn ⟨by rw [List.length_map]; exact hlen, out, c, q3, oa⟩
      exact ⟨.ref _, _, T.inv I3, rfl, hq _ _ H' ev' j' na q2⟩
  cases dx with
  | list ds' =>
    have e : ds' = ds := Option.some.inj hit
    subst e
    obtain ⟨l, vs, rfl, hsl, rs⟩ := rx.list
    obtain rfl : av = Value.ref l := r1
    obtain ⟨its, rvs, hls, hz⟩ := I3.list hsl
    exact main l vs its rs rvs (by rw [← rvs.length]; exact hz) (.inl hls.isList)
  | tuple ds' =>
    have e : ds' = ds := Option.some.inj hit
    subst e
    obtain ⟨l, vs, rfl, hsl, rs⟩ := rx.tuple
    obtain rfl : av = Value.ref l := r1
    obtain ⟨its, rvs, hls, hz⟩ := I3.tuple hsl.sq
    exact main l vs its rs rvs (by rw [← rvs.length]; exact hz) (.inr hls)
  | _ => cases hit
end
/-! ### over data -/
open Classical in
noncomputable def keysOf (ix : Nat) (fb : EvD) (env : List (Option SV)) (st : Sto) : List PyData → Option (List PyData)
  | [] => some []
  | d :: ds => match fb ⟨(wipeL env [ix]).set ix (some (.pure d)), st⟩ with
    | .ok (k, st') => if st' = st then (match keysOf ix fb env st ds with
      | some ks => some (k :: ks)
      | none => none) else none
    | _ => none
theorem keysOf_spec {ix : Nat} {fb : EvD} {env : List (Option SV)} {st : Sto} : ∀ {ds kz : List PyData}, keysOf ix fb env st ds = some kz → kz.length = ds.length ∧ ∀ (i : Nat) (d k : PyData), ds[i]? = some d → kz[i]? = some k → fb ⟨(wipeL env [ix]).set ix (some (.pure d)), st⟩ = .ok (k, st)
  | [], kz, h => by
    simp only [keysOf, Option.some.injEq] at h
    subst h
    exact ⟨rfl, fun i d k h => by simp at h⟩
  | d :: ds, kz, h => by
    unfold keysOf at h
    split at h
    · rename_i k st' e
      split at h
      · rename_i hst
        subst hst
        split at h
        · rename_i ks e2
          cases h
          obtain ⟨h1, h2⟩ := keysOf_spec e2
          refine ⟨by simp [h1], fun i d' k' hd hk => ?_⟩
          cases i with
          | zero =>
            simp only [List.getElem?_cons_zero, Option.some.injEq] at hd hk
            subst hd hk
            exact e
          | succ i =>
            simp only [List.getElem?_cons_succ] at hd hk
            exact h2 i d' k' hd hk
        · cases h
      · cases h
    · cases h
/-- the plain side's way in -/
theorem keysOf_map {α : Type} {ix : Nat} {fb : EvD} {env : List (Option SV)} {st : Sto} (fx fk : α → PyData) : ∀ xs : List α, (∀ x ∈ xs, fb ⟨(wipeL env [ix]).set ix (some (.pure (fx x))), st⟩ = .ok (fk x, st)) → keysOf ix fb env st (xs.map fx) = some (xs.map fk)
  | [], _ => rfl
  | x :: xs, h => by
    rw [List.map_cons, keysOf, h x List.mem_cons_self]
    simp only [if_true]
    rw [keysOf_map fx fk xs fun y hy => h y (List.mem_cons_of_mem _ hy)]
    rfl
open Classical in
noncomputable def sortKE (fa : EvD) (ix : Nat) (fb : EvD) : EvD := fun s => (fa s).bind fun p => match itemsD p.1 with
  | some ds => (match keysOf ix fb s.env p.2 ds with
    | some kz => if AllAlike kz ∧ Sortable kz ∧ PyData.depthAll kz ≤ 40 then .ok (.list (sortKD ds kz), p.2) else .stuck
    | none => .stuck)
  | none => .stuck
section
variable {X : Cx} {c : Cfg} {W : WX}
theorem de_sortK {cc P : Addr} {k ix : Nat} {fa fb : EvD} {tr qa q : Bool} {a body : Expr} {params : Arguments} {scope : Scope} {x : Str} {p pos lpos kp : Pos} (kn : KnC X.base c cc P) (hc : X.calm = true) (hN : X.N.Nodup) (hr : Room (k + 3) X.A) (hgl : Gl X "sorted") (hm : X.mg "sorted" = none) (hb : bootBuiltins "sorted" = some (.builtin "sorted"))
    (bm : X.base.BuiltinsAt X.mg P) (gP : mainGlobals ≠ P) (hcode : X.env.code = .ref cc) (L : LamOk X.N X.env.scope scope x ix) (hdef : defaultsOf params X.env = ([], [])) (ha : DE X c W a tr qa fa)
    (hbind : ∀ (q : Str) (cl : List (Str × Addr)) (pm code ct u : Value), bindArgs (kla_fn "<lambda>" q params body scope cl pm code ct) ⟨[u], []⟩ = pure [(x, u)])
    (hbody : ∀ (cp : Addr × Addr) (s : Shared) (H : Hp) (f : Addr) (qn : Str), DE (lCx X X.A.in1.in1 s H scope qn f cp.1) (c.add cp) W0 body false q fb) (hs : starEach [a] X.env = (false, eval a X.env) :: starEach [] X.env) :
    DE X c W (.Call (.Name "sorted" p) [a] [⟨some "key", .Lambda params body scope lpos, kp⟩] pos) false false (sortKE fa ix fb) := by
  obtain ⟨ta, pa, ra⟩ := ha
  refine ⟨_, pe_sortK (te := fun cp => tDE X.K X (c.add cp) W0 false q fb) hc hN hr hgl hm hb bm gP hcode L hdef pa hbind (fun cp s H f qn => (hbody cp s H f qn).pe) hs, fun B as σ H s Q sr hw => ?_⟩
  show ta σ H _
  have hw' : WantsG X c W (RepE X.K false) B as σ H s.env (qa && false) Q (sortKE fa ix fb s) := by rw [Bool.and_false]; exact hw
  unfold sortKE at hw'
  refine WantsG.bind (s := s) hw' sr ra fun x H1 dx st1 e1 ev1 sr1 r1 hw1 => ?_
  obtain ⟨kn1, kn2⟩ := kn.at sr1
  refine ⟨kn1, kn2, fun cp H3 hgr => ?_⟩
  obtain ⟨evg, new⟩ := hgr.evo
  have sr3 := (sr1.evo evg).add new
  simp only at hw1
  split at hw1
  · rename_i ds hit
    split at hw1
    · rename_i kz hk
      split at hw1
      · rename_i hcnd
        obtain ⟨hal, hsk, hdp⟩ := hcnd
        obtain ⟨hl, hkey⟩ := keysOf_spec hk
        refine ⟨B ++ as, as, fun H4 => SR X.K (c.add cp) B as H4 σ ⟨s.env, st1⟩, dx, ds, kz, fun x hx => List.mem_append_right _ hx, sr3, new.1, (RepX.t r1).evo0 evg, hit, hl, hal, hsk, hdp, fun i d k hd hk H4 x j4 ev4 rx => ?_, fun D us H5 ev5 j5 hD rs => ?_⟩
        · refine ⟨B, as, ⟨(wipeL s.env [ix]).set ix (some (.pure d)), st1⟩, SR.setV (s := ⟨wipeL s.env [ix], st1⟩) (sv := .pure d) (SR.wipe (s := ⟨s.env, st1⟩) j4 [ix]) rx, ?_⟩
          rw [hkey i d k hd hk]
          intro v H5 e5 sr5 rv5
          exact ⟨e5.mono wq_as, SR.slots (s := ⟨s.env, st1⟩) (σ := σ) sr5 j4 (e5.mono wq_as), rv5⟩
        · exact hw1 (.ref D) _ ((evg.wide.trans' ev5).trans' (Evo.new hD).wide) ((SR.sub j5).evo (Evo.new hD)) (Rep.newLst rs hD (j5.notnew hD))
      · exact hw1.elim
    · exact hw1.elim
  · exact hw1.elim
end
end DL
end
section
set_option Elab.async false
set_option linter.all false
set_option maxRecDepth 100000
set_option maxHeartbeats 1000000
/-! sorted(xs, reverse=True), xs.extend([..]), range with a step. -/
namespace DL
open PySem PySem.Spec PyProof.Rows L2 PySem.SeqAt PySem.W PySem.Calls
/-! ### reverse=True -/
section
variable {prog : Program} {w : World} {A : Around} {E : Value → Shared → Prop} {s : Shared} {β : Type} {vs : List Value} {bs : List β} {enc : β → PyData} {R : Value → β → Prop}
theorem sorted_rev_dataT {l : Addr} {b : Bool} {Q : Value → Shared → Prop} (hl : IsTup s.heap l vs.toArray) (e : EachIs R vs bs) (er : EachIs (fun v b => ∃ as, Reads s.heap v (enc b) as) vs bs) (hal : AllAlike (bs.map enc)) (hk : Sortable (bs.map enc)) (hL : bs.length ≤ sizeLine)
    (hu : ∀ b, b ∈ bs → A.units + 2 + (enc b).depth < cLine) (h : ∀ out, out.length = bs.length → EachIs R out (bs.mergeSort (dataLe b enc)) → Q (.ref (s.heap.objs.size + 1)) { s with heap := sortedAll s.heap vs (List.toArray out) }) :
    wpAny (model prog w) A (call (.builtin "sorted") [.ref l] [(Str.ofString "reverse", .bool b)]) Q E s := by
  have er' : EachIs (fun v b => ∃ as, Reads (sortingHeap (copyHeap s.heap vs) (s.heap.objs.size + 1) vs) v (enc b) as) vs bs := er.mono fun _ _ ⟨as, r⟩ => ⟨as, PyProof.Rows.Reads.keeps (fun _ _ => sorting_copy_old) r⟩
  have S := SortsAt.data (prog := prog) (w := w) (A := A.in1.in1) (s := { s with heap := sortingHeap (copyHeap s.heap vs) (s.heap.objs.size + 1) vs }) (each_map (R := fun v d => ∃ as, Reads (sortingHeap (copyHeap s.heap vs) (s.heap.objs.size + 1) vs) v d as) enc er') hal hk (bound_map hu)
  exact sorted_of_sortT hl (by rw [e.length]; exact hL) (args_sorted_rev _ _) (fun _ => args_list_sort_rev _ _) fun _ => list_sort_rev_vals (s := { s with heap := copyHeap s.heap vs }) (copyHeap_at s.heap vs) S (by rw [e.length]; exact hL)
    ⟨rfl, h _ (by rw [sortVals_length b rfl]; exact e.length) (sortVals_data b e er' hal)⟩
end
def sortRD (ds : List PyData) : List PyData := ds.mergeSort (dataLe true fun d => d)
open Classical in
noncomputable def sortedRDD : PyData → Option PyData
  | .list ds => if AllAlike ds ∧ Sortable ds ∧ PyData.depthAll ds ≤ 40 then some (.list (sortRD ds)) else none
  | .tuple ds => if AllAlike ds ∧ Sortable ds ∧ PyData.depthAll ds ≤ 40 then some (.list (sortRD ds)) else none
  | _ => none
section
variable {X : Cx} {c : Cfg} {W : WX}
def rSortR (X : Cx) : List V → List V → Hp → VK → Prop := fun xs zs H Q => ∃ av x dx d, xs = [x] ∧ zs = [.bl true] ∧ (∀ p, H p = none → p ∉ av) ∧ RepT X.K av H dx x ∧ sortedRDD dx = some d ∧ ∀ z H', Evo [] H H' → Rep X.K av H' d z → Q z H'
theorem cr_sortR (hu : X.A.units + 64 < cLine) : CallRK X (.builtin "sorted") [Str.ofString "reverse"] (rSortR X) := by
  intro pins s σ H xs zs us ws Q I rv rz h
  obtain ⟨av, x, dx, d, rfl, rfl, hav, r, e, hQ⟩ := h
  obtain ⟨w1, rfl, e1⟩ := vals1 rz
  obtain rfl : w1 = Value.bool true := e1
  have main : ∀ (l : Addr) (ds : List PyData) (vs : List V) (its : List Value), RepA X.K av H ds vs → Vals vs its → its.length ≤ sizeLine → (s.heap.IsList l its.toArray ∨ IsTup s.heap l its.toArray) → (AllAlike ds ∧ Sortable ds ∧ PyData.depthAll ds ≤ 40) → (∀ z H', Evo [] H H' → Rep X.K av H' (.list (sortRD ds)) z → Q z H') →
      wpAny (model X.prog X.w) X.A (call (.builtin "sorted") [.ref l] ([Str.ofString "reverse"].zip [.bool true])) (EP X pins σ Q) X.xe s := by
    intro l ds vs its rs rvs hz hl hal hQ
    obtain ⟨e1, e2⟩ := each_pairs I rs rvs
    have hlv := rs.length
    have hil := rvs.length
    have hmap : (ds.zip vs).map (fun b => b.1) = ds := by rw [List.map_fst_zip]; omega
    have hlen : (ds.zip vs).length = vs.length := by rw [List.length_zip]; omega
    have hdep : ∀ b, b ∈ ds.zip vs → X.A.units + 2 + (b.1).depth < cLine := fun b hb => by
      have : b.1 ∈ ds := by rw [← hmap]; exact List.mem_map.mpr ⟨b, hb, rfl⟩
      have := depth_mem this
      have := hal.2.2
      omega
    have fin : ∀ out : List Value, out.length = (ds.zip vs).length → EachIs (fun (v : Value) (b : PyData × V) => RelV b.2 v ∧ Rep X.K av H b.1 b.2) out ((ds.zip vs).mergeSort (dataLe true fun b => b.1)) → EP X pins σ Q (.ref (s.heap.objs.size + 1)) { s with heap := sortedAll s.heap its (List.toArray out) } := by
      intro out h1 h2
      obtain ⟨q1, q2⟩ := pairs_back h2
      have hs : ((ds.zip vs).mergeSort (dataLe true fun b => b.1)).map (fun b => b.1) = sortRD ds := by
        exact (sort_maps (r := dataLe true fun b : PyData × V => b.1) (s := dataLe true fun d => d) (fun b : PyData × V => b.1) (fun a _ b _ => rfl)).trans (by rw [hmap]; rfl)
      rw [hs] at q1
      obtain ⟨ep, he'⟩ := PyProof.Rows.sortedAll_at s.heap its out.toArray
      refine ⟨.ref _, upd H (s.heap.objs.size + 1) (.lst _), I.laid (t' := s.toks) (fun _ _ => PyProof.Rows.sortedAll_old) (Nat.le_succ _) ⟨?_, out, ep, q2, by simpa using he'⟩, rfl, ?_⟩
      · rw [List.length_map, List.length_mergeSort, hlen, hil]; exact hz
      · have hn := I.hok.fresh (Nat.le_succ s.heap.objs.size)
        exact hQ _ _ (Evo.new hn) (Rep.newLst q1 hn (hav _ hn))
    rcases hl with hl | hl
    · exact sorted_rev_data (enc := fun b : PyData × V => b.1) (bs := ds.zip vs) hl e1 e2 (by rw [hmap]; exact hal.1) (by rw [hmap]; exact hal.2.1) (by rw [hlen, hil]; exact hz) hdep fin
    · exact sorted_rev_dataT (enc := fun b : PyData × V => b.1) (bs := ds.zip vs) hl e1 e2 (by rw [hmap]; exact hal.1) (by rw [hmap]; exact hal.2.1) (by rw [hlen, hil]; exact hz) hdep fin
  unfold sortedRDD at e
  split at e
  · rename_i ds
    split at e
    · rename_i hal
      cases e
      obtain ⟨a, vs, rfl, l, rs⟩ := r.list
      rw [Vals.ref1 rv]
      obtain ⟨its, rvs, hl, hz⟩ := I.list l
      exact main a ds vs its rs rvs (by rw [← rvs.length]; exact hz) (.inl hl.isList) hal hQ
    · cases e
  · rename_i ds
    split at e
    · rename_i hal
      cases e
      obtain ⟨a, vs, rfl, l, rs⟩ := r.tuple
      rw [Vals.ref1 rv]
      obtain ⟨its, rvs, hl, hz⟩ := I.tuple l.sq
      exact main a ds vs its rs rvs (by rw [← rvs.length]; exact hz) (.inr hl) hal hQ
    · cases e
  · cases e
theorem e_sortR {a : Expr} {p p2 pos kp : Pos} {tr qa : Bool} {fa : EvD} (hu : X.A.units + 64 < cLine) (hg : Gl X "sorted") (hm : X.mg "sorted" = none) (hb : bootBuiltins "sorted" = some (.builtin "sorted")) (ha : DE X c W a tr qa fa) (hs : starEach [a] X.env = (false, eval a X.env) :: starEach [] X.env) :
    DE X c W (.Call (.Name "sorted" p) [a] [⟨some "reverse", .Constant (.bool true) j p2, kp⟩] pos) false qa (un1 sortedRDD fa) := by
  obtain ⟨ta, pa, ra⟩ := ha
  refine ⟨_, pe_callBK (cr_sortR hu) hg hm hb (pa_cons pa pa_nil hs) (pk_cons pe_bl pk_nil) (by decide) rfl (by rw [hs]; rfl) (by rw [hs]; rfl), fun B as σ H s Q sr hw => ?_⟩
  show ta σ H _
  have hw' : WantsG X c W (RepE X.K false) B as σ H s.env (qa && true) Q (un1 sortedRDD fa s) := by rw [Bool.and_true]; exact hw
  unfold un1 at hw'
  refine WantsG.bind (s := s) hw' sr ra fun x H1 da st1 e1 ev1 sr1 r1 hw1 => ?_
  obtain ⟨d, hd, hw2⟩ := hw1.opt
  exact ⟨B ++ as, x, da, d, rfl, rfl, fun p hp => sr1.notnew hp, RepX.t r1, hd, fun z H' e rz => hw2.fin sr1 e rz⟩
/-! ### x.extend([..]) -/
def extE (i : Nat) (fc : EvC) : EvD := fun s => match objAt s.env i with
  | some j => (match s.st[j]? with
    | some (.lst _) => (match fc s with
      | .ok p => (match p.2[j]? with
        | some (.lst ds) => if ds.length + p.1.length ≤ 16777216 then .ok (.none, p.2.set j (.lst (ds ++ p.1))) else .stuck
        | _ => .stuck)
      | .exc cl s' => .exc cl s'
      | .stuck => .stuck)
    | _ => .stuck)
  | none => .stuck
theorem de_ext {i : Nat} {x : Str} {p1 apos cpos : Pos} {e : Expr} {fc : EvC} (hN : X.N[i]? = some x) (hv : Vis X.env.scope x) (hd : (x == ("__debug__" : Str)) = false) (hcd : (x == ("__classdict__" : Str)) = false) (he : DC X c W e fc)
    (hbase : attributeBase (.Name x p1) "extend" X.env (eval (.Name x p1) X.env) = eval (.Name x p1) X.env)
    (hfew : ((backTo cpos (starEach [e] X.env)).all (fun x => !x.1) && (backToKw cpos (keywordEach [] X.env)).all (fun x => x.1.isSome)
      && decide ([e].length + ([] : List Keyword).length + (if ([] : List Keyword).isEmpty then 0 else 1) < 30)) = true)
    (hline : (apos.endLine == cpos.line) = true) (hs : starEach [e] X.env = (false, eval e X.env) :: starEach [] X.env) : DE X c W (.Call (.Attribute (.Name x p1) "extend" apos) [e] [] cpos) false false (extE i fc) := by
  obtain ⟨te, pe, re⟩ := he
  refine ⟨_, pe_bm PySem.F.plainAttrs_list PySem.F.slot_list_extend PySem.F.type_list_extend mt_extend (pe_var hN hv hd hcd) (pa_cons pe pa_nil hs) hbase hfew hline hs rfl, fun B as σ H s Q sr hw => ?_⟩
  unfold extE at hw
  cases ej : objAt s.env i with
  | none => rw [ej] at hw; exact hw.elim
  | some j =>
    rw [ej] at hw
    simp only at hw
    split at hw
    · rename_i hl
      obtain ⟨a, q1, q2⟩ := objAt_get sr ej
      refine ⟨_, q1, .inl ⟨rfl, sr.isList q2 (by rw [hl]; rfl)⟩, ?_⟩
      show te σ H _
      refine re B as σ H s _ sr ?_
      cases efc : fc s with
      | stuck => rw [efc] at hw; exact hw.elim
      | exc cl s' => rw [efc] at hw; exact hw
      | ok p =>
        obtain ⟨es, st1⟩ := p
        rw [efc] at hw
        simp only at hw
        split at hw
        · rename_i ds el
          split at hw
          · rename_i hlt
            intro D us H' ev hD sr1 eD rs
            obtain ⟨vs, h1, h2⟩ := sr1.objs j _ a el q2
            obtain ⟨w1, w2⟩ := sr1.writeL q2 (h2.append rs)
            exact ⟨a, D, vs, us, rfl, rfl, h1, eD, by have := h2.length; have := rs.length; rw [sizeLine_eq]; simp only at this; omega, hw _ _ (ev.trans' w1) (w2.less fun x hx => List.mem_cons_of_mem _ hx) (by simp [RepE, RepX, Rep])⟩
          · exact hw.elim
        · exact hw.elim
    · exact hw.elim
/-! ### range(i, j, k) -/
open Classical in
noncomputable def rangeSI (fa fb fd : EvD) : EvI := fun s => (fa s).bind fun p => (fb ⟨s.env, p.2⟩).bind fun q => (fd ⟨s.env, q.2⟩).bind fun r => match p.1, q.1, r.1 with
  | .int i, .int j, .int k => if RgC i j k (Builtin.Range.rangeSize i j k).toNat then .ok (rangeCIV i k (Builtin.Range.rangeSize i j k).toNat, r.2) else .stuck
  | _, _, _ => .stuck
theorem di_rangeS {a b d tg : Expr} {p pos : Pos} {qa qb qd : Bool} {fa fb fd : EvD} (hg : Gl X "range") (hm : X.mg "range" = none) (ha : DE X c W a false qa fa) (hb : DE X c W b false qb fb) (hd : DE X c W d false qd fd) (hs : starEach [a, b, d] X.env = (false, eval a X.env) :: starEach [b, d] X.env) (hs2 : starEach [b, d] X.env = (false, eval b X.env) :: starEach [d] X.env)
    (hs3 : starEach [d] X.env = (false, eval d X.env) :: starEach [] X.env) (hpl : (backTo pos (starEach [b, d] X.env)).any (·.1) = false) : DI X c W tg (.Call (.Name "range" p) [a, b, d] [] pos) (rangeSI fa fb fd) := by
  obtain ⟨t, p, r⟩ := ha.loud'
  obtain ⟨t2, p2, r2⟩ := hb.loud'
  obtain ⟨t3, p3, r3⟩ := hd.loud'
  refine ⟨_, pi_range3 hg hm (pa_cons p (pa_cons p2 (pa_cons p3 pa_nil hs3) hs2) hs) hs hpl, fun B as σ H s R sr hw => ?_⟩
  show t σ H _
  refine WantsG.bindL (s := s) hw sr r fun v H1 d st1 e1 ev1 sr1 r1 hw1 => ?_
  show t2 σ H1 _
  refine WantsG.bindL (s := ⟨s.env, st1⟩) hw1 sr1 r2 fun v2 H2 d2 st2 e2 ev2 sr2 r5 hw2 => ?_
  show t3 σ H2 _
  refine WantsG.bindL (s := ⟨s.env, st2⟩) hw2 sr2 r3 fun v3 H3 d3 st3 e3 ev3 sr3 r6 hw3 => ?_
  simp only at hw3
  split at hw3
  · rename_i i j k
    have ez : v = .int i := by simpa [RepE, RepX, Rep] using r1
    have ez2 : v2 = .int j := by simpa [RepE, RepX, Rep] using r5
    have ez3 : v3 = .int k := by simpa [RepE, RepX, Rep] using r6
    subst ez ez2 ez3
    split at hw3
    · rename_i hj
      exact ⟨i, j, k, _, rfl, hj, hw3.fin sr3 Evo.refl wd_rangeC⟩
    · exact hw3.elim
  · exact hw3.elim
end
end DL
end
section
set_option Elab.async false
set_option linter.all false
set_option maxRecDepth 100000
set_option maxHeartbeats 1000000
/-! The plain side of DNa .. DNe; comprehensions whose parts are found by unification. -/
namespace DL
open PySem PySem.Spec PyProof.Rows L2 PySem.W
section
variable {env env1 env2 : List (Option SV)} {st st1 st2 st3 : Sto} {fa fb fc fd : EvD} {a b d : PyData} {i j n : Nat}
/-! ### comprehensions: the environment told apart -/
theorem wp_nil : wipeL env [] = env := rfl
theorem wp_cons {v : Nat} {vs : List Nat} (h2 : wipeL env vs = env1) (h : env1.set v none = env2) : wipeL env (v :: vs) = env2 := by
  rw [wipeL, h2, h]
section
variable {α : Type} {fi : EvI} {vs : List Nat} {gt : GS} {ft : EvT} {fe : EvD}
theorem c_allN (xs : List α) (fx : α → PyData) (e0 : List (Option SV)) (e1 : α → List (Option SV)) (h : α → PyData) (hwp : wipeL env vs = e0) (hw : Walks fi ⟨env, st⟩ (xs.map fx) st1) (hn : xs.length ≤ 16777216)
    (H : ∀ x ∈ xs, gt (fx x) e0 = some (e1 x) ∧ ft ⟨e1 x, st1⟩ = .ok (true, st1) ∧ fe ⟨e1 x, st1⟩ = .ok (h x, st1)) : compC fi vs gt ft fe ⟨env, st⟩ = .ok (xs.map h, st1) := by
  subst hwp; exact c_all xs fx e1 h hw hn H
theorem c_allI (xs : List PyData) (e0 : List (Option SV)) (e1 : PyData → List (Option SV)) (h : PyData → PyData) (hwp : wipeL env vs = e0) (hw : Walks fi ⟨env, st⟩ xs st1) (hn : xs.length ≤ 16777216)
    (H : ∀ x ∈ xs, gt x e0 = some (e1 x) ∧ ft ⟨e1 x, st1⟩ = .ok (true, st1) ∧ fe ⟨e1 x, st1⟩ = .ok (h x, st1)) : compC fi vs gt ft fe ⟨env, st⟩ = .ok (xs.map h, st1) := by
  subst hwp; exact c_all xs id e1 h (by rw [List.map_id]; exact hw) hn H
theorem c_pureN (xs : List α) (fx : α → PyData) (e0 : List (Option SV)) (e1 : α → List (Option SV)) (p : α → Bool) (h : α → PyData) (hwp : wipeL env vs = e0) (hw : Walks fi ⟨env, st⟩ (xs.map fx) st1) (hn : xs.length ≤ 16777216)
    (H : ∀ x ∈ xs, gt (fx x) e0 = some (e1 x) ∧ ft ⟨e1 x, st1⟩ = .ok (p x, st1) ∧ fe ⟨e1 x, st1⟩ = .ok (h x, st1)) : compC fi vs gt ft fe ⟨env, st⟩ = .ok ((xs.filter p).map h, st1) := by
  subst hwp; exact c_pure xs fx e1 p h hw hn fun x hx => ⟨(H x hx).1, (H x hx).2.1, fun _ => (H x hx).2.2⟩
theorem c_pureI (xs : List PyData) (e0 : List (Option SV)) (e1 : PyData → List (Option SV)) (p : PyData → Bool) (h : PyData → PyData) (hwp : wipeL env vs = e0) (hw : Walks fi ⟨env, st⟩ xs st1) (hn : xs.length ≤ 16777216)
    (H : ∀ x ∈ xs, gt x e0 = some (e1 x) ∧ ft ⟨e1 x, st1⟩ = .ok (p x, st1) ∧ fe ⟨e1 x, st1⟩ = .ok (h x, st1)) : compC fi vs gt ft fe ⟨env, st⟩ = .ok ((xs.filter p).map h, st1) := by
  subst hwp; exact c_pure xs id e1 p h (by rw [List.map_id]; exact hw) hn fun x hx => ⟨(H x hx).1, (H x hx).2.1, fun _ => (H x hx).2.2⟩
theorem q_allN (xs : List α) (fx : α → PyData) (e0 : List (Option SV)) (e1 : α → List (Option SV)) (p : α → Bool) (hwp : wipeL env vs = e0) (hw : Walks fi ⟨env, st⟩ (xs.map fx) st1)
    (H : ∀ x ∈ xs, gt (fx x) e0 = some (e1 x) ∧ ft ⟨e1 x, st1⟩ = .ok (true, st1) ∧ fe ⟨e1 x, st1⟩ = .ok (.bool (p x), st1)) : quantE false fi vs gt ft fe ⟨env, st⟩ = .ok (.bool (xs.all p), st1) := by
  subst hwp; exact q_all xs fx e1 p hw H
theorem q_allI (xs : List PyData) (e0 : List (Option SV)) (e1 : PyData → List (Option SV)) (p : PyData → Bool) (hwp : wipeL env vs = e0) (hw : Walks fi ⟨env, st⟩ xs st1)
    (H : ∀ x ∈ xs, gt x e0 = some (e1 x) ∧ ft ⟨e1 x, st1⟩ = .ok (true, st1) ∧ fe ⟨e1 x, st1⟩ = .ok (.bool (p x), st1)) : quantE false fi vs gt ft fe ⟨env, st⟩ = .ok (.bool (xs.all p), st1) := by
  subst hwp; exact q_all xs id e1 p (by rw [List.map_id]; exact hw) H
theorem q_anyN (xs : List α) (fx : α → PyData) (e0 : List (Option SV)) (e1 : α → List (Option SV)) (p : α → Bool) (hwp : wipeL env vs = e0) (hw : Walks fi ⟨env, st⟩ (xs.map fx) st1)
    (H : ∀ x ∈ xs, gt (fx x) e0 = some (e1 x) ∧ ft ⟨e1 x, st1⟩ = .ok (true, st1) ∧ fe ⟨e1 x, st1⟩ = .ok (.bool (p x), st1)) : quantE true fi vs gt ft fe ⟨env, st⟩ = .ok (.bool (xs.any p), st1) := by
  subst hwp; exact q_any xs fx e1 p hw H
theorem q_anyI (xs : List PyData) (e0 : List (Option SV)) (e1 : PyData → List (Option SV)) (p : PyData → Bool) (hwp : wipeL env vs = e0) (hw : Walks fi ⟨env, st⟩ xs st1)
    (H : ∀ x ∈ xs, gt x e0 = some (e1 x) ∧ ft ⟨e1 x, st1⟩ = .ok (true, st1) ∧ fe ⟨e1 x, st1⟩ = .ok (.bool (p x), st1)) : quantE true fi vs gt ft fe ⟨env, st⟩ = .ok (.bool (xs.any p), st1) := by
  subst hwp; exact q_any xs id e1 p (by rw [List.map_id]; exact hw) H
end
/-! ### two clauses -/
theorem inN_up (iv : IVal) (g : GS) (ft : EvT) (fe : EvD) (env : List (Option SV)) (n : Nat) : ∀ (m i : Nat) (st : Sto), inN iv g ft fe env n m i st ≠ .stuck → inN iv g ft fe env n (m + 1) i st = inN iv g ft fe env n m i st
  | 0, i, st, h => absurd rfl h
  | m + 1, i, st, h => by
    have ih := inN_up iv g ft fe env n m
    rw [inN, inN]
    rw [inN] at h
    cases e1 : iv i st with
    | none => rfl
    | some o =>
      cases o with
      | none => rfl
      | some d =>
        simp only [e1] at h ⊢
        cases e2 : g d env with
        | none => rfl
        | some en =>
          simp only [e2] at h ⊢
          cases e3 : ft ⟨en, st⟩ with
          | stuck => rfl
          | exc c s => rfl
          | ok p =>
            obtain ⟨b, st1⟩ := p
            cases b with
            | false => simp only [e3] at h ⊢; exact ih _ _ h
            | true =>
              simp only [e3] at h ⊢
              cases e4 : fe ⟨en, st1⟩ with
              | stuck => rfl
              | exc c s => rfl
              | ok q =>
                obtain ⟨y, st2⟩ := q
                simp only [e4] at h ⊢
                cases e5 : st2[n]? with
                | none => rfl
                | some o =>
                  cases o with
                  | lst ds =>
                    simp only [e5] at h ⊢
                    by_cases hl : ds.length < 16777216
                    · rw [if_pos hl] at h ⊢
                      rw [if_pos hl]
                      exact ih _ _ h
                    · rw [if_neg hl, if_neg hl]
                  | _ => rfl
theorem comp2N_up (iv : IVal) (g : GS) (ft : EvT) (fi1 : EvI) (vs1 : List Nat) (g1 : GS) (ft1 : EvT) (fe : EvD) (env : List (Option SV)) : ∀ (m i : Nat) (st : Sto) (acc : List PyData), comp2N iv g ft fi1 vs1 g1 ft1 fe env m i st acc ≠ .stuck →
    comp2N iv g ft fi1 vs1 g1 ft1 fe env (m + 1) i st acc = comp2N iv g ft fi1 vs1 g1 ft1 fe env m i st acc
  | 0, i, st, acc, h => absurd rfl h
  | m + 1, i, st, acc, h => by
    have ih := comp2N_up iv g ft fi1 vs1 g1 ft1 fe env m
    rw [comp2N, comp2N]
    rw [comp2N] at h
    cases e1 : iv i st with
    | none => rfl
    | some o =>
      cases o with
      | none => rfl
      | some d =>
        simp only [e1] at h ⊢
        cases e2 : g d env with
        | none => rfl
        | some en =>
          simp only [e2] at h ⊢
          cases e3 : ft ⟨en, st⟩ with
          | stuck => rfl
          | exc c s => rfl
          | ok p =>
            obtain ⟨b, st1⟩ := p
            cases b with
            | false => simp only [e3] at h ⊢; exact ih _ _ _ h
            | true =>
              simp only [e3] at h ⊢
              cases e4 : fi1 ⟨en, st1 ++ [.lst acc]⟩ with
              | stuck => rfl
              | exc c s => rfl
              | ok q =>
                obtain ⟨iv1, st2⟩ := q
                simp only [e4] at h ⊢
                have hin : inN iv1 g1 ft1 fe (wipeL en vs1) st.length m 0 st2 ≠ .stuck := fun z => by rw [z] at h; exact h rfl
                rw [inN_up _ _ _ _ _ _ _ _ _ hin]
                cases e5 : inN iv1 g1 ft1 fe (wipeL en vs1) st.length m 0 st2 with
                | stuck => rfl
                | exc c s => rfl
                | ok st3 =>
                  simp only [e5] at h ⊢
                  cases e6 : st3[st.length]? with
                  | none => rfl
                  | some o =>
                    cases o with
                    | lst ds => simp only [e6] at h ⊢; exact ih _ _ _ h
                    | _ => rfl
theorem inN_run {α : Type} {iv : IVal} {g : GS} {ft : EvT} {fe : EvD} {env : List (Option SV)} (ys : List α) (fy : α → PyData) (e2 : α → List (Option SV)) (p : α → Bool) (h : α → PyData) (hi : Items iv (ys.map fy))
    (H : ∀ y ∈ ys, g (fy y) env = some (e2 y) ∧ ∀ acc, ft ⟨e2 y, st ++ [.lst acc]⟩ = .ok (p y, st ++ [.lst acc]) ∧ fe ⟨e2 y, st ++ [.lst acc]⟩ = .ok (h y, st ++ [.lst acc])) :
    ∀ (r m i : Nat) (acc : List PyData), i + r = ys.length → r < m → acc.length + r ≤ 16777216 → inN iv g ft fe env st.length m i (st ++ [.lst acc]) = .ok (st ++ [.lst (acc ++ ((ys.drop i).filter p).map h)])
  | 0, m + 1, i, acc, hr, _, _ => by
    rw [inN, hi, List.getElem?_eq_none (by rw [List.length_map]; omega), List.drop_eq_nil_of_le (by omega)]
    simp
  | r + 1, m + 1, i, acc, hr, hm, hl => by
    have hlt : i < ys.length := by omega
    rw [inN, hi, List.getElem?_map, List.getElem?_eq_getElem hlt, List.drop_eq_getElem_cons hlt]
    obtain ⟨h1, h2⟩ := H ys[i] (List.getElem_mem hlt)
    obtain ⟨h3, h4⟩ := h2 acc
    simp only [Option.map_some, h1, h3]
    cases hp : p ys[i] with
    | false =>
      simp only [hp]
      rw [inN_run ys fy e2 p h hi H r m (i + 1) acc (by omega) (by omega) (by omega), List.filter_cons_of_neg (by rw [hp]; exact Bool.false_ne_true)]
    | true =>
      simp only [hp, h4]
      rw [List.getElem?_append_right (Nat.le_refl _), Nat.sub_self]
      simp only [List.getElem?_cons_zero]
      rw [if_pos (by omega), List.set_append_right _ _ (Nat.le_refl _), Nat.sub_self, List.set_cons_zero, inN_run ys fy e2 p h hi H r m (i + 1) (acc ++ [h ys[i]]) (by omega) (by omega) (by simp; omega), List.filter_cons_of_pos hp, List.map_cons, List.append_assoc]
      rfl
theorem c2_pure {α β : Type} {fi fi1 : EvI} {vs vs1 : List Nat} {gt gt1 : GS} {ft ft1 : EvT} {fe : EvD} (xs : List α) (fx : α → PyData) (e0 : List (Option SV)) (e1 : α → List (Option SV)) (ys : α → List β) (fy : β → PyData) (e10 : α → List (Option SV)) (e2 : α → β → List (Option SV)) (p : α → β → Bool) (h : α → β → PyData)
    (hwp : wipeL env vs = e0) (hw : Walks fi ⟨env, st⟩ (xs.map fx) st1) (hn : (xs.flatMap ys).length ≤ 16777216)
    (H : ∀ x ∈ xs, gt (fx x) e0 = some (e1 x) ∧ ft ⟨e1 x, st1⟩ = .ok (true, st1) ∧ (∀ acc, Walks fi1 ⟨e1 x, st1 ++ [.lst acc]⟩ ((ys x).map fy) (st1 ++ [.lst acc])) ∧ wipeL (e1 x) vs1 = e10 x ∧
      ∀ y ∈ ys x, gt1 (fy y) (e10 x) = some (e2 x y) ∧ ∀ acc, ft1 ⟨e2 x y, st1 ++ [.lst acc]⟩ = .ok (p x y, st1 ++ [.lst acc]) ∧ fe ⟨e2 x y, st1 ++ [.lst acc]⟩ = .ok (h x y, st1 ++ [.lst acc])) :
    comp2C fi vs gt ft fi1 vs1 gt1 ft1 fe ⟨env, st⟩ = .ok (xs.flatMap fun x => ((ys x).filter (p x)).map (h x), st1) := by
  subst hwp
  obtain ⟨iv, q1, q2⟩ := hw
  have hlim : ∀ (f : Nat → RC) (m : Nat) (r : RC), (∀ m, f m ≠ .stuck → f (m + 1) = f m) → f m = r → r ≠ .stuck → lim f = r := fun f m r h1 h2 h3 => lim_eq h1 h2 h3
  unfold comp2C
  rw [q1]
  show lim (fun m => comp2N iv gt ft fi1 vs1 gt1 ft1 fe (wipeL env vs) m 0 st1 []) = _
  have key : ∀ (r i : Nat) (acc : List PyData), i + r = xs.length → acc.length + ((xs.drop i).flatMap ys).length ≤ 16777216 → ∃ m, comp2N iv gt ft fi1 vs1 gt1 ft1 fe (wipeL env vs) m i st1 acc = .ok (acc ++ (xs.drop i).flatMap fun x => ((ys x).filter (p x)).map (h x), st1) := by
    intro r
    induction r with
    | zero =>
      intro i acc hr _
      refine ⟨1, ?_⟩
      rw [comp2N, q2, List.getElem?_eq_none (by rw [List.length_map]; omega), List.drop_eq_nil_of_le (by omega)]
      simp
    | succ r ih =>
      intro i acc hr hl
      have hlt : i < xs.length := by omega
      rw [List.drop_eq_getElem_cons hlt, List.flatMap_cons, List.length_append] at hl
      obtain ⟨h1, h2, h3, hwp1, h4⟩ := H xs[i] (List.getElem_mem hlt)
      obtain ⟨iv1, r1, r2⟩ := h3 acc
      have hfl : (((ys xs[i]).filter (p xs[i])).map (h xs[i])).length ≤ (ys xs[i]).length := by rw [List.length_map]; exact List.length_filter_le _ _
      obtain ⟨m, hm⟩ := ih (i + 1) (acc ++ ((ys xs[i]).filter (p xs[i])).map (h xs[i])) (by omega) (by rw [List.length_append]; omega)
      have hin := inN_run (st := st1) (iv := iv1) (g := gt1) (ft := ft1) (fe := fe) (env := e10 xs[i]) (ys xs[i]) fy (e2 xs[i]) (p xs[i]) (h xs[i]) r2 h4 (ys xs[i]).length
      have up : ∀ k, comp2N iv gt ft fi1 vs1 gt1 ft1 fe (wipeL env vs) (m + k) (i + 1) st1 (acc ++ ((ys xs[i]).filter (p xs[i])).map (h xs[i])) = comp2N iv gt ft fi1 vs1 gt1 ft1 fe (wipeL env vs) m (i + 1) st1 (acc ++ ((ys xs[i]).filter (p xs[i])).map (h xs[i])) := by
        intro k
        induction k with
        | zero => rfl
        | succ k ihk =>
          rw [← Nat.add_assoc, comp2N_up, ihk]
          rw [ihk, hm]
          intro z; cases z
      refine ⟨m + (ys xs[i]).length + 1 + 1, ?_⟩
      rw [comp2N, q2, List.getElem?_map, List.getElem?_eq_getElem hlt]
      simp only [Option.map_some, h1, h2, r1, hwp1]
      rw [hin (m + (ys xs[i]).length + 1) 0 acc (by omega) (by omega) (by omega)]
      simp only [List.drop_zero]
      rw [List.getElem?_append_right (Nat.le_refl _), Nat.sub_self]
      simp only [List.getElem?_cons_zero]
      rw [List.take_append_of_le_length (Nat.le_refl _), List.take_length, Nat.add_assoc m, up, hm, List.drop_eq_getElem_cons hlt, List.flatMap_cons, List.append_assoc]
  obtain ⟨m, hm⟩ := key xs.length 0 [] (by omega) (by simpa using hn)
  rw [List.drop_zero, List.nil_append] at hm
  exact hlim _ m _ (fun m hs => comp2N_up iv gt ft fi1 vs1 gt1 ft1 fe (wipeL env vs) m 0 st1 [] hs) hm (by intro z; cases z)
/-! ### extend, ranges, sorted by key, sorted the other way round -/
theorem e_ext {fc : EvC} {ds ds0 es : List PyData} (h1 : env[i]? = some (some (.obj j))) (h2 : st[j]? = some (.lst ds0)) (hf : fc ⟨env, st⟩ = .ok (es, st1)) (h3 : st1[j]? = some (.lst ds)) (hl : ds.length + es.length ≤ 16777216) (h4 : st1.set j (.lst (ds ++ es)) = st2) :
    extE i fc ⟨env, st⟩ = .ok (.none, st2) := by
  subst h4
  unfold extE objAt
  simp only [h1, h2, hf, h3]
  rw [if_pos hl]
theorem rangeSize_up (n w : Nat) (hw : 1 ≤ w) : (Builtin.Range.rangeSize 0 (n : Int) (w : Int)).toNat = if 0 < n then (n - 1) / w + 1 else 0 := by
  unfold Builtin.Range.rangeSize
  rw [if_pos (by omega)]
  by_cases h : 0 < n
  · rw [if_pos (by omega), if_pos h]
    have e : ((n : Int) - 0 - 1) / (w : Int) = (((n - 1) / w : Nat) : Int) := by
      have : ((n : Int) - 0 - 1) = ((n - 1 : Nat) : Int) := by omega
      rw [this, Int.natCast_ediv]
    rw [e]
    generalize (n - 1) / w = q
    omega
  · rw [if_neg (by omega), if_neg h]; rfl
theorem w_rangeS {n w : Nat} {fa fb fd : EvD} (h0 : fa ⟨env, st⟩ = .ok (.int 0, st1)) (h : fb ⟨env, st1⟩ = .ok (.int (n : Int), st2)) (h2 : fd ⟨env, st2⟩ = .ok (.int (w : Int), st3)) (hw : 1 ≤ w) (hw2 : w ≤ 1000000) (hn : n ≤ 1000000) :
    Walks (rangeSI fa fb fd) ⟨env, st⟩ ((List.range (if 0 < n then (n - 1) / w + 1 else 0)).map fun i => PyData.int ((i * w : Nat) : Int)) st3 := by
  have hsz := rangeSize_up n w hw
  refine ⟨rangeCIV 0 (w : Int) (if 0 < n then (n - 1) / w + 1 else 0), ?_, fun i s => ?_⟩
  · unfold rangeSI
    rw [h0]
    simp only [Res.bind_ok, h, h2]
    have hle : (if 0 < n then (n - 1) / w + 1 else 0) ≤ 1000001 := by
      split
      · have := Nat.div_le_self (n - 1) w; omega
      · omega
    have hrg : RgC 0 (n : Int) (w : Int) (Builtin.Range.rangeSize 0 (n : Int) (w : Int)).toNat := by
      have hnn : 0 ≤ Builtin.Range.rangeSize 0 (n : Int) (w : Int) := by
        unfold Builtin.Range.rangeSize
        rw [if_pos (by omega)]
        split
        · exact Int.le_trans (Int.ediv_nonneg (by omega) (by omega)) (Int.le_add_of_nonneg_right (by decide))
        · omega
      have hdn : ∀ x : Int, 0 ≤ x → x ≤ 1000001 → (decide (-(2 ^ 63) ≤ x) && decide (x < 2 ^ 63)) = true := fun x h1 h2 => by
        rw [decide_eq_true (by omega), decide_eq_true (by omega)]; rfl
      have hrs : Builtin.Range.rangeSize 0 (n : Int) (w : Int) ≤ 1000001 := by omega
      have fit : ∀ x : Int, 0 ≤ x → x ≤ 10000000 → Builtin.Range.rangeFitsLong x = true := fun x h1 h2 => by
        unfold Builtin.Range.rangeFitsLong
        rw [decide_eq_true (by omega), decide_eq_true (by omega)]; rfl
      refine ⟨by omega, by omega, ?_, by omega⟩
      unfold Builtin.Range.small
      rw [fit 0 (by omega) (by omega), fit n (by omega) (by omega), fit w (by omega) (by omega), fit _ hnn (by omega), if_pos (by omega), fit _ (by omega) (by omega)]
      simp
    rw [if_pos hrg, hsz]
  · unfold rangeCIV
    rw [List.getElem?_map]
    by_cases hi : i < (if 0 < n then (n - 1) / w + 1 else 0)
    · rw [if_pos hi, List.getElem?_range hi]
      simp
    · rw [if_neg hi, List.getElem?_eq_none (by rw [List.length_range]; omega)]
      rfl
/-! ### sorted by key, sorted the other way round -/
theorem e_sortK {α β : Type} {ix : Nat} {fb : EvD} (eK : Enc β) (hd : eK.dep ≤ 40) (xs : List α) (fx : α → PyData) (k : α → β) {dx : PyData} (hx : itemsD dx = some (xs.map fx)) (h1 : fa ⟨env, st⟩ = .ok (dx, st1)) (hk : ∀ x ∈ xs, fb ⟨(wipeL env [ix]).set ix (some (.pure (fx x))), st1⟩ = .ok (eK.f (k x), st1))
    (hs : Sortable ((xs.map k).map eK.f)) : sortKE fa ix fb ⟨env, st⟩ = .ok (.list ((xs.mergeSort fun a b => !eK.lt (k b) (k a)).map fx), st1) := by
  unfold sortKE
  rw [h1]
  simp only [Res.bind_ok, hx, keysOf_map fx (fun x => eK.f (k x)) xs hk]
  have em : (xs.map fun x => eK.f (k x)) = (xs.map k).map eK.f := by rw [List.map_map]; rfl
  have hal : AllAlike ((xs.map k).map eK.f) := fun a ha b hb => by
    obtain ⟨x, _, rfl⟩ := List.mem_map.mp ha
    obtain ⟨y, _, rfl⟩ := List.mem_map.mp hb
    exact eK.alk x y
  rw [em, if_pos ⟨hal, hs, Nat.le_trans (eK.depAll _) hd⟩]
  congr 3
  unfold sortKD
  have ez : (xs.map fx).zip ((xs.map k).map eK.f) = xs.map fun x => (fx x, eK.f (k x)) := by
    rw [← em, List.zip_map']
  rw [ez, ← sort_maps (l := xs) (r := fun a b => !eK.lt (k b) (k a)) (s := dataLe false fun p : PyData × PyData => p.2) (fun x => (fx x, eK.f (k x))) (fun a _ b _ => by rw [dataLe_eq]; rfl), List.map_map]
  rfl
theorem sortedRT {β : Type} (e : Enc β) (h : e.dep ≤ 40) {xs : List β} (hs : Sortable (xs.map e.f)) : sortedRDD (.tuple (xs.map e.f)) = some (.list ((xs.mergeSort fun a b => !e.lt a b).map e.f)) := by
  have hal : AllAlike (xs.map e.f) := fun a ha b hb => by
    obtain ⟨x, _, rfl⟩ := List.mem_map.mp ha
    obtain ⟨y, _, rfl⟩ := List.mem_map.mp hb
    exact e.alk x y
  unfold sortedRDD
  simp only
  rw [if_pos ⟨hal, hs, Nat.le_trans (e.depAll _) h⟩]
  congr 2
  unfold sortRD
  rw [← sort_maps (l := xs) (r := fun a b => !e.lt a b) (s := dataLe true fun d => d) e.f (fun a _ b _ => by rw [dataLe_eq]; rfl)]
end
end DL
end
section
set_option Elab.async false
set_option linter.all false
set_option maxRecDepth 100000
set_option maxHeartbeats 4000000
/-! printed by gen.py: what the defs of the text do, and that they do it. -/
namespace Lk70
open PySem PySem.Spec PyProof.Rows L2 DL
def top (i : Nat) : Stmt := PySem.Challenge.pw_plantkept_k70_whole_ovens.main.body.getD i (.Pass ⟨0, 0, 0, 0⟩)
abbrev k_EVERY : PyData := (.int 60)
abbrev k_MOST_PIECES : PyData := (.int 7)
abbrev k_MOST_TIME : PyData := (.int 50)
/-- what stands at the head of the text -/
structure Facts (w : World) (K : PySem.W.Frag) (mg : Str → Option Value) (base : Heap) (c : Cfg) : Prop where
  hsh : c.hs = DK.hashD w
  b_abs : mg "abs" = none
  b_all : mg "all" = none
  b_bool : mg "bool" = none
  b_int : mg "int" = none
  b_isinstance : mg "isinstance" = none
  b_len : mg "len" = none
  b_list : mg "list" = none
  b_max : mg "max" = none
  b_min : mg "min" = none
  b_range : mg "range" = none
  b_reversed : mg "reversed" = none
  b_sorted : mg "sorted" = none
  b_str : mg "str" = none
  b_sum : mg "sum" = none
  b_tuple : mg "tuple" = none
  c_EVERY : Con K mg "EVERY" k_EVERY
  c_MOST_PIECES : Con K mg "MOST_PIECES" k_MOST_PIECES
  c_MOST_TIME : Con K mg "MOST_TIME" k_MOST_TIME
  d_is_number : Def K mg "is_number" (top 1) ["value", "least", "most"]
  d_are_pieces : DefG K mg base c "are_pieces" (top 6) ["value"]
  d_are_loads : DefG K mg base c "are_loads" (top 7) ["pieces", "width", "value"]
  d_time_of : Def K mg "time_of" (top 8) ["pieces", "load"]
  d_load_span : Def K mg "load_span" (top 9) ["pieces", "loads"]
  d_load_sum : Def K mg "load_sum" (top 10) ["pieces", "loads"]
  d_least_span : Def K mg "least_span" (top 11) ["pieces", "width"]
  d_loads_with : Def K mg "loads_with" (top 13) ["first", "others", "width"]
  d_partings : Def K mg "partings" (top 12) ["left", "width"]
  d_best_loads : DefG K mg base c "best_loads" (top 14) ["pieces", "width"]
  d_least_sum : Def K mg "least_sum" (top 15) ["pieces", "width"]
  d__law_draws : Def K mg "_law_draws" (top 17) ["script"]
  d__law_take : Def K mg "_law_take" (top 18) ["draws", "bound"]
  d__law_alike : Def K mg "_law_alike" (top 19) ["found", "due"]
  d__law_sets : Def K mg "_law_sets" (top 21) ["items"]
  d__law_loads : Def K mg "_law_loads" (top 20) ["left", "width"]
  d__law_both : Def K mg "_law_both" (top 22) ["pieces", "loads"]
  d_law : Def K mg "law" (top 23) ["script"]
theorem Facts.add {w : World} {K : PySem.W.Frag} {mg : Str → Option Value} {base : Heap} {c : Cfg} {cp : Addr × Addr} (G : Facts w K mg base c) : Facts w K mg base (c.add cp) :=
  ⟨G.hsh, G.b_abs, G.b_all, G.b_bool, G.b_int, G.b_isinstance, G.b_len, G.b_list, G.b_max, G.b_min, G.b_range, G.b_reversed, G.b_sorted, G.b_str, G.b_sum, G.b_tuple, G.c_EVERY, G.c_MOST_PIECES, G.c_MOST_TIME, G.d_is_number, ⟨G.d_are_pieces.ex⟩, ⟨G.d_are_loads.ex⟩, G.d_time_of, G.d_load_span, G.d_load_sum, G.d_least_span, G.d_loads_with, G.d_partings, ⟨G.d_best_loads.ex⟩, G.d_least_sum, G.d__law_draws, G.d__law_take, G.d__law_alike, G.d__law_sets, G.d__law_loads, G.d__law_both, G.d_law⟩
section
variable {P : Program} {w : World} {K : PySem.W.Frag} {mg : Str → Option Value} {base : Heap} {c : Cfg}
abbrev s_is_number : Stmt := top 1
abbrev n_is_number : List Str := ["value", "least", "most"]
abbrev ps_is_number : List Str := ["value", "least", "most"]
theorem sc_is_number : FnScope n_is_number ps_is_number (defScope s_is_number) := ⟨rfl, rfl, rfl, by decide +kernel, rfl, by decide +kernel, by decide +kernel⟩
noncomputable def b_is_number : EvS :=
  (retS (pureV (andE (isiE .int (slotE 0)) (andE (notE (isiE .bool (slotE 0))) (chain2 leD leD (slotE 1) (slotE 0) (slotE 2))))))
noncomputable def F_is_number : FSem := runF n_is_number.length b_is_number
theorem w_is_number (G : Facts w K mg base c) : Cal P w K mg base 1 "is_number" (spD K c ps_is_number.length F_is_number) :=
  cal_of (k := 0) (body := b_is_number) G.d_is_number sc_is_number fun f cdv A outer s H E hr => (dss_one (ds_ret (dv_de (de_and (i_int rfl G.b_isinstance rfl G.b_int (de_var (i := 0) rfl (vis_by rfl) rfl rfl) rfl) (de_and (de_not (i_bool rfl G.b_isinstance rfl G.b_bool (de_var (i := 0) rfl (vis_by rfl) rfl rfl) rfl)) (de_one (de_chain (od_le (Room.units hr)) (od_le (Room.units hr)) rfl (de_var (i := 1) rfl (vis_by rfl) rfl rfl) (de_var (i := 0) rfl (vis_by rfl) rfl rfl) (de_var (i := 2) rfl (vis_by rfl) rfl rfl))))))))
abbrev s_are_pieces : Stmt := top 6
abbrev n_are_pieces : List Str := ["value", "one"]
abbrev ps_are_pieces : List Str := ["value"]
theorem sc_are_pieces : FnScope n_are_pieces ps_are_pieces (defScope s_are_pieces) := ⟨rfl, rfl, rfl, by decide +kernel, rfl, by decide +kernel, by decide +kernel⟩
noncomputable def b_are_pieces : EvS :=
  (seqS (ifS (orT (notT (valT (isiE .tuple (slotE 0)))) (notT (valT (chain2 leD leD (constE (.int 1)) (un1 lenD (slotE 0)) (constE k_MOST_PIECES))))) (retS (pureV (constE (.bool false)))) nilS) 
    (retS (pureV (quantE false (seqI (froR (slotE 0))) [1] (nameG 1) yesT (callE 3 F_is_number (consSlotA 1 (consA (constE (.int 1)) (consA (constE k_MOST_TIME) nilA))))))))
noncomputable def F_are_pieces : FSem := runF n_are_pieces.length b_are_pieces
theorem w_are_pieces (G : Facts w K mg base c) : Cal P w K mg base 5 "are_pieces" (spD K c ps_are_pieces.length F_are_pieces) :=
  cal_ofG (k := 4) (body := b_are_pieces) G.d_are_pieces sc_are_pieces fun f cc P' A outer s H E tb hP hr => (dss_cons (ds_if (DW.dt (dw_or (dt_not (dt_val (i_tuple rfl G.b_isinstance rfl G.b_tuple (de_var (i := 0) rfl (vis_by rfl) rfl rfl) rfl) (fun _ => rfl))) (dw_or1 (dt_not (dt_chain (od_le (Room.units hr)) (od_le (Room.units hr)) rfl de_int (e_len rfl G.b_len (de_var (i := 0) rfl (vis_by rfl) rfl rfl) rfl) (de_con G.c_MOST_PIECES rfl rfl)))))) (dss_one (ds_ret (dv_de de_bool))) dss_nil) (dss_one (ds_ret (dv_de (de_all [("one", 1)] (.inl ⟨tb.code, hP⟩) rfl sc_are_pieces.nd (k := 1) hr rfl G.b_all bb_all tb.bm rfl (genOk_by (by kernel_rfl)) (di_seq (dr_fro (de_var (i := 0) rfl (vis_by rfl) rfl rfl))) (fun _ _ _ _ _ _ _ => (dg_name (i := 1) sc_are_pieces.nd rfl (loc_by rfl) (hf_by rfl))) (fun _ _ _ _ _ _ _ => dts_nil) (fun _ _ _ _ _ _ _ => (de_fn (w_is_number (Facts.add G)) (room3 (k := 1) hr _) (by decide) rfl takesW0 (da_slot (i := 1) rfl (vis_by rfl) rfl rfl (da_cons de_int (da_cons (de_con G.c_MOST_TIME rfl rfl) da_nil rfl) rfl) rfl) rfl rfl rfl)) (by decide) (fun _ => rfl) rfl)))))
abbrev s_are_loads : Stmt := top 7
abbrev n_are_loads : List Str := ["pieces", "width", "value", "load", "one", "at"]
abbrev ps_are_loads : List Str := ["pieces", "width", "value"]
theorem sc_are_loads : FnScope n_are_loads ps_are_loads (defScope s_are_loads) := ⟨rfl, rfl, rfl, by decide +kernel, rfl, by decide +kernel, by decide +kernel⟩
noncomputable def b_are_loads : EvS :=
  (seqS (ifS (notT (valT (isiE .tuple (slotE 2)))) (retS (pureV (constE (.bool false)))) nilS) 
    (seqS (forS (seqI (froR (slotE 2))) (nameG 3) (seqS (ifS (orT (notT (valT (isiE .tuple (slotE 3)))) (notT (valT (chain2 leD leD (constE (.int 1)) (un1 lenD (slotE 3)) (slotE 1))))) (retS (pureV (constE (.bool false)))) nilS) 
    (seqS (ifS (notT (valT (quantE false (seqI (froR (slotE 3))) [4] (nameG 4) yesT (callE 3 F_is_number (consSlotA 4 (consA (constE (.int 0)) (consA (bin2 subD (un1 lenD (slotE 0)) (constE (.int 1))) nilA))))))) (retS (pureV (constE (.bool false)))) nilS) 
    (ifS (notT (valT (quantE false (range2I (constE (.int 1)) (un1 lenD (slotE 3))) [5] (nameG 5) yesT (bin2 ltD (bin2 itemD (slotE 3) (bin2 subD (slotE 5) (constE (.int 1)))) (bin2 itemD (slotE 3) (slotE 5)))))) (retS (pureV (constE (.bool false)))) nilS))) [3]) 
    (retS (pureV (bin2 eqD (un1 sortedDD (lstOf (comp2C (seqI (froR (slotE 2))) [3, 4] (nameG 3) yesT (seqI (froR (slotE 3))) [4] (nameG 4) yesT (slotE 4)))) (rg1E .list (un1 lenD (slotE 0))))))))
noncomputable def F_are_loads : FSem := runF n_are_loads.length b_are_loads
theorem w_are_loads (G : Facts w K mg base c) : Cal P w K mg base 5 "are_loads" (spD K c ps_are_loads.length F_are_loads) :=
  cal_ofG (k := 4) (body := b_are_loads) G.d_are_loads sc_are_loads fun f cc P' A outer s H E tb hP hr => (dss_cons (ds_if (dt_not (dt_val (i_tuple rfl G.b_isinstance rfl G.b_tuple (de_var (i := 2) rfl (vis_by rfl) rfl rfl) rfl) (fun _ => rfl))) (dss_one (ds_ret (dv_de de_bool))) dss_nil) (dss_cons (ds_for [3] passesB rfl (di_seq (dr_fro (de_var (i := 2) rfl (vis_by rfl) rfl rfl))) (dg_name (i := 3) sc_are_loads.nd rfl (loc_by rfl) (.inl rfl)) (dss_cons (ds_if (DW.dt (dw_or (dt_not (dt_val (i_tuple rfl G.b_isinstance rfl G.b_tuple (de_var (i := 3) rfl (vis_by rfl) rfl rfl) rfl) (fun _ => rfl))) (dw_or1 (dt_not (dt_chain (od_le (Room.units hr)) (od_le (Room.units hr)) rfl de_int (e_len rfl G.b_len (de_var (i := 3) rfl (vis_by rfl) rfl rfl) rfl) (de_var (i := 1) rfl (vis_by rfl) rfl rfl)))))) (dss_one (ds_ret (dv_de de_bool))) dss_nil) (dss_cons (ds_if (dt_not (dt_val (de_all [("one", 4)] (.inl ⟨tb.code, hP⟩) rfl sc_are_loads.nd (k := 1) hr rfl G.b_all bb_all tb.bm rfl (genOk_by (by kernel_rfl)) (di_seq (dr_fro (de_var (i := 3) rfl (vis_by rfl) rfl rfl))) (fun _ _ _ _ _ _ _ => (dg_name (i := 4) sc_are_loads.nd rfl (loc_by rfl) (hf_by rfl))) (fun _ _ _ _ _ _ _ => dts_nil) (fun _ _ _ _ _ _ _ => (de_fn (w_is_number (Facts.add G)) (room3 (k := 1) hr _) (by decide) rfl takesW0 (da_slot (i := 4) rfl (vis_by rfl) rfl rfl (da_cons de_int (da_cons (de_bin od_sub (e_len rfl G.b_len (de_var (i := 0) rfl (vis_by rfl) rfl rfl) rfl) de_int) da_nil rfl) rfl) rfl) rfl rfl rfl)) (by decide) (fun _ => rfl) rfl) (fun _ => rfl))) (dss_one (ds_ret (dv_de de_bool))) dss_nil) (dss_one (ds_if (dt_not (dt_val (de_all [("at", 5)] (.inl ⟨tb.code, hP⟩) rfl sc_are_loads.nd (k := 1) hr rfl G.b_all bb_all tb.bm rfl (genOk_by (by kernel_rfl)) (di_range2 rfl G.b_range de_int (e_len rfl G.b_len (de_var (i := 3) rfl (vis_by rfl) rfl rfl) rfl) rfl rfl) (fun _ _ _ _ _ _ _ => (dg_name (i := 5) sc_are_loads.nd rfl (loc_by rfl) (hf_by rfl))) (fun _ _ _ _ _ _ _ => dts_nil) (fun _ _ _ _ _ _ _ => (de_cmp (od_lt (Room.units (room3 (k := 1) hr _))) rfl (de_item (de_var (i := 3) rfl (vis_by rfl) rfl rfl) (de_bin od_sub (de_var (i := 5) rfl (vis_by rfl) rfl rfl) de_int) no_tr (fun _ _ => rfl)) (de_item (de_var (i := 3) rfl (vis_by rfl) rfl rfl) (de_var (i := 5) rfl (vis_by rfl) rfl rfl) no_tr (fun _ _ => rfl)) no_tr)) (by decide) (fun _ => rfl) rfl) (fun _ => rfl))) (dss_one (ds_ret (dv_de de_bool))) dss_nil)))) (fun _ => rfl)) (dss_one (ds_ret (dv_de (de_cmp (od_eq (Room.units hr)) rfl (e_sorted (Room.units hr) rfl G.b_sorted (de_c (dc_lc2 [("load", 3), ("one", 4)] [4] rfl sc_are_loads.nd (di_seq (dr_fro (de_var (i := 2) rfl (vis_by rfl) rfl rfl))) (blkOk_by (by kernel_rfl)) (by decide) (fun _ _ _ _ _ => (dg_name (i := 3) sc_are_loads.nd rfl (loc_by rfl) (hf_by rfl))) (fun _ _ _ _ _ => dts_nil) (fun _ _ _ _ _ => (di_seq (dr_fro (de_var (i := 3) rfl (vis_by rfl) rfl rfl)))) (fun _ _ _ _ _ => (dg_name (i := 4) sc_are_loads.nd rfl (loc_by rfl) (hf_by rfl))) (fun _ _ _ _ _ => dts_nil) (fun _ _ _ _ _ => (de_var (i := 4) rfl (vis_by rfl) rfl rfl)) (by decide) (by decide) (fun _ => rfl) (fun _ _ => rfl))) rfl) (de_listRg1 rfl rfl G.b_list rfl G.b_range (e_len rfl G.b_len (de_var (i := 0) rfl (vis_by rfl) rfl rfl) rfl) rfl rfl) no_tr))))))
abbrev s_time_of : Stmt := top 8
abbrev n_time_of : List Str := ["pieces", "load", "one"]
abbrev ps_time_of : List Str := ["pieces", "load"]
theorem sc_time_of : FnScope n_time_of ps_time_of (defScope s_time_of) := ⟨rfl, rfl, rfl, by decide +kernel, rfl, by decide +kernel, by decide +kernel⟩
noncomputable def b_time_of : EvS :=
  (retS (pureV (un1 maxDD (lstOf (compC (seqI (froR (slotE 1))) [2] (nameG 2) yesT (bin2 itemD (slotE 0) (slotE 2)))))))
noncomputable def F_time_of : FSem := runF n_time_of.length b_time_of
theorem w_time_of (G : Facts w K mg base c) : Cal P w K mg base 1 "time_of" (spD K c ps_time_of.length F_time_of) :=
  cal_of (k := 0) (body := b_time_of) G.d_time_of sc_time_of fun f cdv A outer s H E hr => (dss_one (ds_ret (dv_de (e_max rfl (Room.units hr) rfl G.b_max (de_c (dc_lc [("one", 2)] rfl sc_time_of.nd (di_seq (dr_fro (de_var (i := 1) rfl (vis_by rfl) rfl rfl))) (blkOk_by (by kernel_rfl)) (fun _ _ _ _ _ => (dg_name (i := 2) sc_time_of.nd rfl (loc_by rfl) (hf_by rfl))) (fun _ _ _ _ _ => dts_nil) (fun _ _ _ _ _ => (de_item (de_var (i := 0) rfl (vis_by rfl) rfl rfl) (de_var (i := 2) rfl (vis_by rfl) rfl rfl) no_tr (fun _ _ => rfl))) (by decide) (fun _ => rfl))) rfl))))
abbrev s_load_span : Stmt := top 9
abbrev n_load_span : List Str := ["pieces", "loads", "load"]
abbrev ps_load_span : List Str := ["pieces", "loads"]
theorem sc_load_span : FnScope n_load_span ps_load_span (defScope s_load_span) := ⟨rfl, rfl, rfl, by decide +kernel, rfl, by decide +kernel, by decide +kernel⟩
noncomputable def b_load_span : EvS :=
  (retS (pureV (un1 sumD (lstOf (compC (seqI (froR (slotE 1))) [2] (nameG 2) yesT (callE 2 F_time_of (consSlotA 0 (consSlotA 2 nilA))))))))
noncomputable def F_load_span : FSem := runF n_load_span.length b_load_span
theorem w_load_span (G : Facts w K mg base c) : Cal P w K mg base 2 "load_span" (spD K c ps_load_span.length F_load_span) :=
  cal_of (k := 1) (body := b_load_span) G.d_load_span sc_load_span fun f cdv A outer s H E hr => (dss_one (ds_ret (dv_de (e_sum rfl rfl G.b_sum (de_c (dc_lc [("load", 2)] rfl sc_load_span.nd (di_seq (dr_fro (de_var (i := 1) rfl (vis_by rfl) rfl rfl))) (blkOk_by (by kernel_rfl)) (fun _ _ _ _ _ => (dg_name (i := 2) sc_load_span.nd rfl (loc_by rfl) (hf_by rfl))) (fun _ _ _ _ _ => dts_nil) (fun _ _ _ _ _ => (de_fn (w_time_of G) hr (by decide) rfl takesW0 (da_slot (i := 0) rfl (vis_by rfl) rfl rfl (da_slot (i := 2) rfl (vis_by rfl) rfl rfl da_nil rfl) rfl) rfl rfl rfl)) (by decide) (fun _ => rfl))) rfl))))
abbrev s_load_sum : Stmt := top 10
abbrev n_load_sum : List Str := ["pieces", "loads", "found", "end", "load"]
abbrev ps_load_sum : List Str := ["pieces", "loads"]
theorem sc_load_sum : FnScope n_load_sum ps_load_sum (defScope s_load_sum) := ⟨rfl, rfl, rfl, by decide +kernel, rfl, by decide +kernel, by decide +kernel⟩
noncomputable def b_load_sum : EvS :=
  (seqS (asgS (tupE (consA (constE (.int 0)) (consA (constE (.int 0)) nilA))) (tupG 2 (consG (nameG 2) (consG (nameG 3) nilG)))) 
    (seqS (forS (seqI (froR (slotE 1))) (nameG 4) (seqS (augS 3 iaddD (callE 2 F_time_of (consSlotA 0 (consSlotA 4 nilA)))) 
    (augS 2 iaddD (bin2 mulD (slotE 3) (un1 lenD (slotE 4))))) [4]) 
    (retS (slotV 2))))
noncomputable def F_load_sum : FSem := runF n_load_sum.length b_load_sum
theorem w_load_sum (G : Facts w K mg base c) : Cal P w K mg base 2 "load_sum" (spD K c ps_load_sum.length F_load_sum) :=
  cal_of (k := 1) (body := b_load_sum) G.d_load_sum sc_load_sum fun f cdv A outer s H E hr => (dss_cons (ds_asg (de_tup (da_cons de_int (da_cons de_int da_nil rfl) rfl)) (dg_tup rfl (dgs_cons (dg_name (i := 2) sc_load_sum.nd rfl (loc_by rfl) (.inl rfl)) (dgs_cons (dg_name (i := 3) sc_load_sum.nd rfl (loc_by rfl) (.inl rfl)) dgs_nil rfl) rfl) rfl rfl) rfl rfl rfl) (dss_cons (ds_for [4] passesB rfl (di_seq (dr_fro (de_var (i := 1) rfl (vis_by rfl) rfl rfl))) (dg_name (i := 4) sc_load_sum.nd rfl (loc_by rfl) (.inl rfl)) (dss_cons (ds_aug (i := 3) sc_load_sum.nd rfl (loc_by rfl) (de_fn (w_time_of G) hr (by decide) rfl takesB (da_slot (i := 0) rfl (vis_by rfl) rfl rfl (da_slot (i := 4) rfl (vis_by rfl) rfl rfl da_nil rfl) rfl) rfl rfl rfl) id_add (.inl rfl)) (dss_one (ds_aug (i := 2) sc_load_sum.nd rfl (loc_by rfl) (de_bin od_mul (de_var (i := 3) rfl (vis_by rfl) rfl rfl) (e_len rfl G.b_len (de_var (i := 4) rfl (vis_by rfl) rfl rfl) rfl)) id_add (.inl rfl)))) (fun _ => rfl)) (dss_one (ds_ret (dv_slot (i := 2) rfl (vis_by rfl) rfl rfl)))))
abbrev s_least_span : Stmt := top 11
abbrev n_least_span : List Str := ["pieces", "width", "times", "at"]
abbrev ps_least_span : List Str := ["pieces", "width"]
theorem sc_least_span : FnScope n_least_span ps_least_span (defScope s_least_span) := ⟨rfl, rfl, rfl, by decide +kernel, rfl, by decide +kernel, by decide +kernel⟩
noncomputable def b_least_span : EvS :=
  (seqS (setS 2 (pureV (un1 sortedRDD (slotE 0)))) 
    (retS (pureV (un1 sumD (lstOf (compC (rangeSI (constE (.int 0)) (un1 lenD (slotE 2)) (slotE 1)) [3] (nameG 3) yesT (bin2 itemD (slotE 2) (slotE 3))))))))
noncomputable def F_least_span : FSem := runF n_least_span.length b_least_span
theorem w_least_span (G : Facts w K mg base c) : Cal P w K mg base 1 "least_span" (spD K c ps_least_span.length F_least_span) :=
  cal_of (k := 0) (body := b_least_span) G.d_least_span sc_least_span fun f cdv A outer s H E hr => (dss_cons (ds_set (i := 2) sc_least_span.nd rfl (loc_by rfl) (dv_de (e_sortR (Room.units hr) rfl G.b_sorted bb_sorted (de_var (i := 0) rfl (vis_by rfl) rfl rfl) rfl)) rfl (.inl rfl)) (dss_one (ds_ret (dv_de (e_sum rfl rfl G.b_sum (de_c (dc_lc [("at", 3)] rfl sc_least_span.nd (di_rangeS rfl G.b_range de_int (e_len rfl G.b_len (de_var (i := 2) rfl (vis_by rfl) rfl rfl) rfl) (de_var (i := 1) rfl (vis_by rfl) rfl rfl) rfl rfl rfl rfl) (blkOk_by (by kernel_rfl)) (fun _ _ _ _ _ => (dg_name (i := 3) sc_least_span.nd rfl (loc_by rfl) (hf_by rfl))) (fun _ _ _ _ _ => dts_nil) (fun _ _ _ _ _ => (de_item (de_var (i := 2) rfl (vis_by rfl) rfl rfl) (de_var (i := 3) rfl (vis_by rfl) rfl rfl) no_tr (fun _ _ => rfl))) (by decide) (fun _ => rfl))) rfl)))))
abbrev s_loads_with : Stmt := top 13
abbrev n_loads_with : List Str := ["first", "others", "width", "found", "one", "load"]
abbrev ps_loads_with : List Str := ["first", "others", "width"]
theorem sc_loads_with : FnScope n_loads_with ps_loads_with (defScope s_loads_with) := ⟨rfl, rfl, rfl, by decide +kernel, rfl, by decide +kernel, by decide +kernel⟩
noncomputable def b_loads_with : EvS :=
  (seqS (setS 3 (pureV (lstE (consA (tupE (consA (slotE 0) nilA)) nilA)))) 
    (seqS (forS (seqI (froR (slotE 1))) (nameG 4) (setS 3 (pureV (bin2 addD (slotE 3) (lstOf (compC (seqI (froR (slotE 3))) [5] (nameG 5) (cmpT ltD (un1 lenD (slotE 5)) (slotE 2)) (tupE (consStarA (slotE 5) (consA (slotE 4) nilA)))))))) [4]) 
    (retS (slotV 3))))
noncomputable def F_loads_with : FSem := runF n_loads_with.length b_loads_with
theorem w_loads_with (G : Facts w K mg base c) : Cal P w K mg base 1 "loads_with" (spD K c ps_loads_with.length F_loads_with) :=
  cal_of (k := 0) (body := b_loads_with) G.d_loads_with sc_loads_with fun f cdv A outer s H E hr => (dss_cons (ds_set (i := 3) sc_loads_with.nd rfl (loc_by rfl) (dv_de (de_lst (da_cons (de_tup (da_cons (de_var (i := 0) rfl (vis_by rfl) rfl rfl) da_nil rfl)) da_nil rfl))) rfl (.inl rfl)) (dss_cons (ds_for [4] passesB rfl (di_seq (dr_fro (de_var (i := 1) rfl (vis_by rfl) rfl rfl))) (dg_name (i := 4) sc_loads_with.nd rfl (loc_by rfl) (.inl rfl)) (dss_one (ds_set (i := 3) sc_loads_with.nd rfl (loc_by rfl) (dv_de (de_bin od_add (de_var (i := 3) rfl (vis_by rfl) rfl rfl) (de_c (dc_lc [("load", 5)] rfl sc_loads_with.nd (di_seq (dr_fro (de_var (i := 3) rfl (vis_by rfl) rfl rfl))) (blkOk_by (by kernel_rfl)) (fun _ _ _ _ _ => (dg_name (i := 5) sc_loads_with.nd rfl (loc_by rfl) (hf_by rfl))) (fun _ _ _ _ _ => (dts_one (dt_cmp (od_lt (Room.units hr)) rfl (e_len rfl G.b_len (de_var (i := 5) rfl (vis_by rfl) rfl rfl) rfl) (de_var (i := 2) rfl (vis_by rfl) rfl rfl) no_tr))) (fun _ _ _ _ _ => (de_tup (da_star (de_var (i := 5) rfl (vis_by rfl) rfl rfl) (da_cons (de_var (i := 4) rfl (vis_by rfl) rfl rfl) da_nil rfl) no_tr rfl))) (by decide) (fun _ => rfl))))) rfl (.inl rfl))) (fun _ => rfl)) (dss_one (ds_ret (dv_slot (i := 3) rfl (vis_by rfl) rfl rfl)))))
abbrev s_partings : Stmt := top 12
abbrev n_partings : List Str := ["left", "width", "found", "load", "rest", "one", "more"]
abbrev ps_partings : List Str := ["left", "width"]
theorem sc_partings : FnScope n_partings ps_partings (defScope s_partings) := ⟨rfl, rfl, rfl, by decide +kernel, rfl, by decide +kernel, by decide +kernel⟩
noncomputable def b_partings (Fr : FSem) : EvS :=
  (seqS (ifS (cmpT eqD (un1 lenD (slotE 0)) (constE (.int 0))) (retS (pureV (lstE (consA (tupE nilA) nilA)))) nilS) 
    (seqS (setS 2 (lstV nilA)) 
    (seqS (forS (seqI (froR (callE 3 F_loads_with (consA (bin2 itemD (slotE 0) (constE (.int 0))) (consA (sliceE (slotE 0) (someO (constE (.int 1))) noneO) (consSlotA 1 nilA)))))) (nameG 3) (seqS (setS 4 (pureV (un1 tupleD (lstOf (compC (seqI (froR (slotE 0))) [5] (nameG 5) (cmpT notInD (slotE 5) (slotE 3)) (slotE 5)))))) 
    (dropS (extE 2 (compC (seqI (froR (callE 2 Fr (consSlotA 4 (consSlotA 1 nilA))))) [6] (nameG 6) yesT (tupE (consA (slotE 3) (consStarA (slotE 6) nilA))))))) [3, 4]) 
    (retS (slotV 2)))))
noncomputable def F_partings : Nat → FSem
  | 0 => stuckF
  | d + 1 => runF n_partings.length (b_partings (F_partings d))
theorem w_partings (G : Facts w K mg base c) : ∀ d : Nat, Cal P w K mg base (d + 1) "partings" (spD K c ps_partings.length (F_partings d))
  | 0 => (cal_never G.d_partings sc_partings).mono (by omega)
  | d + 1 => by
    have ih := w_partings G d
    exact cal_of (k := d + 1) (body := b_partings (F_partings d)) G.d_partings sc_partings fun f cdv A outer s H E hr => (dss_cons (ds_if (dt_cmp (od_eq (Room.units hr)) rfl (e_len rfl G.b_len (de_var (i := 0) rfl (vis_by rfl) rfl rfl) rfl) de_int no_tr) (dss_one (ds_ret (dv_de (de_lst (da_cons (de_tup da_nil) da_nil rfl))))) dss_nil) (dss_cons (ds_set (i := 2) sc_partings.nd rfl (loc_by rfl) (dv_lst da_nil) rfl (.inl rfl)) (dss_cons (ds_for [3, 4] passesB rfl (di_seq (dr_fro (de_fn (w_loads_with G) hr (by omega) rfl takesB (da_cons (de_item (de_var (i := 0) rfl (vis_by rfl) rfl rfl) de_int no_tr (fun _ _ => rfl)) (da_cons (de_slice (de_var (i := 0) rfl (vis_by rfl) rfl rfl) (oe_some de_int) oe_none) (da_slot (i := 1) rfl (vis_by rfl) rfl rfl da_nil rfl) rfl) rfl) rfl rfl rfl))) (dg_name (i := 3) sc_partings.nd rfl (loc_by rfl) (.inl rfl)) (dss_cons (ds_set (i := 4) sc_partings.nd rfl (loc_by rfl) (dv_de (e_tuple rfl G.b_tuple (de_c (dc_lc [("one", 5)] rfl sc_partings.nd (di_seq (dr_fro (de_var (i := 0) rfl (vis_by rfl) rfl rfl))) (blkOk_by (by kernel_rfl)) (fun _ _ _ _ _ => (dg_name (i := 5) sc_partings.nd rfl (loc_by rfl) (hf_by rfl))) (fun _ _ _ _ _ => (dts_one (dt_cmp (od_notIn (Room.units hr)) rfl (de_var (i := 5) rfl (vis_by rfl) rfl rfl) (de_var (i := 3) rfl (vis_by rfl) rfl rfl) no_tr))) (fun _ _ _ _ _ => (de_var (i := 5) rfl (vis_by rfl) rfl rfl)) (by decide) (fun _ => rfl))) rfl)) rfl (.inl rfl)) (dss_one (ds_expr (de_ext (i := 2) rfl (vis_by rfl) rfl rfl (dc_lc [("more", 6)] rfl sc_partings.nd (di_seq (dr_fro (de_fn ih hr (by omega) rfl takesB (da_slot (i := 4) rfl (vis_by rfl) rfl rfl (da_slot (i := 1) rfl (vis_by rfl) rfl rfl da_nil rfl) rfl) rfl rfl rfl))) (blkOk_by (by kernel_rfl)) (fun _ _ _ _ _ => (dg_name (i := 6) sc_partings.nd rfl (loc_by rfl) (hf_by rfl))) (fun _ _ _ _ _ => dts_nil) (fun _ _ _ _ _ => (de_tup (da_cons (de_var (i := 3) rfl (vis_by rfl) rfl rfl) (da_star (de_var (i := 6) rfl (vis_by rfl) rfl rfl) da_nil no_tr rfl) rfl))) (by decide) (fun _ => rfl)) rfl rfl rfl rfl) rfl))) (fun _ => rfl)) (dss_one (ds_ret (dv_slot (i := 2) rfl (vis_by rfl) rfl rfl))))))
abbrev s_best_loads : Stmt := top 14
abbrev n_best_loads : List Str := ["pieces", "width", "rows", "parting", "loads", "load"]
abbrev ps_best_loads : List Str := ["pieces", "width"]
theorem sc_best_loads : FnScope n_best_loads ps_best_loads (defScope s_best_loads) := ⟨rfl, rfl, rfl, by decide +kernel, rfl, by decide +kernel, by decide +kernel⟩
noncomputable def b_best_loads : EvS :=
  (seqS (setS 2 (lstV nilA)) 
    (seqS (forS (seqI (froR (callE 2 (F_partings 7) (consA (rg1E .tuple (un1 lenD (slotE 0))) (consSlotA 1 nilA))))) (nameG 3) (seqS (setS 4 (pureV (un1 tupleD (sortKE (slotE 3) 5 (tupE (consA (bin2 fdivD (bin2 mulD (callE 2 F_time_of (consSlotA 0 (consSlotA 5 nilA))) (constE k_EVERY)) (un1 lenD (slotE 5))) (consA (slotE 5) nilA))))))) 
    (dropS (appE 2 (tupE (consA (callE 2 F_load_sum (consSlotA 0 (consSlotA 4 nilA))) (consA (slotE 4) nilA)))))) [3, 4]) 
    (retS (pureV (bin2 itemD (un1 minDD (curE 2)) (constE (.int 1)))))))
noncomputable def F_best_loads : FSem := runF n_best_loads.length b_best_loads
theorem w_best_loads (G : Facts w K mg base c) : Cal P w K mg base 9 "best_loads" (spD K c ps_best_loads.length F_best_loads) :=
  cal_ofG (k := 8) (body := b_best_loads) G.d_best_loads sc_best_loads fun f cc P' A outer s H E tb hP hr => (dss_cons (ds_set (i := 2) sc_best_loads.nd rfl (loc_by rfl) (dv_lst da_nil) rfl (.inl rfl)) (dss_cons (ds_for [3, 4] passesB rfl (di_seq (dr_fro (de_fn (w_partings G 7) hr (by decide) rfl takesB (da_cons (de_tupRg1 rfl rfl G.b_tuple rfl G.b_range (e_len rfl G.b_len (de_var (i := 0) rfl (vis_by rfl) rfl rfl) rfl) rfl rfl) (da_slot (i := 1) rfl (vis_by rfl) rfl rfl da_nil rfl) rfl) rfl rfl rfl))) (dg_name (i := 3) sc_best_loads.nd rfl (loc_by rfl) (.inl rfl)) (dss_cons (ds_set (i := 4) sc_best_loads.nd rfl (loc_by rfl) (dv_de (e_tuple rfl G.b_tuple (de_sortK (.inl ⟨tb.code, hP⟩) rfl sc_best_loads.nd (k := 5) hr rfl G.b_sorted bb_sorted tb.bm tb.gP rfl (lamOk_by (x := "load") (i := 5) (by kernel_rfl)) rfl (de_var (i := 3) rfl (vis_by rfl) rfl rfl) (fun _ _ _ _ _ _ => rfl) (fun _ _ _ _ _ => (de_tup (da_cons (de_bin od_fdiv (de_bin od_mul (de_fn (w_time_of (Facts.add G)) (room3 (k := 5) hr _) (by decide) rfl takesW0 (da_slot (i := 0) rfl (vis_by rfl) rfl rfl (da_slot (i := 5) rfl (vis_by rfl) rfl rfl da_nil rfl) rfl) rfl rfl rfl) (de_con G.c_EVERY rfl rfl)) (e_len rfl G.b_len (de_var (i := 5) rfl (vis_by rfl) rfl rfl) rfl)) (da_cons (de_var (i := 5) rfl (vis_by rfl) rfl rfl) da_nil rfl) rfl))) rfl) rfl)) rfl (.inl rfl)) (dss_one (ds_expr (de_app (i := 2) rfl (vis_by rfl) rfl rfl (de_tup (da_cons (de_fn (w_load_sum G) hr (by decide) rfl takesB (da_slot (i := 0) rfl (vis_by rfl) rfl rfl (da_slot (i := 4) rfl (vis_by rfl) rfl rfl da_nil rfl) rfl) rfl rfl rfl) (da_cons (de_var (i := 4) rfl (vis_by rfl) rfl rfl) da_nil rfl) rfl)) rfl rfl rfl rfl) rfl))) (fun _ => rfl)) (dss_one (ds_ret (dv_de (de_item (e_min rfl (Room.units hr) rfl G.b_min (de_cur (i := 2) rfl (vis_by rfl) rfl rfl) rfl) de_int no_tr (fun _ _ => rfl)))))))
abbrev s_least_sum : Stmt := top 15
abbrev n_least_sum : List Str := ["pieces", "width"]
abbrev ps_least_sum : List Str := ["pieces", "width"]
theorem sc_least_sum : FnScope n_least_sum ps_least_sum (defScope s_least_sum) := ⟨rfl, rfl, rfl, by decide +kernel, rfl, by decide +kernel, by decide +kernel⟩
noncomputable def b_least_sum : EvS :=
  (retS (pureV (callE 2 F_load_sum (consSlotA 0 (consA (callE 2 F_best_loads (consSlotA 0 (consSlotA 1 nilA))) nilA)))))
noncomputable def F_least_sum : FSem := runF n_least_sum.length b_least_sum
theorem w_least_sum (G : Facts w K mg base c) : Cal P w K mg base 10 "least_sum" (spD K c ps_least_sum.length F_least_sum) :=
  cal_of (k := 9) (body := b_least_sum) G.d_least_sum sc_least_sum fun f cdv A outer s H E hr => (dss_one (ds_ret (dv_de (de_fn (w_load_sum G) hr (by decide) rfl takesB (da_slot (i := 0) rfl (vis_by rfl) rfl rfl (da_cons (de_fn (w_best_loads G) hr (by decide) rfl takesB (da_slot (i := 0) rfl (vis_by rfl) rfl rfl (da_slot (i := 1) rfl (vis_by rfl) rfl rfl da_nil rfl) rfl) rfl rfl rfl) da_nil rfl) rfl) rfl rfl rfl))))
abbrev s__law_draws : Stmt := top 17
abbrev n__law_draws : List Str := ["script", "draws", "cell", "seed", "k", "number", "first"]
abbrev ps__law_draws : List Str := ["script"]
theorem sc__law_draws : FnScope n__law_draws ps__law_draws (defScope s__law_draws) := ⟨rfl, rfl, rfl, by decide +kernel, rfl, by decide +kernel, by decide +kernel⟩
noncomputable def b__law_draws : EvS :=
  (seqS (setS 1 (lstV nilA)) 
    (seqS (forS (seqI (ownR 0)) (nameG 2) (seqS (setS 5 (pureV (un1 absD (slotE 2)))) 
    (seqS (ifS (cmpT ltD (slotE 5) (bin2 powD (constE (.int 10)) (constE (.int 18)))) (seqS (setS 6 (pureV (bin2 modD (un1 intD (bin2 addD (bin2 mulD (slotE 5) (constE (.int 48271))) (constE (.int 11)))) (constE (.int 2147483647))))) 
    (seqS (dropS (appE 1 (bin2 modD (un1 intD (bin2 addD (bin2 mulD (slotE 6) (constE (.int 69621))) (slotE 5))) (constE (.int 2147483629))))) 
    (seqS (dropS (appE 1 (bin2 modD (un1 intD (bin2 addD (slotE 6) (bin2 fdivD (slotE 5) (constE (.int 7))))) (constE (.int 1000003))))) 
    (setS 5 (pureV (constE (.int 0))))))) nilS) 
    (forS (range1I (constE (.int 60))) (nameG 4) (ifS (cmpT gtD (slotE 5) (constE (.int 0))) (seqS (dropS (appE 1 (bin2 modD (un1 intD (slotE 5)) (constE (.int 997))))) 
    (setS 5 (pureV (bin2 fdivD (slotE 5) (constE (.int 997)))))) nilS) [4]))) [2, 4, 5]) 
    (seqS (setS 3 (pureV (constE (.int 1)))) 
    (seqS (ifS (cmpT gtD (un1 lenD (curE 0)) (constE (.int 0))) (setS 3 (pureV (bin2 addD (constE (.int 1)) (un1 absD (bin2 itemD (curE 0) (constE (.int 0))))))) nilS) 
    (seqS (forS (range1I (constE (.int 900))) (nameG 4) (seqS (setS 3 (pureV (bin2 modD (un1 intD (bin2 addD (bin2 mulD (slotE 3) (constE (.int 48271))) (constE (.int 69621)))) (constE (.int 2147483647))))) 
    (dropS (appE 1 (bin2 fdivD (slotE 3) (constE (.int 5)))))) [4]) 
    (retS (ownOf (revC (ownR 1)))))))))
noncomputable def F__law_draws : FSem := runN n__law_draws.length b__law_draws
theorem w__law_draws (G : Facts w K mg base c) : Cal P w K mg base 1 "_law_draws" (spN K c ps__law_draws.length F__law_draws) :=
  cal_ofN (k := 0) (body := b__law_draws) G.d__law_draws sc__law_draws fun f cdv A outer s H E hr => (dss_cons (ds_set (i := 1) sc__law_draws.nd rfl (loc_by rfl) (dv_lst da_nil) rfl (.inl rfl)) (dss_cons (ds_for [2, 4, 5] passesB rfl (di_seq (dr_own (i := 0) rfl (vis_by rfl) rfl rfl)) (dg_name (i := 2) sc__law_draws.nd rfl (loc_by rfl) (.inl rfl)) (dss_cons (ds_set (i := 5) sc__law_draws.nd rfl (loc_by rfl) (dv_de (e_abs rfl G.b_abs (de_var (i := 2) rfl (vis_by rfl) rfl rfl) rfl)) rfl (.inl rfl)) (dss_cons (ds_if (dt_cmp (od_lt (Room.units hr)) rfl (de_var (i := 5) rfl (vis_by rfl) rfl rfl) (de_bin od_pow de_int de_int) no_tr) (dss_cons (ds_set (i := 6) sc__law_draws.nd rfl (loc_by rfl) (dv_de (de_bin od_mod (e_int rfl G.b_int (de_bin od_add (de_bin od_mul (de_var (i := 5) rfl (vis_by rfl) rfl rfl) de_int) de_int) rfl) de_int)) rfl (.inl rfl)) (dss_cons (ds_expr (de_app (i := 1) rfl (vis_by rfl) rfl rfl (de_bin od_mod (e_int rfl G.b_int (de_bin od_add (de_bin od_mul (de_var (i := 6) rfl (vis_by rfl) rfl rfl) de_int) (de_var (i := 5) rfl (vis_by rfl) rfl rfl)) rfl) de_int) rfl rfl rfl rfl) rfl) (dss_cons (ds_expr (de_app (i := 1) rfl (vis_by rfl) rfl rfl (de_bin od_mod (e_int rfl G.b_int (de_bin od_add (de_var (i := 6) rfl (vis_by rfl) rfl rfl) (de_bin od_fdiv (de_var (i := 5) rfl (vis_by rfl) rfl rfl) de_int)) rfl) de_int) rfl rfl rfl rfl) rfl) (dss_one (ds_set (i := 5) sc__law_draws.nd rfl (loc_by rfl) (dv_de de_int) rfl (.inl rfl)))))) dss_nil) (dss_one (ds_for [4] passesB rfl (di_range1 rfl G.b_range de_int rfl) (dg_name (i := 4) sc__law_draws.nd rfl (loc_by rfl) (.inl rfl)) (dss_one (ds_if (dt_cmp (od_gt (Room.units hr)) rfl (de_var (i := 5) rfl (vis_by rfl) rfl rfl) de_int no_tr) (dss_cons (ds_expr (de_app (i := 1) rfl (vis_by rfl) rfl rfl (de_bin od_mod (e_int rfl G.b_int (de_var (i := 5) rfl (vis_by rfl) rfl rfl) rfl) de_int) rfl rfl rfl rfl) rfl) (dss_one (ds_set (i := 5) sc__law_draws.nd rfl (loc_by rfl) (dv_de (de_bin od_fdiv (de_var (i := 5) rfl (vis_by rfl) rfl rfl) de_int)) rfl (.inl rfl)))) dss_nil)) (fun _ => rfl))))) (fun _ => rfl)) (dss_cons (ds_set (i := 3) sc__law_draws.nd rfl (loc_by rfl) (dv_de de_int) rfl (.inl rfl)) (dss_cons (ds_if (dt_cmp (od_gt (Room.units hr)) rfl (e_len rfl G.b_len (de_cur (i := 0) rfl (vis_by rfl) rfl rfl) rfl) de_int no_tr) (dss_one (ds_set (i := 3) sc__law_draws.nd rfl (loc_by rfl) (dv_de (de_bin od_add de_int (e_abs rfl G.b_abs (de_item (de_cur (i := 0) rfl (vis_by rfl) rfl rfl) de_int yes_tr (fun _ _ => rfl)) rfl))) rfl (.inl rfl))) dss_nil) (dss_cons (ds_for [4] passesB rfl (di_range1 rfl G.b_range de_int rfl) (dg_name (i := 4) sc__law_draws.nd rfl (loc_by rfl) (.inl rfl)) (dss_cons (ds_set (i := 3) sc__law_draws.nd rfl (loc_by rfl) (dv_de (de_bin od_mod (e_int rfl G.b_int (de_bin od_add (de_bin od_mul (de_var (i := 3) rfl (vis_by rfl) rfl rfl) de_int) de_int) rfl) de_int)) rfl (.inl rfl)) (dss_one (ds_expr (de_app (i := 1) rfl (vis_by rfl) rfl rfl (de_bin od_fdiv (de_var (i := 3) rfl (vis_by rfl) rfl rfl) de_int) rfl rfl rfl rfl) rfl))) (fun _ => rfl)) (dss_one (ds_ret (dv_c (dc_rev rfl rfl G.b_list bb_list rfl G.b_reversed (dr_own (i := 1) rfl (vis_by rfl) rfl rfl) rfl rfl)))))))))
abbrev s__law_take : Stmt := top 18
abbrev n__law_take : List Str := ["draws", "bound"]
abbrev ps__law_take : List Str := ["draws", "bound"]
theorem sc__law_take : FnScope n__law_take ps__law_take (defScope s__law_take) := ⟨rfl, rfl, rfl, by decide +kernel, rfl, by decide +kernel, by decide +kernel⟩
noncomputable def b__law_take : EvS :=
  (seqS (ifS (cmpT eqD (un1 lenD (curE 0)) (constE (.int 0))) (retS (pureV (constE (.int 0)))) nilS) 
    (retS (pureV (bin2 modD (un1 intD (popE 0)) (slotE 1)))))
noncomputable def F__law_take : FSem := runF n__law_take.length b__law_take
theorem w__law_take (G : Facts w K mg base c) : Cal P w K mg base 1 "_law_take" (spD K c ps__law_take.length F__law_take) :=
  cal_of (k := 0) (body := b__law_take) G.d__law_take sc__law_take fun f cdv A outer s H E hr => (dss_cons (ds_if (dt_cmp (od_eq (Room.units hr)) rfl (e_len rfl G.b_len (de_cur (i := 0) rfl (vis_by rfl) rfl rfl) rfl) de_int no_tr) (dss_one (ds_ret (dv_de de_int))) dss_nil) (dss_one (ds_ret (dv_de (de_bin od_mod (e_int rfl G.b_int (de_pop (i := 0) rfl (vis_by rfl) rfl rfl rfl rfl) rfl) (de_var (i := 1) rfl (vis_by rfl) rfl rfl))))))
abbrev s__law_alike : Stmt := top 19
abbrev n__law_alike : List Str := ["found", "due", "k"]
abbrev ps__law_alike : List Str := ["found", "due"]
theorem sc__law_alike : FnScope n__law_alike ps__law_alike (defScope s__law_alike) := ⟨rfl, rfl, rfl, by decide +kernel, rfl, by decide +kernel, by decide +kernel⟩
noncomputable def b__law_alike (Fr : FSem) : EvS :=
  (seqS (ifS (orT (valT (isiE .list (slotE 1))) (valT (isiE .tuple (slotE 1)))) (seqS (ifS (orT (cmpT neD (isiE .list (slotE 0)) (isiE .list (slotE 1))) (cmpT neD (isiE .tuple (slotE 0)) (isiE .tuple (slotE 1)))) (retS (pureV (constE (.bool false)))) nilS) 
    (retS (pureV (andE (bin2 eqD (un1 lenD (slotE 0)) (un1 lenD (slotE 1))) (bin2 eqD (lstOf (compC (range1I (un1 lenD (slotE 1))) [2] (nameG 2) (notT (valT (callE 2 Fr (consA (bin2 itemD (slotE 0) (slotE 2)) (consA (bin2 itemD (slotE 1) (slotE 2)) nilA))))) (slotE 2))) (lstE nilA)))))) nilS) 
    (seqS (ifS (cmpT isD (slotE 1) (constE .none)) (retS (pureV (bin2 isD (slotE 0) (constE .none)))) nilS) 
    (seqS (ifS (orT (valT (isiE .bool (slotE 1))) (valT (isiE .bool (slotE 0)))) (retS (pureV (andE (isiE .bool (slotE 0)) (andE (isiE .bool (slotE 1)) (bin2 eqD (slotE 0) (slotE 1)))))) nilS) 
    (seqS (ifS (valT (isiE .int (slotE 1))) (retS (pureV (andE (isiE .int (slotE 0)) (bin2 eqD (slotE 0) (slotE 1))))) nilS) 
    (retS (pureV (andE (isiE .str (slotE 0)) (bin2 eqD (slotE 0) (slotE 1)))))))))
noncomputable def F__law_alike : Nat → FSem
  | 0 => stuckF
  | d + 1 => runF n__law_alike.length (b__law_alike (F__law_alike d))
theorem w__law_alike (G : Facts w K mg base c) : ∀ d : Nat, Cal P w K mg base (d + 1) "_law_alike" (spD K c ps__law_alike.length (F__law_alike d))
  | 0 => (cal_never G.d__law_alike sc__law_alike).mono (by omega)
  | d + 1 => by
    have ih := w__law_alike G d
    exact cal_of (k := d + 1) (body := b__law_alike (F__law_alike d)) G.d__law_alike sc__law_alike fun f cdv A outer s H E hr => (dss_cons (ds_if (DW.dt (dw_or (dt_val (i_list rfl G.b_isinstance rfl G.b_list (de_var (i := 1) rfl (vis_by rfl) rfl rfl) rfl) (fun _ => rfl)) (dw_or1 (dt_val (i_tuple rfl G.b_isinstance rfl G.b_tuple (de_var (i := 1) rfl (vis_by rfl) rfl rfl) rfl) (fun _ => rfl))))) (dss_cons (ds_if (DW.dt (dw_or (dt_cmp (od_ne (Room.units hr)) rfl (i_list rfl G.b_isinstance rfl G.b_list (de_var (i := 0) rfl (vis_by rfl) rfl rfl) rfl) (i_list rfl G.b_isinstance rfl G.b_list (de_var (i := 1) rfl (vis_by rfl) rfl rfl) rfl) no_tr) (dw_or1 (dt_cmp (od_ne (Room.units hr)) rfl (i_tuple rfl G.b_isinstance rfl G.b_tuple (de_var (i := 0) rfl (vis_by rfl) rfl rfl) rfl) (i_tuple rfl G.b_isinstance rfl G.b_tuple (de_var (i := 1) rfl (vis_by rfl) rfl rfl) rfl) no_tr)))) (dss_one (ds_ret (dv_de de_bool))) dss_nil) (dss_one (ds_ret (dv_de (de_and (de_cmp (od_eq (Room.units hr)) rfl (e_len rfl G.b_len (de_var (i := 0) rfl (vis_by rfl) rfl rfl) rfl) (e_len rfl G.b_len (de_var (i := 1) rfl (vis_by rfl) rfl rfl) rfl) no_tr) (de_one (de_cmp (od_eq (Room.units hr)) rfl (de_c (dc_lc [("k", 2)] rfl sc__law_alike.nd (di_range1 rfl G.b_range (e_len rfl G.b_len (de_var (i := 1) rfl (vis_by rfl) rfl rfl) rfl) rfl) (blkOk_by (by kernel_rfl)) (fun _ _ _ _ _ => (dg_name (i := 2) sc__law_alike.nd rfl (loc_by rfl) (hf_by rfl))) (fun _ _ _ _ _ => (dts_one (dt_not (dt_val (de_fn ih hr (by omega) rfl takesW0 (da_cons (de_item (de_var (i := 0) rfl (vis_by rfl) rfl rfl) (de_var (i := 2) rfl (vis_by rfl) rfl rfl) no_tr (fun _ _ => rfl)) (da_cons (de_item (de_var (i := 1) rfl (vis_by rfl) rfl rfl) (de_var (i := 2) rfl (vis_by rfl) rfl rfl) no_tr (fun _ _ => rfl)) da_nil rfl) rfl) rfl rfl rfl) (fun _ => rfl))))) (fun _ _ _ _ _ => (de_var (i := 2) rfl (vis_by rfl) rfl rfl)) (by decide) (fun _ => rfl))) (de_lst da_nil) no_tr))))))) dss_nil) (dss_cons (ds_if (dt_cmp od_is rfl (de_var (i := 1) rfl (vis_by rfl) rfl rfl) de_none no_tr) (dss_one (ds_ret (dv_de (de_cmp od_is rfl (de_var (i := 0) rfl (vis_by rfl) rfl rfl) de_none no_tr)))) dss_nil) (dss_cons (ds_if (DW.dt (dw_or (dt_val (i_bool rfl G.b_isinstance rfl G.b_bool (de_var (i := 1) rfl (vis_by rfl) rfl rfl) rfl) (fun _ => rfl)) (dw_or1 (dt_val (i_bool rfl G.b_isinstance rfl G.b_bool (de_var (i := 0) rfl (vis_by rfl) rfl rfl) rfl) (fun _ => rfl))))) (dss_one (ds_ret (dv_de (de_and (i_bool rfl G.b_isinstance rfl G.b_bool (de_var (i := 0) rfl (vis_by rfl) rfl rfl) rfl) (de_and (i_bool rfl G.b_isinstance rfl G.b_bool (de_var (i := 1) rfl (vis_by rfl) rfl rfl) rfl) (de_one (de_cmp (od_eq (Room.units hr)) rfl (de_var (i := 0) rfl (vis_by rfl) rfl rfl) (de_var (i := 1) rfl (vis_by rfl) rfl rfl) no_tr))))))) dss_nil) (dss_cons (ds_if (dt_val (i_int rfl G.b_isinstance rfl G.b_int (de_var (i := 1) rfl (vis_by rfl) rfl rfl) rfl) (fun _ => rfl)) (dss_one (ds_ret (dv_de (de_and (i_int rfl G.b_isinstance rfl G.b_int (de_var (i := 0) rfl (vis_by rfl) rfl rfl) rfl) (de_one (de_cmp (od_eq (Room.units hr)) rfl (de_var (i := 0) rfl (vis_by rfl) rfl rfl) (de_var (i := 1) rfl (vis_by rfl) rfl rfl) no_tr)))))) dss_nil) (dss_one (ds_ret (dv_de (de_and (i_str rfl G.b_isinstance rfl G.b_str (de_var (i := 0) rfl (vis_by rfl) rfl rfl) rfl) (de_one (de_cmp (od_eq (Room.units hr)) rfl (de_var (i := 0) rfl (vis_by rfl) rfl rfl) (de_var (i := 1) rfl (vis_by rfl) rfl rfl) no_tr))))))))))
abbrev s__law_sets : Stmt := top 21
abbrev n__law_sets : List Str := ["items", "found", "item", "one"]
abbrev ps__law_sets : List Str := ["items"]
theorem sc__law_sets : FnScope n__law_sets ps__law_sets (defScope s__law_sets) := ⟨rfl, rfl, rfl, by decide +kernel, rfl, by decide +kernel, by decide +kernel⟩
noncomputable def b__law_sets : EvS :=
  (seqS (setS 1 (pureV (lstE (consA (tupE nilA) nilA)))) 
    (seqS (forS (seqI (froR (slotE 0))) (nameG 2) (setS 1 (pureV (bin2 addD (slotE 1) (lstOf (compC (seqI (froR (slotE 1))) [3] (nameG 3) yesT (bin2 addD (slotE 3) (tupE (consA (slotE 2) nilA)))))))) [2]) 
    (retS (slotV 1))))
noncomputable def F__law_sets : FSem := runF n__law_sets.length b__law_sets
theorem w__law_sets (G : Facts w K mg base c) : Cal P w K mg base 1 "_law_sets" (spD K c ps__law_sets.length F__law_sets) :=
  cal_of (k := 0) (body := b__law_sets) G.d__law_sets sc__law_sets fun f cdv A outer s H E hr => (dss_cons (ds_set (i := 1) sc__law_sets.nd rfl (loc_by rfl) (dv_de (de_lst (da_cons (de_tup da_nil) da_nil rfl))) rfl (.inl rfl)) (dss_cons (ds_for [2] passesB rfl (di_seq (dr_fro (de_var (i := 0) rfl (vis_by rfl) rfl rfl))) (dg_name (i := 2) sc__law_sets.nd rfl (loc_by rfl) (.inl rfl)) (dss_one (ds_set (i := 1) sc__law_sets.nd rfl (loc_by rfl) (dv_de (de_bin od_add (de_var (i := 1) rfl (vis_by rfl) rfl rfl) (de_c (dc_lc [("one", 3)] rfl sc__law_sets.nd (di_seq (dr_fro (de_var (i := 1) rfl (vis_by rfl) rfl rfl))) (blkOk_by (by kernel_rfl)) (fun _ _ _ _ _ => (dg_name (i := 3) sc__law_sets.nd rfl (loc_by rfl) (hf_by rfl))) (fun _ _ _ _ _ => dts_nil) (fun _ _ _ _ _ => (de_bin od_add (de_var (i := 3) rfl (vis_by rfl) rfl rfl) (de_tup (da_cons (de_var (i := 2) rfl (vis_by rfl) rfl rfl) da_nil rfl)))) (by decide) (fun _ => rfl))))) rfl (.inl rfl))) (fun _ => rfl)) (dss_one (ds_ret (dv_slot (i := 1) rfl (vis_by rfl) rfl rfl)))))
abbrev s__law_loads : Stmt := top 20
abbrev n__law_loads : List Str := ["left", "width", "found", "some", "rest", "one", "more"]
abbrev ps__law_loads : List Str := ["left", "width"]
theorem sc__law_loads : FnScope n__law_loads ps__law_loads (defScope s__law_loads) := ⟨rfl, rfl, rfl, by decide +kernel, rfl, by decide +kernel, by decide +kernel⟩
noncomputable def b__law_loads (Fr : FSem) : EvS :=
  (seqS (ifS (cmpT eqD (slotE 0) (tupE nilA)) (retS (pureV (lstE (consA (tupE nilA) nilA)))) nilS) 
    (seqS (setS 2 (pureV (lstE nilA))) 
    (seqS (forS (seqI (froR (callE 1 F__law_sets (consSlotA 0 nilA)))) (nameG 3) (ifS (valT (chain2 ltD leD (constE (.int 0)) (un1 lenD (slotE 3)) (slotE 1))) (seqS (setS 4 (pureV (un1 tupleD (lstOf (compC (seqI (froR (slotE 0))) [5] (nameG 5) (cmpT notInD (slotE 5) (slotE 3)) (slotE 5)))))) 
    (setS 2 (pureV (bin2 addD (slotE 2) (lstOf (compC (seqI (froR (callE 2 Fr (consSlotA 4 (consSlotA 1 nilA))))) [6] (nameG 6) yesT (bin2 addD (tupE (consA (slotE 3) nilA)) (slotE 6)))))))) nilS) [3, 4]) 
    (retS (slotV 2)))))
noncomputable def F__law_loads : Nat → FSem
  | 0 => stuckF
  | d + 1 => runF n__law_loads.length (b__law_loads (F__law_loads d))
theorem w__law_loads (G : Facts w K mg base c) : ∀ d : Nat, Cal P w K mg base (d + 1) "_law_loads" (spD K c ps__law_loads.length (F__law_loads d))
  | 0 => (cal_never G.d__law_loads sc__law_loads).mono (by omega)
  | d + 1 => by
    have ih := w__law_loads G d
    exact cal_of (k := d + 1) (body := b__law_loads (F__law_loads d)) G.d__law_loads sc__law_loads fun f cdv A outer s H E hr => (dss_cons (ds_if (dt_cmp (od_eq (Room.units hr)) rfl (de_var (i := 0) rfl (vis_by rfl) rfl rfl) (de_tup da_nil) no_tr) (dss_one (ds_ret (dv_de (de_lst (da_cons (de_tup da_nil) da_nil rfl))))) dss_nil) (dss_cons (ds_set (i := 2) sc__law_loads.nd rfl (loc_by rfl) (dv_de (de_lst da_nil)) rfl (.inl rfl)) (dss_cons (ds_for [3, 4] passesB rfl (di_seq (dr_fro (de_fn (w__law_sets G) hr (by omega) rfl takesB (da_slot (i := 0) rfl (vis_by rfl) rfl rfl da_nil rfl) rfl rfl rfl))) (dg_name (i := 3) sc__law_loads.nd rfl (loc_by rfl) (.inl rfl)) (dss_one (ds_if (dt_chain (od_lt (Room.units hr)) (od_le (Room.units hr)) rfl de_int (e_len rfl G.b_len (de_var (i := 3) rfl (vis_by rfl) rfl rfl) rfl) (de_var (i := 1) rfl (vis_by rfl) rfl rfl)) (dss_cons (ds_set (i := 4) sc__law_loads.nd rfl (loc_by rfl) (dv_de (e_tuple rfl G.b_tuple (de_c (dc_lc [("one", 5)] rfl sc__law_loads.nd (di_seq (dr_fro (de_var (i := 0) rfl (vis_by rfl) rfl rfl))) (blkOk_by (by kernel_rfl)) (fun _ _ _ _ _ => (dg_name (i := 5) sc__law_loads.nd rfl (loc_by rfl) (hf_by rfl))) (fun _ _ _ _ _ => (dts_one (dt_cmp (od_notIn (Room.units hr)) rfl (de_var (i := 5) rfl (vis_by rfl) rfl rfl) (de_var (i := 3) rfl (vis_by rfl) rfl rfl) no_tr))) (fun _ _ _ _ _ => (de_var (i := 5) rfl (vis_by rfl) rfl rfl)) (by decide) (fun _ => rfl))) rfl)) rfl (.inl rfl)) (dss_one (ds_set (i := 2) sc__law_loads.nd rfl (loc_by rfl) (dv_de (de_bin od_add (de_var (i := 2) rfl (vis_by rfl) rfl rfl) (de_c (dc_lc [("more", 6)] rfl sc__law_loads.nd (di_seq (dr_fro (de_fn ih hr (by omega) rfl takesB (da_slot (i := 4) rfl (vis_by rfl) rfl rfl (da_slot (i := 1) rfl (vis_by rfl) rfl rfl da_nil rfl) rfl) rfl rfl rfl))) (blkOk_by (by kernel_rfl)) (fun _ _ _ _ _ => (dg_name (i := 6) sc__law_loads.nd rfl (loc_by rfl) (hf_by rfl))) (fun _ _ _ _ _ => dts_nil) (fun _ _ _ _ _ => (de_bin od_add (de_tup (da_cons (de_var (i := 3) rfl (vis_by rfl) rfl rfl) da_nil rfl)) (de_var (i := 6) rfl (vis_by rfl) rfl rfl))) (by decide) (fun _ => rfl))))) rfl (.inl rfl)))) dss_nil)) (fun _ => rfl)) (dss_one (ds_ret (dv_slot (i := 2) rfl (vis_by rfl) rfl rfl))))))
abbrev s__law_both : Stmt := top 22
abbrev n__law_both : List Str := ["pieces", "loads", "end", "whole", "load", "one"]
abbrev ps__law_both : List Str := ["pieces", "loads"]
theorem sc__law_both : FnScope n__law_both ps__law_both (defScope s__law_both) := ⟨rfl, rfl, rfl, by decide +kernel, rfl, by decide +kernel, by decide +kernel⟩
noncomputable def b__law_both : EvS :=
  (seqS (asgS (tupE (consA (constE (.int 0)) (consA (constE (.int 0)) nilA))) (tupG 2 (consG (nameG 2) (consG (nameG 3) nilG)))) 
    (seqS (forS (seqI (froR (slotE 1))) (nameG 4) (seqS (setS 2 (pureV (bin2 addD (slotE 2) (un1 maxDD (lstOf (compC (seqI (froR (slotE 4))) [5] (nameG 5) yesT (bin2 itemD (slotE 0) (slotE 5)))))))) 
    (setS 3 (pureV (bin2 addD (slotE 3) (un1 sumD (lstOf (compC (seqI (froR (slotE 4))) [5] (nameG 5) yesT (slotE 2)))))))) [4]) 
    (retS (pureV (tupE (consA (slotE 2) (consA (slotE 3) nilA)))))))
noncomputable def F__law_both : FSem := runF n__law_both.length b__law_both
theorem w__law_both (G : Facts w K mg base c) : Cal P w K mg base 1 "_law_both" (spD K c ps__law_both.length F__law_both) :=
  cal_of (k := 0) (body := b__law_both) G.d__law_both sc__law_both fun f cdv A outer s H E hr => (dss_cons (ds_asg (de_tup (da_cons de_int (da_cons de_int da_nil rfl) rfl)) (dg_tup rfl (dgs_cons (dg_name (i := 2) sc__law_both.nd rfl (loc_by rfl) (.inl rfl)) (dgs_cons (dg_name (i := 3) sc__law_both.nd rfl (loc_by rfl) (.inl rfl)) dgs_nil rfl) rfl) rfl rfl) rfl rfl rfl) (dss_cons (ds_for [4] passesB rfl (di_seq (dr_fro (de_var (i := 1) rfl (vis_by rfl) rfl rfl))) (dg_name (i := 4) sc__law_both.nd rfl (loc_by rfl) (.inl rfl)) (dss_cons (ds_set (i := 2) sc__law_both.nd rfl (loc_by rfl) (dv_de (de_bin od_add (de_var (i := 2) rfl (vis_by rfl) rfl rfl) (e_max rfl (Room.units hr) rfl G.b_max (de_c (dc_lc [("one", 5)] rfl sc__law_both.nd (di_seq (dr_fro (de_var (i := 4) rfl (vis_by rfl) rfl rfl))) (blkOk_by (by kernel_rfl)) (fun _ _ _ _ _ => (dg_name (i := 5) sc__law_both.nd rfl (loc_by rfl) (hf_by rfl))) (fun _ _ _ _ _ => dts_nil) (fun _ _ _ _ _ => (de_item (de_var (i := 0) rfl (vis_by rfl) rfl rfl) (de_var (i := 5) rfl (vis_by rfl) rfl rfl) no_tr (fun _ _ => rfl))) (by decide) (fun _ => rfl))) rfl))) rfl (.inl rfl)) (dss_one (ds_set (i := 3) sc__law_both.nd rfl (loc_by rfl) (dv_de (de_bin od_add (de_var (i := 3) rfl (vis_by rfl) rfl rfl) (e_sum rfl rfl G.b_sum (de_c (dc_lc [("one", 5)] rfl sc__law_both.nd (di_seq (dr_fro (de_var (i := 4) rfl (vis_by rfl) rfl rfl))) (blkOk_by (by kernel_rfl)) (fun _ _ _ _ _ => (dg_name (i := 5) sc__law_both.nd rfl (loc_by rfl) (hf_by rfl))) (fun _ _ _ _ _ => dts_nil) (fun _ _ _ _ _ => (de_var (i := 2) rfl (vis_by rfl) rfl rfl)) (by decide) (fun _ => rfl))) rfl))) rfl (.inl rfl)))) (fun _ => rfl)) (dss_one (ds_ret (dv_de (de_tup (da_cons (de_var (i := 2) rfl (vis_by rfl) rfl rfl) (da_cons (de_var (i := 3) rfl (vis_by rfl) rfl rfl) da_nil rfl) rfl)))))))
abbrev s_law : Stmt := top 23
abbrev n_law : List Str := ["script", "draws", "top", "pieces", "width", "odd", "numbers", "rows", "both", "told", "turn", "loads", "k", "one", "value", "end", "whole"]
abbrev ps_law : List Str := ["script"]
theorem sc_law : FnScope n_law ps_law (defScope s_law) := ⟨rfl, rfl, rfl, by decide +kernel, rfl, by decide +kernel, by decide +kernel⟩
noncomputable def b_law : EvS :=
  (seqS (setS 1 (ownOf (callC 1 F__law_draws (consSlotA 0 nilA)))) 
    (seqS (setS 2 (pureV (bin2 itemD (lstE (consA (constE (.int 3)) (consA (constE (.int 12)) (consA (constE (.int 50)) nilA)))) (callE 2 F__law_take (consSlotA 1 (consA (constE (.int 3)) nilA)))))) 
    (seqS (asg2S 3 4 (consV (pureV (un1 tupleD (lstOf (compC (range1I (bin2 addD (constE (.int 1)) (callE 2 F__law_take (consSlotA 1 (consA (constE (.int 6)) nilA))))) [12] (nameG 12) yesT (bin2 addD (constE (.int 1)) (callE 2 F__law_take (consSlotA 1 (consSlotA 2 nilA)))))))) (consV (pureV (bin2 addD (constE (.int 1)) (callE 2 F__law_take (consSlotA 1 (consA (constE (.int 5)) nilA))))) nilA))) 
    (seqS (setS 5 (pureV (lstE (consA (constE .none) (consA (tupE nilA) (consA (un1 listD (slotE 3)) (consA (bin2 mulD (tupE (consA (constE (.int 1)) nilA)) (constE (.int 8))) (consA (bin2 addD (sliceE (slotE 3) noneO (someO (negE (constE (.int 1))))) (tupE (consA (constE (.int 0)) nilA))) (consA (bin2 addD (sliceE (slotE 3) noneO (someO (negE (constE (.int 1))))) (tupE (consA (constE (.int 51)) nilA))) (consA (bin2 addD (sliceE (slotE 3) noneO (someO (negE (constE (.int 1))))) (tupE (consA (constE .none) nilA))) (consA (bin2 addD (sliceE (slotE 3) noneO (someO (negE (constE (.int 1))))) (tupE (consA (constE (.bool true)) nilA))) (consA (constE (.str "pieces")) (consA (constE (.int 0)) nilA))))))))))))) 
    (seqS (ifS (orT (cmpT isNotD (callE 1 F_are_pieces (consSlotA 3 nilA)) (constE (.bool true))) (orT (cmpT isNotD (callE 1 F_are_pieces (consA (bin2 mulD (tupE (consA (constE (.int 50)) nilA)) (constE (.int 7))) nilA)) (constE (.bool true))) (cmpT neD (lstOf (compC (seqI (froR (slotE 5))) [14] (nameG 14) (cmpT isNotD (callE 1 F_are_pieces (consSlotA 14 nilA)) (constE (.bool false))) (slotE 14))) (lstE nilA)))) (retS (pureV (constE (.bool false)))) nilS) 
    (seqS (setS 6 (pureV (rg1E .tuple (un1 lenD (slotE 3))))) 
    (seqS (setS 7 (pureV (callE 2 (F__law_loads 7) (consSlotA 6 (consSlotA 4 nilA))))) 
    (seqS (setS 8 (pureV (lstOf (compC (seqI (froR (slotE 7))) [11] (nameG 11) yesT (callE 2 F__law_both (consSlotA 3 (consSlotA 11 nilA))))))) 
    (seqS (setS 9 (pureV (callE 2 F_best_loads (consSlotA 3 (consSlotA 4 nilA))))) 
    (seqS (ifS (notT (valT (callE 2 (F__law_alike 7) (consA (lstE (consA (callE 2 F_least_span (consSlotA 3 (consSlotA 4 nilA))) (consA (callE 2 F_least_sum (consSlotA 3 (consSlotA 4 nilA))) nilA))) (consA (lstE (consA (un1 minDD (lstOf (compC (seqI (froR (slotE 8))) [15, 16] (tupG 2 (consG (nameG 15) (consG (nameG 16) nilG))) yesT (slotE 15)))) (consA (un1 minDD (lstOf (compC (seqI (froR (slotE 8))) [15, 16] (tupG 2 (consG (nameG 15) (consG (nameG 16) nilG))) yesT (slotE 16)))) nilA))) nilA))))) (retS (pureV (constE (.bool false)))) nilS) 
    (seqS (ifS (orT (cmpT isNotD (callE 3 F_are_loads (consSlotA 3 (consSlotA 4 (consSlotA 9 nilA)))) (constE (.bool true))) (orT (cmpT notInD (slotE 9) (slotE 7)) (notT (valT (callE 2 (F__law_alike 7) (consA (callE 2 F_load_sum (consSlotA 3 (consSlotA 9 nilA))) (consA (callE 2 F_least_sum (consSlotA 3 (consSlotA 4 nilA))) nilA))))))) (retS (pureV (constE (.bool false)))) nilS) 
    (seqS (forS (range1I (constE (.int 3))) (nameG 10) (seqS (setS 12 (pureV (callE 2 F__law_take (consSlotA 1 (consA (un1 lenD (slotE 7)) nilA))))) 
    (ifS (orT (cmpT isNotD (callE 3 F_are_loads (consSlotA 3 (consSlotA 4 (consA (bin2 itemD (slotE 7) (slotE 12)) nilA)))) (constE (.bool true))) (notT (valT (callE 2 (F__law_alike 7) (consA (lstE (consA (callE 2 F_load_span (consSlotA 3 (consA (bin2 itemD (slotE 7) (slotE 12)) nilA))) (consA (callE 2 F_load_sum (consSlotA 3 (consA (bin2 itemD (slotE 7) (slotE 12)) nilA))) nilA))) (consA (un1 listD (bin2 itemD (slotE 8) (slotE 12))) nilA)))))) (retS (pureV (constE (.bool false)))) nilS)) [10, 12]) 
    (seqS (setS 11 (pureV (bin2 itemD (slotE 7) (callE 2 F__law_take (consSlotA 1 (consA (un1 lenD (slotE 7)) nilA)))))) 
    (seqS (setS 5 (pureV (lstE (consA (constE .none) (consA (un1 listD (slotE 11)) (consA (bin2 addD (slotE 11) (sliceE (slotE 11) noneO (someO (constE (.int 1))))) (consA (sliceE (slotE 11) (someO (constE (.int 1))) noneO) (consA (bin2 addD (slotE 11) (tupE (consA (tupE nilA) nilA))) (consA (bin2 addD (sliceE (slotE 11) (someO (constE (.int 1))) noneO) (tupE (consA (un1 listD (bin2 itemD (slotE 11) (constE (.int 0)))) nilA))) (consA (constE (.str "loads")) (consA (constE (.int 0)) nilA))))))))))) 
    (seqS (setS 5 (pureV (bin2 addD (slotE 5) (lstOf (compC (seqI (froR (lstE (consA (constE .none) (consA (un1 lenD (slotE 3)) nilA))))) [13] (nameG 13) yesT (bin2 addD (sliceE (slotE 11) (someO (constE (.int 1))) noneO) (tupE (consA (bin2 addD (sliceE (bin2 itemD (slotE 11) (constE (.int 0))) noneO (someO (negE (constE (.int 1))))) (tupE (consA (slotE 13) nilA))) nilA)))))))) 
    (seqS (setS 5 (pureV (bin2 addD (bin2 addD (slotE 5) (bin2 mulD (lstE (consA (bin2 addD (sliceE (slotE 11) (someO (constE (.int 1))) noneO) (tupE (consA (un1 revD (bin2 itemD (slotE 11) (constE (.int 0)))) nilA))) nilA)) (un1 intD (bin2 gtD (un1 lenD (bin2 itemD (slotE 11) (constE (.int 0)))) (constE (.int 1)))))) (bin2 mulD (lstE (consA (tupE (consA (slotE 6) nilA)) nilA)) (un1 intD (bin2 gtD (un1 lenD (slotE 3)) (slotE 4))))))) 
    (retS (pureV (bin2 eqD (lstOf (compC (seqI (froR (slotE 5))) [14] (nameG 14) (cmpT isNotD (callE 3 F_are_loads (consSlotA 3 (consSlotA 4 (consSlotA 14 nilA)))) (constE (.bool false))) (slotE 14))) (lstE nilA))))))))))))))))))))
noncomputable def F_law : FSem := runF n_law.length b_law
theorem w_law (G : Facts w K mg base c) {f : Addr} {fd : FuncData} (F : L2.Fun K "law" "law" s_law f fd) : FnOk P w K mg base (L2.CX P w) 11 f fd ps_law (spD K c ps_law.length F_law) :=
  fn_ok (k := 10) (body := b_law) F sc_law fun cdv A outer s H E hr => (dss_cons (ds_set (i := 1) sc_law.nd rfl (loc_by rfl) (dv_c (dc_fn (w__law_draws G) hr (by decide) rfl takesB (da_slot (i := 0) rfl (vis_by rfl) rfl rfl da_nil rfl) rfl rfl rfl)) rfl (.inl rfl)) (dss_cons (ds_set (i := 2) sc_law.nd rfl (loc_by rfl) (dv_de (de_item (de_lst (da_cons de_int (da_cons de_int (da_cons de_int da_nil rfl) rfl) rfl)) (de_fn (w__law_take G) hr (by decide) rfl takesB (da_slot (i := 1) rfl (vis_by rfl) rfl rfl (da_cons de_int da_nil rfl) rfl) rfl rfl rfl) no_tr (fun _ _ => rfl))) rfl (.inl rfl)) (dss_cons (ds_asg2 (i := 3) (j := 4) rfl sc_law.nd rfl rfl (loc_by rfl) (loc_by rfl) (.inl rfl) (.inl rfl) (dva_cons (dv_de (e_tuple rfl G.b_tuple (de_c (dc_lc [("k", 12)] rfl sc_law.nd (di_range1 rfl G.b_range (de_bin od_add de_int (de_fn (w__law_take G) hr (by decide) rfl takesB (da_slot (i := 1) rfl (vis_by rfl) rfl rfl (da_cons de_int da_nil rfl) rfl) rfl rfl rfl)) rfl) (blkOk_by (by kernel_rfl)) (fun _ _ _ _ _ => (dg_name (i := 12) sc_law.nd rfl (loc_by rfl) (hf_by rfl))) (fun _ _ _ _ _ => dts_nil) (fun _ _ _ _ _ => (de_bin od_add de_int (de_fn (w__law_take G) hr (by decide) rfl takesW0 (da_slot (i := 1) rfl (vis_by rfl) rfl rfl (da_slot (i := 2) rfl (vis_by rfl) rfl rfl da_nil rfl) rfl) rfl rfl rfl))) (by decide) (fun _ => rfl))) rfl)) (dva_cons (dv_de (de_bin od_add de_int (de_fn (w__law_take G) hr (by decide) rfl takesB (da_slot (i := 1) rfl (vis_by rfl) rfl rfl (da_cons de_int da_nil rfl) rfl) rfl rfl rfl))) dva_nil rfl) rfl) rfl rfl rfl rfl rfl rfl rfl) (dss_cons (ds_set (i := 5) sc_law.nd rfl (loc_by rfl) (dv_de (de_lst (da_cons de_none (da_cons (de_tup da_nil) (da_cons (e_list rfl G.b_list (de_var (i := 3) rfl (vis_by rfl) rfl rfl) rfl) (da_cons (de_bin od_mul (de_tup (da_cons de_int da_nil rfl)) de_int) (da_cons (de_bin od_add (de_slice (de_var (i := 3) rfl (vis_by rfl) rfl rfl) oe_none (oe_some (de_neg de_int))) (de_tup (da_cons de_int da_nil rfl))) (da_cons (de_bin od_add (de_slice (de_var (i := 3) rfl (vis_by rfl) rfl rfl) oe_none (oe_some (de_neg de_int))) (de_tup (da_cons de_int da_nil rfl))) (da_cons (de_bin od_add (de_slice (de_var (i := 3) rfl (vis_by rfl) rfl rfl) oe_none (oe_some (de_neg de_int))) (de_tup (da_cons de_none da_nil rfl))) (da_cons (de_bin od_add (de_slice (de_var (i := 3) rfl (vis_by rfl) rfl rfl) oe_none (oe_some (de_neg de_int))) (de_tup (da_cons de_bool da_nil rfl))) (da_cons de_str (da_cons de_int da_nil rfl) rfl) rfl) rfl) rfl) rfl) rfl) rfl) rfl) rfl))) rfl (.inl rfl)) (dss_cons (ds_if (DW.dt (dw_or (dt_cmp od_isNot rfl (de_fn (w_are_pieces G) hr (by decide) rfl takesB (da_slot (i := 3) rfl (vis_by rfl) rfl rfl da_nil rfl) rfl rfl rfl) de_bool no_tr) (dw_or (dt_cmp od_isNot rfl (de_fn (w_are_pieces G) hr (by decide) rfl takesB (da_cons (de_bin od_mul (de_tup (da_cons de_int da_nil rfl)) de_int) da_nil rfl) rfl rfl rfl) de_bool no_tr) (dw_or1 (dt_cmp (od_ne (Room.units hr)) rfl (de_c (dc_lc [("value", 14)] rfl sc_law.nd (di_seq (dr_fro (de_var (i := 5) rfl (vis_by rfl) rfl rfl))) (blkOk_by (by kernel_rfl)) (fun _ _ _ _ _ => (dg_name (i := 14) sc_law.nd rfl (loc_by rfl) (hf_by rfl))) (fun _ _ _ _ _ => (dts_one (dt_cmp od_isNot rfl (de_fn (w_are_pieces G) hr (by decide) rfl takesW0 (da_slot (i := 14) rfl (vis_by rfl) rfl rfl da_nil rfl) rfl rfl rfl) de_bool no_tr))) (fun _ _ _ _ _ => (de_var (i := 14) rfl (vis_by rfl) rfl rfl)) (by decide) (fun _ => rfl))) (de_lst da_nil) no_tr))))) (dss_one (ds_ret (dv_de de_bool))) dss_nil) (dss_cons (ds_set (i := 6) sc_law.nd rfl (loc_by rfl) (dv_de (de_tupRg1 rfl rfl G.b_tuple rfl G.b_range (e_len rfl G.b_len (de_var (i := 3) rfl (vis_by rfl) rfl rfl) rfl) rfl rfl)) rfl (.inl rfl)) (dss_cons (ds_set (i := 7) sc_law.nd rfl (loc_by rfl) (dv_de (de_fn (w__law_loads G 7) hr (by decide) rfl takesB (da_slot (i := 6) rfl (vis_by rfl) rfl rfl (da_slot (i := 4) rfl (vis_by rfl) rfl rfl da_nil rfl) rfl) rfl rfl rfl)) rfl (.inl rfl)) (dss_cons (ds_setLc (i := 8) [("loads", 11)] rfl sc_law.nd rfl rfl (sw_true rfl rfl rfl rfl) (di_seq (dr_fro (de_var (i := 7) rfl (vis_by rfl) rfl rfl))) (blkOk_by (by kernel_rfl)) (fun _ _ _ _ _ => (dg_name (i := 11) sc_law.nd rfl (loc_by rfl) (hf_by rfl))) (fun _ _ _ _ _ => dts_nil) (fun _ _ _ _ _ => (de_fn (w__law_both G) hr (by decide) rfl takesW0 (da_slot (i := 3) rfl (vis_by rfl) rfl rfl (da_slot (i := 11) rfl (vis_by rfl) rfl rfl da_nil rfl) rfl) rfl rfl rfl)) (by decide) (fun _ => rfl) (fun B as σ H s Q sr hw => wants_pure sr hw)) (dss_cons (ds_set (i := 9) sc_law.nd rfl (loc_by rfl) (dv_de (de_fn (w_best_loads G) hr (by decide) rfl takesB (da_slot (i := 3) rfl (vis_by rfl) rfl rfl (da_slot (i := 4) rfl (vis_by rfl) rfl rfl da_nil rfl) rfl) rfl rfl rfl)) rfl (.inl rfl)) (dss_cons (ds_if (dt_not (dt_val (de_fn (w__law_alike G 7) hr (by decide) rfl takesB (da_cons (de_lst (da_cons (de_fn (w_least_span G) hr (by decide) rfl takesB (da_slot (i := 3) rfl (vis_by rfl) rfl rfl (da_slot (i := 4) rfl (vis_by rfl) rfl rfl da_nil rfl) rfl) rfl rfl rfl) (da_cons (de_fn (w_least_sum G) hr (by decide) rfl takesB (da_slot (i := 3) rfl (vis_by rfl) rfl rfl (da_slot (i := 4) rfl (vis_by rfl) rfl rfl da_nil rfl) rfl) rfl rfl rfl) da_nil rfl) rfl)) (da_cons (de_lst (da_cons (e_min rfl (Room.units hr) rfl G.b_min (de_c (dc_lc [("end", 15), ("whole", 16)] rfl sc_law.nd (di_seq (dr_fro (de_var (i := 8) rfl (vis_by rfl) rfl rfl))) (blkOk_by (by kernel_rfl)) (fun _ _ _ _ _ => (dg_tup rfl (dgs_cons (dg_name (i := 15) sc_law.nd rfl (loc_by rfl) (hf_by rfl)) (dgs_cons (dg_name (i := 16) sc_law.nd rfl (loc_by rfl) (hf_by rfl)) dgs_nil rfl) rfl) rfl rfl)) (fun _ _ _ _ _ => dts_nil) (fun _ _ _ _ _ => (de_var (i := 15) rfl (vis_by rfl) rfl rfl)) (by decide) (fun _ => rfl))) rfl) (da_cons (e_min rfl (Room.units hr) rfl G.b_min (de_c (dc_lc [("end", 15), ("whole", 16)] rfl sc_law.nd (di_seq (dr_fro (de_var (i := 8) rfl (vis_by rfl) rfl rfl))) (blkOk_by (by kernel_rfl)) (fun _ _ _ _ _ => (dg_tup rfl (dgs_cons (dg_name (i := 15) sc_law.nd rfl (loc_by rfl) (hf_by rfl)) (dgs_cons (dg_name (i := 16) sc_law.nd rfl (loc_by rfl) (hf_by rfl)) dgs_nil rfl) rfl) rfl rfl)) (fun _ _ _ _ _ => dts_nil) (fun _ _ _ _ _ => (de_var (i := 16) rfl (vis_by rfl) rfl rfl)) (by decide) (fun _ => rfl))) rfl) da_nil rfl) rfl)) da_nil rfl) rfl) rfl rfl rfl) (fun _ => rfl))) (dss_one (ds_ret (dv_de de_bool))) dss_nil) (dss_cons (ds_if (DW.dt (dw_or (dt_cmp od_isNot rfl (de_fn (w_are_loads G) hr (by decide) rfl takesB (da_slot (i := 3) rfl (vis_by rfl) rfl rfl (da_slot (i := 4) rfl (vis_by rfl) rfl rfl (da_slot (i := 9) rfl (vis_by rfl) rfl rfl da_nil rfl) rfl) rfl) rfl rfl rfl) de_bool no_tr) (dw_or (dt_cmp (od_notIn (Room.units hr)) rfl (de_var (i := 9) rfl (vis_by rfl) rfl rfl) (de_var (i := 7) rfl (vis_by rfl) rfl rfl) no_tr) (dw_or1 (dt_not (dt_val (de_fn (w__law_alike G 7) hr (by decide) rfl takesB (da_cons (de_fn (w_load_sum G) hr (by decide) rfl takesB (da_slot (i := 3) rfl (vis_by rfl) rfl rfl (da_slot (i := 9) rfl (vis_by rfl) rfl rfl da_nil rfl) rfl) rfl rfl rfl) (da_cons (de_fn (w_least_sum G) hr (by decide) rfl takesB (da_slot (i := 3) rfl (vis_by rfl) rfl rfl (da_slot (i := 4) rfl (vis_by rfl) rfl rfl da_nil rfl) rfl) rfl rfl rfl) da_nil rfl) rfl) rfl rfl rfl) (fun _ => rfl))))))) (dss_one (ds_ret (dv_de de_bool))) dss_nil) (dss_cons (ds_for [10, 12] passesB rfl (di_range1 rfl G.b_range de_int rfl) (dg_name (i := 10) sc_law.nd rfl (loc_by rfl) (.inl rfl)) (dss_cons (ds_set (i := 12) sc_law.nd rfl (loc_by rfl) (dv_de (de_fn (w__law_take G) hr (by decide) rfl takesB (da_slot (i := 1) rfl (vis_by rfl) rfl rfl (da_cons (e_len rfl G.b_len (de_var (i := 7) rfl (vis_by rfl) rfl rfl) rfl) da_nil rfl) rfl) rfl rfl rfl)) rfl (.inl rfl)) (dss_one (ds_if (DW.dt (dw_or (dt_cmp od_isNot rfl (de_fn (w_are_loads G) hr (by decide) rfl takesB (da_slot (i := 3) rfl (vis_by rfl) rfl rfl (da_slot (i := 4) rfl (vis_by rfl) rfl rfl (da_cons (de_item (de_var (i := 7) rfl (vis_by rfl) rfl rfl) (de_var (i := 12) rfl (vis_by rfl) rfl rfl) no_tr (fun _ _ => rfl)) da_nil rfl) rfl) rfl) rfl rfl rfl) de_bool no_tr) (dw_or1 (dt_not (dt_val (de_fn (w__law_alike G 7) hr (by decide) rfl takesB (da_cons (de_lst (da_cons (de_fn (w_load_span G) hr (by decide) rfl takesB (da_slot (i := 3) rfl (vis_by rfl) rfl rfl (da_cons (de_item (de_var (i := 7) rfl (vis_by rfl) rfl rfl) (de_var (i := 12) rfl (vis_by rfl) rfl rfl) no_tr (fun _ _ => rfl)) da_nil rfl) rfl) rfl rfl rfl) (da_cons (de_fn (w_load_sum G) hr (by decide) rfl takesB (da_slot (i := 3) rfl (vis_by rfl) rfl rfl (da_cons (de_item (de_var (i := 7) rfl (vis_by rfl) rfl rfl) (de_var (i := 12) rfl (vis_by rfl) rfl rfl) no_tr (fun _ _ => rfl)) da_nil rfl) rfl) rfl rfl rfl) da_nil rfl) rfl)) (da_cons (e_list rfl G.b_list (de_item (de_var (i := 8) rfl (vis_by rfl) rfl rfl) (de_var (i := 12) rfl (vis_by rfl) rfl rfl) no_tr (fun _ _ => rfl)) rfl) da_nil rfl) rfl) rfl rfl rfl) (fun _ => rfl)))))) (dss_one (ds_ret (dv_de de_bool))) dss_nil))) (fun _ => rfl)) (dss_cons (ds_set (i := 11) sc_law.nd rfl (loc_by rfl) (dv_de (de_item (de_var (i := 7) rfl (vis_by rfl) rfl rfl) (de_fn (w__law_take G) hr (by decide) rfl takesB (da_slot (i := 1) rfl (vis_by rfl) rfl rfl (da_cons (e_len rfl G.b_len (de_var (i := 7) rfl (vis_by rfl) rfl rfl) rfl) da_nil rfl) rfl) rfl rfl rfl) no_tr (fun _ _ => rfl))) rfl (.inl rfl)) (dss_cons (ds_set (i := 5) sc_law.nd rfl (loc_by rfl) (dv_de (de_lst (da_cons de_none (da_cons (e_list rfl G.b_list (de_var (i := 11) rfl (vis_by rfl) rfl rfl) rfl) (da_cons (de_bin od_add (de_var (i := 11) rfl (vis_by rfl) rfl rfl) (de_slice (de_var (i := 11) rfl (vis_by rfl) rfl rfl) oe_none (oe_some de_int))) (da_cons (de_slice (de_var (i := 11) rfl (vis_by rfl) rfl rfl) (oe_some de_int) oe_none) (da_cons (de_bin od_add (de_var (i := 11) rfl (vis_by rfl) rfl rfl) (de_tup (da_cons (de_tup da_nil) da_nil rfl))) (da_cons (de_bin od_add (de_slice (de_var (i := 11) rfl (vis_by rfl) rfl rfl) (oe_some de_int) oe_none) (de_tup (da_cons (e_list rfl G.b_list (de_item (de_var (i := 11) rfl (vis_by rfl) rfl rfl) de_int no_tr (fun _ _ => rfl)) rfl) da_nil rfl))) (da_cons de_str (da_cons de_int da_nil rfl) rfl) rfl) rfl) rfl) rfl) rfl) rfl))) rfl (.inl rfl)) (dss_cons (ds_set (i := 5) sc_law.nd rfl (loc_by rfl) (dv_de (de_bin od_add (de_var (i := 5) rfl (vis_by rfl) rfl rfl) (de_c (dc_lc [("one", 13)] rfl sc_law.nd (di_seq (dr_fro (de_lst (da_cons de_none (da_cons (e_len rfl G.b_len (de_var (i := 3) rfl (vis_by rfl) rfl rfl) rfl) da_nil rfl) rfl)))) (blkOk_by (by kernel_rfl)) (fun _ _ _ _ _ => (dg_name (i := 13) sc_law.nd rfl (loc_by rfl) (hf_by rfl))) (fun _ _ _ _ _ => dts_nil) (fun _ _ _ _ _ => (de_bin od_add (de_slice (de_var (i := 11) rfl (vis_by rfl) rfl rfl) (oe_some de_int) oe_none) (de_tup (da_cons (de_bin od_add (de_slice (de_item (de_var (i := 11) rfl (vis_by rfl) rfl rfl) de_int no_tr (fun _ _ => rfl)) oe_none (oe_some (de_neg de_int))) (de_tup (da_cons (de_var (i := 13) rfl (vis_by rfl) rfl rfl) da_nil rfl))) da_nil rfl)))) (by decide) (fun _ => rfl))))) rfl (.inl rfl)) (dss_cons (ds_set (i := 5) sc_law.nd rfl (loc_by rfl) (dv_de (de_bin od_add (de_bin od_add (de_var (i := 5) rfl (vis_by rfl) rfl rfl) (de_bin od_mul (de_lst (da_cons (de_bin od_add (de_slice (de_var (i := 11) rfl (vis_by rfl) rfl rfl) (oe_some de_int) oe_none) (de_tup (da_cons (de_rev (de_item (de_var (i := 11) rfl (vis_by rfl) rfl rfl) de_int no_tr (fun _ _ => rfl))) da_nil rfl))) da_nil rfl)) (e_int rfl G.b_int (de_cmp (od_gt (Room.units hr)) rfl (e_len rfl G.b_len (de_item (de_var (i := 11) rfl (vis_by rfl) rfl rfl) de_int no_tr (fun _ _ => rfl)) rfl) de_int no_tr) rfl))) (de_bin od_mul (de_lst (da_cons (de_tup (da_cons (de_var (i := 6) rfl (vis_by rfl) rfl rfl) da_nil rfl)) da_nil rfl)) (e_int rfl G.b_int (de_cmp (od_gt (Room.units hr)) rfl (e_len rfl G.b_len (de_var (i := 3) rfl (vis_by rfl) rfl rfl) rfl) (de_var (i := 4) rfl (vis_by rfl) rfl rfl) no_tr) rfl)))) rfl (.inl rfl)) (dss_one (ds_ret (dv_de (de_cmp (od_eq (Room.units hr)) rfl (de_c (dc_lc [("value", 14)] rfl sc_law.nd (di_seq (dr_fro (de_var (i := 5) rfl (vis_by rfl) rfl rfl))) (blkOk_by (by kernel_rfl)) (fun _ _ _ _ _ => (dg_name (i := 14) sc_law.nd rfl (loc_by rfl) (hf_by rfl))) (fun _ _ _ _ _ => (dts_one (dt_cmp od_isNot rfl (de_fn (w_are_loads G) hr (by decide) rfl takesW0 (da_slot (i := 3) rfl (vis_by rfl) rfl rfl (da_slot (i := 4) rfl (vis_by rfl) rfl rfl (da_slot (i := 14) rfl (vis_by rfl) rfl rfl da_nil rfl) rfl) rfl) rfl rfl rfl) de_bool no_tr))) (fun _ _ _ _ _ => (de_var (i := 14) rfl (vis_by rfl) rfl rfl)) (by decide) (fun _ => rfl))) (de_lst da_nil) no_tr))))))))))))))))))))
end
end Lk70
end
section
set_option Elab.async false
set_option linter.all false
set_option maxRecDepth 100000
/-! k70: loads, in plain Lean. -/
namespace Lk70
/-! ### the greatest -/
def mx : List Nat → Nat
  | [] => 0
  | a :: l => max a (mx l)
theorem le_mx {l : List Nat} {a : Nat} : a ∈ l → a ≤ mx l := by
  induction l with
  | nil => intro h; cases h
  | cons b l ih =>
    intro h
    simp only [mx]
    rcases List.mem_cons.mp h with rfl | h
    · omega
    · have := ih h; omega
theorem mx_mem : ∀ {l : List Nat}, l ≠ [] → mx l ∈ l
  | [a], _ => by simp [mx]
  | a :: b :: l, _ => by
    have ih := mx_mem (l := b :: l) (by simp)
    simp only [mx] at ih ⊢
    by_cases h : a ≤ max b (mx l)
    · rw [Nat.max_eq_right h]; exact List.mem_cons_of_mem _ ih
    · rw [Nat.max_eq_left (by omega)]; exact List.mem_cons_self
theorem mx_eq {l : List Nat} {m : Nat} (h : m ∈ l) (hm : ∀ y ∈ l, y ≤ m) : mx l = m := by
  have h1 := le_mx h
  have h2 := hm _ (mx_mem (List.ne_nil_of_mem h))
  omega
/-! ### Smith's rule -/
section
variable {α : Type} (T n : α → Nat)
def cst : Nat → List α → Nat
  | _, [] => 0
  | e, l :: L => (e + T l) * n l + cst (e + T l) L
theorem cst_swap {x y : α} (h : T x * n y ≤ T y * n x) (e : Nat) (L : List α) : cst T n e (x :: y :: L) ≤ cst T n e (y :: x :: L) := by
  simp only [cst]
  rw [Nat.add_right_comm e (T y) (T x)]
  simp only [Nat.add_mul]
  omega
theorem cst_move {x : α} : ∀ {A : List α} (e : Nat) (B : List α), (∀ a ∈ A, T a * n x ≤ T x * n a) → cst T n e (A ++ x :: B) ≤ cst T n e (x :: (A ++ B))
  | [], e, B, _ => Nat.le_refl _
  | a :: A, e, B, h => by
    have ih := cst_move (A := A) (e + T a) B fun b hb => h b (List.mem_cons_of_mem _ hb)
    refine Nat.le_trans ?_ (cst_swap T n (h a List.mem_cons_self) e (A ++ B))
    show cst T n e (a :: (A ++ x :: B)) ≤ cst T n e (a :: x :: (A ++ B))
    rw [cst, cst]
    omega
theorem cst_least : ∀ (L : List α) {S : List α} (e : Nat), S.Pairwise (fun a b => T a * n b ≤ T b * n a) → S.Perm L → cst T n e S ≤ cst T n e L
  | [], S, e, _, h => by rw [h.eq_nil]; exact Nat.le_refl _
  | x :: L, S, e, hs, h => by
    have hx : x ∈ S := h.mem_iff.mpr List.mem_cons_self
    obtain ⟨A, B, rfl⟩ := List.append_of_mem hx
    have hp : (A ++ B).Perm L := by
      have := (List.perm_middle (a := x) (l₁ := A) (l₂ := B)).symm.trans h
      exact this.cons_inv
    rw [List.pairwise_append] at hs
    obtain ⟨h1, h2, h3⟩ := hs
    have hs' : (A ++ B).Pairwise (fun a b => T a * n b ≤ T b * n a) := List.pairwise_append.mpr ⟨h1, (List.pairwise_cons.mp h2).2, fun a ha b hb => h3 a ha b (List.mem_cons_of_mem _ hb)⟩
    have ih := cst_least L (e + T x) hs' hp
    refine Nat.le_trans (cst_move T n e B fun a ha => h3 a ha x List.mem_cons_self) ?_
    rw [cst, cst]
    omega
end
/-! ### ways to part -/
def OkP (w : Nat) (left : List Nat) (P : List (List Nat)) : Prop := (∀ l ∈ P, l ≠ [] ∧ l.length ≤ w ∧ l.Pairwise (· < ·)) ∧ P.flatten.Perm left
theorem OkP.perm {w : Nat} {left : List Nat} {P Q : List (List Nat)} (h : OkP w left P) (hp : Q.Perm P) : OkP w left Q := ⟨fun l hl => h.1 l (hp.mem_iff.mp hl), hp.flatten.trans h.2⟩
theorem asc_nodup {l : List Nat} (h : l.Pairwise (· < ·)) : l.Nodup := h.imp fun z => Nat.ne_of_lt z
/-- an ascending list within an ascending list -/
theorem asc_sub : ∀ {l m : List Nat}, l.Pairwise (· < ·) → m.Pairwise (· < ·) → (∀ x ∈ l, x ∈ m) → l.Sublist m
  | [], m, _, _, _ => List.nil_sublist _
  | a :: l, [], _, _, h => by cases h a List.mem_cons_self
  | a :: l, b :: m, h1, h2, h => by
    have h1' := List.pairwise_cons.mp h1
    have h2' := List.pairwise_cons.mp h2
    by_cases e : a = b
    · subst e
      refine .cons_cons _ (asc_sub h1'.2 h2'.2 fun x hx => ?_)
      rcases List.mem_cons.mp (h x (List.mem_cons_of_mem _ hx)) with z | z
      · have := h1'.1 x hx; omega
      · exact z
    · refine .cons _ (asc_sub h1 h2'.2 fun x hx => ?_)
      rcases List.mem_cons.mp (h x hx) with z | z
      · exfalso
        subst z
        rcases List.mem_cons.mp (h a List.mem_cons_self) with y | y
        · exact e y
        · have h3 := h2'.1 a y
          rcases List.mem_cons.mp hx with q | q
          · omega
          · have := h1'.1 x q; omega
      · exact z
def less (left l : List Nat) : List Nat := left.filter fun x => !decide (x ∈ l)
theorem less_perm {left l : List Nat} (nd : left.Nodup) (nl : l.Nodup) (h : ∀ x ∈ l, x ∈ left) : (l ++ less left l).Perm left := by
  have h1 : l.Perm (left.filter fun x => decide (x ∈ l)) := by
    rw [List.perm_ext_iff_of_nodup nl (nd.filter _)]
    intro x
    rw [List.mem_filter, decide_eq_true_eq]
    exact ⟨fun z => ⟨h x z, z⟩, fun z => z.2⟩
  refine (h1.append_right _).trans ?_
  exact List.filter_append_perm _ _
theorem less_asc {left l : List Nat} (h : left.Pairwise (· < ·)) : (less left l).Pairwise (· < ·) := h.filter _
theorem less_len {left l : List Nat} (nd : left.Nodup) (nl : l.Nodup) (h : ∀ x ∈ l, x ∈ left) (hl : l ≠ []) : (less left l).length + 1 ≤ left.length := by
  have := (less_perm nd nl h).length_eq
  rw [List.length_append] at this
  have := List.length_pos_iff.mpr hl
  omega
theorem okP_nil {w : Nat} {left : List Nat} : OkP w left [] ↔ left = [] := ⟨fun h => h.2.symm.eq_nil, fun h => by subst h; exact ⟨fun l hl => (by cases hl), List.Perm.refl _⟩⟩
theorem okP_cons {w : Nat} {left l : List Nat} {P : List (List Nat)} (asc : left.Pairwise (· < ·)) : OkP w left (l :: P) ↔ (l ≠ [] ∧ l.length ≤ w ∧ l.Sublist left) ∧ OkP w (less left l) P := by
  constructor
  · rintro ⟨h1, h2⟩
    obtain ⟨a1, a2, a3⟩ := h1 l List.mem_cons_self
    rw [List.flatten_cons] at h2
    have hs : ∀ x ∈ l, x ∈ left := fun x hx => h2.mem_iff.mp (List.mem_append_left _ hx)
    refine ⟨⟨a1, a2, asc_sub a3 asc hs⟩, fun m hm => h1 m (List.mem_cons_of_mem _ hm), ?_⟩
    exact (List.perm_append_left_iff l).mp (h2.trans (less_perm (asc_nodup asc) (asc_nodup a3) hs).symm)
  · rintro ⟨⟨a1, a2, a3⟩, h1, h2⟩
    have al : l.Pairwise (· < ·) := List.Pairwise.sublist a3 asc
    refine ⟨fun m hm => ?_, ?_⟩
    · rcases List.mem_cons.mp hm with rfl | hm
      · exact ⟨a1, a2, al⟩
      · exact h1 m hm
    · rw [List.flatten_cons]
      exact (h2.append_left l).trans (less_perm (asc_nodup asc) (asc_nodup al) fun x hx => a3.subset hx)
/-! ### the law's rows -/
def setsL (items : List Nat) : List (List Nat) := items.foldl (fun found it => found ++ found.map fun one => one ++ [it]) [[]]
theorem mem_sets {items s : List Nat} : s ∈ setsL items ↔ s.Sublist items := by
  have key : ∀ (items : List Nat) (F : List (List Nat)) (s : List Nat), s ∈ items.foldl (fun found it => found ++ found.map fun one => one ++ [it]) F ↔ ∃ a b, a ∈ F ∧ b.Sublist items ∧ s = a ++ b := by
    intro items
    induction items with
    | nil => intro F s; simp
    | cons x items ih =>
      intro F s
      rw [List.foldl_cons, ih]
      constructor
      · rintro ⟨a, b, ha, hb, rfl⟩
        rcases List.mem_append.mp ha with z | z
        · exact ⟨a, b, z, .cons _ hb, rfl⟩
        · obtain ⟨a', y, rfl⟩ := List.mem_map.mp z
          exact ⟨a', x :: b, y, .cons_cons _ hb, by simp⟩
      · rintro ⟨a, b, ha, hb, rfl⟩
        cases hb with
        | cons _ hb => exact ⟨a, b, List.mem_append_left _ ha, hb, rfl⟩
        | cons_cons _ hb => exact ⟨a ++ [x], _, List.mem_append_right _ (List.mem_map.mpr ⟨a, ha, rfl⟩), hb, by simp⟩
  rw [setsL, key]
  simp
def rowsL (w : Nat) : Nat → List Nat → List (List (List Nat))
  | 0, _ => []
  | d + 1, left => if left = [] then [[]] else (setsL left).foldl (fun found some => if 0 < some.length ∧ some.length ≤ w then found ++ (rowsL w d (less left some)).map fun more => some :: more else found) []
theorem mem_fold {α β : Type} (p : β → Bool) (g : β → List α) : ∀ (bs : List β) (F : List α) (x : α), x ∈ bs.foldl (fun found b => if p b = true then found ++ g b else found) F ↔ x ∈ F ∨ ∃ b ∈ bs, p b = true ∧ x ∈ g b
  | [], F, x => by simp
  | b :: bs, F, x => by
    rw [List.foldl_cons, mem_fold p g bs]
    by_cases h : p b = true
    · rw [if_pos h, List.mem_append]
      constructor
      · rintro ((z | z) | ⟨c, hc, z⟩)
        · exact .inl z
        · exact .inr ⟨b, List.mem_cons_self, h, z⟩
        · exact .inr ⟨c, List.mem_cons_of_mem _ hc, z⟩
      · rintro (z | ⟨c, hc, z⟩)
        · exact .inl (.inl z)
        · rcases List.mem_cons.mp hc with rfl | hc
          · exact .inl (.inr z.2)
          · exact .inr ⟨c, hc, z⟩
    · rw [if_neg h]
      constructor
      · rintro (z | ⟨c, hc, z⟩)
        · exact .inl z
        · exact .inr ⟨c, List.mem_cons_of_mem _ hc, z⟩
      · rintro (z | ⟨c, hc, z⟩)
        · exact .inl z
        · rcases List.mem_cons.mp hc with rfl | hc
          · exact absurd z.1 h
          · exact .inr ⟨c, hc, z⟩
theorem mem_rows {w : Nat} : ∀ {d : Nat} {left : List Nat} {P : List (List Nat)}, left.Pairwise (· < ·) → left.length < d → (P ∈ rowsL w d left ↔ OkP w left P)
  | 0, _, _, _, h => absurd h (Nat.not_lt_zero _)
  | d + 1, left, P, asc, h => by
    unfold rowsL
    by_cases e : left = []
    · subst e
      rw [if_pos rfl, List.mem_singleton]
      constructor
      · rintro rfl
        exact okP_nil.mpr rfl
      · intro o
        cases P with
        | nil => rfl
        | cons l P =>
          obtain ⟨⟨a1, _, a3⟩, _⟩ := (okP_cons asc).mp o
          exact absurd (List.sublist_nil.mp a3) a1
    · rw [if_neg e]
      have conv : (setsL left).foldl (fun found some => if 0 < some.length ∧ some.length ≤ w then found ++ (rowsL w d (less left some)).map fun more => some :: more else found) [] = (setsL left).foldl (fun found some => if (decide (0 < some.length) && decide (some.length ≤ w)) = true then found ++ (rowsL w d (less left some)).map fun more => some :: more else found) [] := by
        congr 1
        funext found some
        simp
      rw [conv, mem_fold (fun some => decide (0 < some.length) && decide (some.length ≤ w)) fun some => (rowsL w d (less left some)).map fun more => some :: more]
      have sub : ∀ {l : List Nat}, l.Sublist left → l ≠ [] → (less left l).length < d := fun {l} hs hl => by
        have := less_len (asc_nodup asc) (asc_nodup (List.Pairwise.sublist hs asc)) (fun x hx => hs.subset hx) hl
        omega
      constructor
      · rintro (z | ⟨l, hl, hc, hm⟩)
        · cases z
        · obtain ⟨Q, hQ, rfl⟩ := List.mem_map.mp hm
          simp only [Bool.and_eq_true, decide_eq_true_eq] at hc
          have hs := mem_sets.mp hl
          have hn : l ≠ [] := List.length_pos_iff.mp hc.1
          exact (okP_cons asc).mpr ⟨⟨hn, hc.2, hs⟩, (mem_rows (less_asc asc) (sub hs hn)).mp hQ⟩
      · intro o
        cases P with
        | nil => exact absurd (okP_nil.mp o) e
        | cons l P =>
          obtain ⟨⟨a1, a2, a3⟩, o⟩ := (okP_cons asc).mp o
          refine .inr ⟨l, mem_sets.mpr a3, ?_, List.mem_map.mpr ⟨P, (mem_rows (less_asc asc) (sub a3 a1)).mpr o, rfl⟩⟩
          simp only [Bool.and_eq_true, decide_eq_true_eq]
          exact ⟨List.length_pos_iff.mpr a1, a2⟩
/-! ### the program's ways to part -/
def withL (w first : Nat) (others : List Nat) : List (List Nat) := others.foldl (fun found one => found ++ (found.filter fun load => decide (load.length < w)).map fun load => load ++ [one]) [[first]]
theorem mem_with {w first : Nat} {others l : List Nat} (hw : 1 ≤ w) : l ∈ withL w first others ↔ ∃ s, s.Sublist others ∧ l = first :: s ∧ l.length ≤ w := by
  have key : ∀ (others : List Nat) (F : List (List Nat)) (s : List Nat), (∀ a ∈ F, a.length ≤ w) → (s ∈ others.foldl (fun found one => found ++ (found.filter fun load => decide (load.length < w)).map fun load => load ++ [one]) F ↔ ∃ a b, a ∈ F ∧ b.Sublist others ∧ s = a ++ b ∧ s.length ≤ w) := by
    intro others
    induction others with
    | nil =>
      intro F s hF
      constructor
      · intro h; exact ⟨s, [], h, .slnil, by simp, hF s h⟩
      · rintro ⟨a, b, ha, hb, rfl, _⟩
        rw [List.sublist_nil.mp hb, List.append_nil]; exact ha
    | cons x others ih =>
      intro F s hF
      rw [List.foldl_cons, ih]
      · constructor
        · rintro ⟨a, b, ha, hb, rfl, hl⟩
          rcases List.mem_append.mp ha with z | z
          · exact ⟨a, b, z, .cons _ hb, rfl, hl⟩
          · obtain ⟨a', y, rfl⟩ := List.mem_map.mp z
            exact ⟨a', x :: b, (List.mem_filter.mp y).1, .cons_cons _ hb, by simp, hl⟩
        · rintro ⟨a, b, ha, hb, rfl, hl⟩
          cases hb with
          | cons _ hb => exact ⟨a, b, List.mem_append_left _ ha, hb, rfl, hl⟩
          | cons_cons _ hb =>
            refine ⟨a ++ [x], _, List.mem_append_right _ (List.mem_map.mpr ⟨a, List.mem_filter.mpr ⟨ha, ?_⟩, rfl⟩), hb, by simp, hl⟩
            rw [List.length_append, List.length_cons] at hl
            simp only [decide_eq_true_eq]
            omega
      · intro a ha
        rcases List.mem_append.mp ha with z | z
        · exact hF a z
        · obtain ⟨a', y, rfl⟩ := List.mem_map.mp z
          have := (List.mem_filter.mp y).2
          simp only [decide_eq_true_eq] at this
          simp; omega
  rw [withL, key]
  · constructor
    · rintro ⟨a, b, ha, hb, rfl, hl⟩
      rw [List.mem_singleton.mp ha] at hl ⊢
      exact ⟨b, hb, rfl, hl⟩
    · rintro ⟨s, hs, rfl, hl⟩
      exact ⟨[first], s, List.mem_singleton.mpr rfl, hs, rfl, hl⟩
  · intro a ha
    rw [List.mem_singleton.mp ha]; exact hw
def partL (w : Nat) : Nat → List Nat → List (List (List Nat))
  | 0, _ => []
  | _ + 1, [] => [[]]
  | d + 1, f :: others => (withL w f others).flatMap fun load => (partL w d (less (f :: others) load)).map fun more => load :: more
theorem part_ok {w : Nat} (hw : 1 ≤ w) : ∀ {d : Nat} {left : List Nat} {P : List (List Nat)}, left.Pairwise (· < ·) → P ∈ partL w d left → OkP w left P
  | 0, _, _, _, h => by cases h
  | d + 1, [], P, asc, h => by
    rw [partL, List.mem_singleton] at h
    subst h
    exact okP_nil.mpr rfl
  | d + 1, f :: others, P, asc, h => by
    rw [partL, List.mem_flatMap] at h
    obtain ⟨l, hl, h⟩ := h
    obtain ⟨Q, hQ, rfl⟩ := List.mem_map.mp h
    obtain ⟨s, hs, rfl, hlen⟩ := (mem_with hw).mp hl
    exact (okP_cons asc).mpr ⟨⟨by simp, hlen, .cons_cons _ hs⟩, part_ok hw (less_asc asc) hQ⟩
theorem part_all {w : Nat} (hw : 1 ≤ w) : ∀ {d : Nat} {left : List Nat} {P : List (List Nat)}, left.Pairwise (· < ·) → left.length < d → OkP w left P → ∃ Q ∈ partL w d left, Q.Perm P
  | 0, _, _, _, h, _ => absurd h (Nat.not_lt_zero _)
  | d + 1, [], P, asc, h, o => by
    refine ⟨[], by rw [partL]; exact List.mem_singleton.mpr rfl, ?_⟩
    cases P with
    | nil => exact .refl _
    | cons l P =>
      obtain ⟨⟨a1, _, a3⟩, _⟩ := (okP_cons asc).mp o
      exact absurd (List.sublist_nil.mp a3) a1
  | d + 1, f :: others, P, asc, h, o => by
    have hf : f ∈ P.flatten := o.2.mem_iff.mpr List.mem_cons_self
    obtain ⟨l, hl, hfl⟩ := List.mem_flatten.mp hf
    have hp := List.perm_cons_erase hl
    have o2 := o.perm hp.symm
    obtain ⟨⟨a1, a2, a3⟩, o3⟩ := (okP_cons asc).mp o2
    have asc' := List.pairwise_cons.mp asc
    obtain ⟨s, hs, rfl⟩ : ∃ s, s.Sublist others ∧ l = f :: s := by
      cases a3 with
      | cons _ a3 => have := asc'.1 f (a3.subset hfl); omega
      | cons_cons _ a3 => exact ⟨_, a3, rfl⟩
    have hsub : (f :: s).Sublist (f :: others) := .cons_cons _ hs
    have hlt := less_len (asc_nodup asc) (asc_nodup (List.Pairwise.sublist hsub asc)) (fun x hx => hsub.subset hx) (by simp)
    obtain ⟨Q, hQ, hQp⟩ := part_all hw (d := d) (less_asc asc) (by omega) o3
    refine ⟨(f :: s) :: Q, ?_, (hQp.cons _).trans hp.symm⟩
    rw [partL, List.mem_flatMap]
    exact ⟨f :: s, (mem_with hw).mpr ⟨s, hs, rfl, a2⟩, List.mem_map.mpr ⟨Q, hQ, rfl⟩⟩
end Lk70
end
section
set_option Elab.async false
set_option linter.all false
set_option maxRecDepth 100000
/-! k70: the least span, in plain Lean. -/
namespace Lk70
def tm (ts : List Nat) (i : Nat) : Nat := ts.getD i 0
def tOf (ts : List Nat) (l : List Nat) : Nat := mx (l.map (tm ts))
def strd (w : Nat) : Nat → List Nat → Nat
  | 0, _ => 0
  | k + 1, D => D.getD 0 0 + strd w k (D.drop w)
theorem strd_sum (w : Nat) : ∀ (k : Nat) (D : List Nat), ((List.range k).map fun i => D.getD (i * w) 0).sum = strd w k D
  | 0, D => rfl
  | k + 1, D => by
    rw [List.range_succ_eq_map, List.map_cons, List.sum_cons, List.map_map, strd, ← strd_sum w k (D.drop w)]
    congr 1
    · simp
    · congr 1
      apply List.map_congr_left
      intro i _
      simp only [Function.comp, List.getD_eq_getElem?_getD, List.getElem?_drop]
      congr 2
      rw [Nat.succ_mul, Nat.add_comm]
abbrev Desc (D : List Nat) : Prop := D.Pairwise fun a b => b ≤ a
theorem cnt_drop {D : List Nat} {w v : Nat} (hs : Desc D) : (D.drop w).countP (fun x => decide (v ≤ x)) + w ≤ D.countP (fun x => decide (v ≤ x)) ∨ (D.drop w).countP (fun x => decide (v ≤ x)) = 0 := by
  by_cases h : (D.drop w).countP (fun x => decide (v ≤ x)) = 0
  · exact .inr h
  · left
    obtain ⟨x, hx, hv⟩ := List.countP_pos_iff.mp (Nat.pos_of_ne_zero h)
    simp only [decide_eq_true_eq] at hv
    have hs' : (D.take w ++ D.drop w).Pairwise fun a b => b ≤ a := by rw [List.take_append_drop]; exact hs
    obtain ⟨_, _, h3⟩ := List.pairwise_append.mp hs'
    have e : D.countP (fun x => decide (v ≤ x)) = (D.take w).countP (fun x => decide (v ≤ x)) + (D.drop w).countP (fun x => decide (v ≤ x)) := by
      rw [← List.countP_append, List.take_append_drop]
    have hl : (D.take w).length = w := by
      rw [List.length_take]
      have := List.length_pos_of_mem hx
      rw [List.length_drop] at this
      omega
    have ht : (D.take w).countP (fun x => decide (v ≤ x)) = w := by
      refine Eq.trans (List.countP_eq_length.mpr fun a ha => ?_) hl
      have := h3 a ha x hx
      simp only [decide_eq_true_eq]
      omega
    omega
theorem strd_le {w : Nat} : ∀ (k : Nat) {D M : List Nat}, Desc D → (∀ v, 1 ≤ v → D.countP (fun x => decide (v ≤ x)) ≤ w * M.countP fun x => decide (v ≤ x)) → strd w k D ≤ M.sum
  | 0, D, M, _, _ => Nat.zero_le _
  | k + 1, [], M, hs, h => by
    have := strd_le k (D := []) (M := M) hs h
    simpa [strd] using this
  | k + 1, t :: D, M, hs, h => by
    have hsd : Desc ((t :: D).drop w) := List.Pairwise.sublist (List.drop_sublist _ _) hs
    have hle : ∀ x ∈ t :: D, x ≤ t := fun x hx => by
      rcases List.mem_cons.mp hx with rfl | hx
      · exact Nat.le_refl _
      · exact (List.pairwise_cons.mp hs).1 x hx
    by_cases ht : t = 0
    · have := strd_le k hsd (M := M) fun v hv => Nat.le_trans (List.Sublist.countP_le (List.drop_sublist _ _)) (h v hv)
      rw [strd, ht] at *
      simpa using this
    · have h1 := h t (by omega)
      have h2 : 0 < (t :: D).countP fun x => decide (t ≤ x) := List.countP_pos_iff.mpr ⟨t, List.mem_cons_self, by simp⟩
      have h3 : 0 < M.countP fun x => decide (t ≤ x) := by
        rcases Nat.eq_zero_or_pos (M.countP fun x => decide (t ≤ x)) with z | z
        · rw [z, Nat.mul_zero] at h1; omega
        · exact z
      obtain ⟨m, hm, hmt⟩ := List.countP_pos_iff.mp h3
      simp only [decide_eq_true_eq] at hmt
      have hp := List.perm_cons_erase hm
      have ih := strd_le (w := w) k hsd (M := M.erase m) fun v hv => by
        by_cases hvt : v ≤ t
        · have e := hp.countP_eq (fun x => decide (v ≤ x))
          rw [List.countP_cons_of_pos (by simp; omega)] at e
          have hv1 := h v hv
          rw [e, Nat.mul_add, Nat.mul_one] at hv1
          rcases cnt_drop (w := w) (v := v) hs with z | z
          · omega
          · omega
        · have : ((t :: D).drop w).countP (fun x => decide (v ≤ x)) = 0 := by
            rw [List.countP_eq_zero]
            intro x hx
            have := hle x (List.mem_of_mem_drop hx)
            simp only [decide_eq_true_eq]
            omega
          omega
      have es := hp.sum_nat
      rw [List.sum_cons] at es
      rw [strd]
      simp only [List.getD_cons_zero]
      omega
/-- never less -/
theorem span_low {w n : Nat} {ts D : List Nat} {P : List (List Nat)} (hn : ts.length = n) (hD : D.Perm ts) (hs : Desc D) (o : OkP w (List.range n) P) (k : Nat) : strd w k D ≤ (P.map (tOf ts)).sum := by
  refine strd_le k hs fun v hv => ?_
  rw [hD.countP_eq]
  have e : ts = (List.range n).map (tm ts) := by
    apply List.ext_getElem
    · simp [hn]
    · intro i h1 h2
      simp [tm, List.getD_eq_getElem?_getD, List.getElem?_eq_getElem h1]
  rw [e, List.countP_map, ← o.2.countP_eq, ← e]
  have hl := o.1
  clear o e hD hs
  induction P with
  | nil => simp
  | cons l P ih =>
    have ih := ih fun m hm => hl m (List.mem_cons_of_mem _ hm)
    obtain ⟨_, h2, _⟩ := hl l List.mem_cons_self
    rw [List.flatten_cons, List.countP_append, List.map_cons, List.countP_cons]
    by_cases hT : v ≤ tOf ts l
    · have : l.countP ((fun x => decide (v ≤ x)) ∘ tm ts) ≤ l.length := List.countP_le_length
      rw [if_pos (by simpa using hT), Nat.mul_add, Nat.mul_one]
      omega
    · have : l.countP ((fun x => decide (v ≤ x)) ∘ tm ts) = 0 := by
        rw [List.countP_eq_zero]
        intro x hx
        have := le_mx (List.mem_map.mpr ⟨x, hx, rfl⟩ : tm ts x ∈ l.map (tm ts))
        unfold tOf at hT
        simp only [Function.comp, decide_eq_true_eq]
        omega
      rw [if_neg (by simpa using hT)]
      simp only [Nat.add_zero]
      omega
/-- ascending -/
def up (l : List Nat) : List Nat := l.mergeSort fun a b => decide (a ≤ b)
theorem up_perm (l : List Nat) : (up l).Perm l := List.mergeSort_perm _ _
theorem up_asc {l : List Nat} (nd : l.Nodup) : (up l).Pairwise (· < ·) := by
  have h1 : (up l).Pairwise fun a b => decide (a ≤ b) = true := List.pairwise_mergeSort (fun a b c h1 h2 => by simp only [decide_eq_true_eq] at *; omega) (fun a b => by simp only [Bool.or_eq_true, decide_eq_true_eq]; omega) l
  have h2 : (up l).Nodup := (up_perm l).nodup_iff.mpr nd
  exact (h1.and h2).imp fun {a b} z => by
    have := z.1
    simp only [decide_eq_true_eq] at this
    have := z.2
    omega
theorem chunks {w : Nat} (hw : 1 ≤ w) (ts : List Nat) : ∀ (k : Nat) (I : List Nat), (I.Pairwise fun a b => tm ts b ≤ tm ts a) → I.Nodup → I.length ≤ k * w → (k = 0 ∨ (k - 1) * w < I.length) →
    ∃ P : List (List Nat), (∀ l ∈ P, l ≠ [] ∧ l.length ≤ w ∧ l.Pairwise (· < ·)) ∧ P.flatten.Perm I ∧ (P.map (tOf ts)).sum = strd w k (I.map (tm ts))
  | 0, I, _, _, h, _ => by
    have : I = [] := List.length_eq_zero_iff.mp (by omega)
    subst this
    exact ⟨[], fun l hl => (by cases hl), .refl _, rfl⟩
  | k + 1, I, hs, nd, h1, h2 => by
    have hpos : 0 < I.length := by
      rcases h2 with z | z
      · omega
      · exact Nat.lt_of_le_of_lt (Nat.zero_le _) z
    obtain ⟨a, I', rfl⟩ := List.exists_cons_of_length_pos hpos
    obtain ⟨P, p1, p2, p3⟩ := chunks hw ts k ((a :: I').drop w) (List.Pairwise.sublist (List.drop_sublist _ _) hs) (List.Nodup.sublist (List.drop_sublist _ _) nd) (by
      rw [List.length_drop]
      rw [Nat.succ_mul] at h1
      omega) (by
      rcases Nat.eq_zero_or_pos k with z | z
      · exact .inl z
      · right
        rw [List.length_drop]
        rcases h2 with y | y
        · omega
        · have e : k + 1 - 1 = (k - 1) + 1 := by omega
          rw [e, Nat.succ_mul] at y
          omega)
    have hn1 : ((a :: I').take w).Nodup := List.Nodup.sublist (List.take_sublist _ _) nd
    have ha : a ∈ (a :: I').take w := by
      obtain ⟨w', rfl⟩ : ∃ w', w = w' + 1 := ⟨w - 1, by omega⟩
      simp
    have hT : tOf ts (up ((a :: I').take w)) = tm ts a := by
      refine mx_eq (List.mem_map.mpr ⟨a, (up_perm _).mem_iff.mpr ha, rfl⟩) fun y hy => ?_
      obtain ⟨x, hx, rfl⟩ := List.mem_map.mp hy
      have hx' := List.mem_of_mem_take ((up_perm _).mem_iff.mp hx)
      rcases List.mem_cons.mp hx' with rfl | z
      · exact Nat.le_refl _
      · exact (List.pairwise_cons.mp hs).1 x z
    refine ⟨up ((a :: I').take w) :: P, fun l hl => ?_, ?_, ?_⟩
    · rcases List.mem_cons.mp hl with rfl | hl
      · refine ⟨fun z => ?_, ?_, up_asc hn1⟩
        · have := (up_perm ((a :: I').take w)).mem_iff.mpr ha
          rw [z] at this; cases this
        · rw [(up_perm _).length_eq, List.length_take]; omega
      · exact p1 l hl
    · rw [List.flatten_cons]
      have := (up_perm ((a :: I').take w)).append p2
      rwa [List.take_append_drop] at this
    · rw [List.map_cons, List.sum_cons, p3, strd, hT, List.map_drop]
      simp
theorem desc_uniq : ∀ {D E : List Nat}, Desc D → Desc E → D.Perm E → D = E
  | [], E, _, _, h => h.symm.eq_nil.symm
  | a :: D, [], _, _, h => by have := h.eq_nil; cases this
  | a :: D, b :: E, h1, h2, h => by
    have hab : a = b := by
      have ha : a ∈ b :: E := h.mem_iff.mp List.mem_cons_self
      have hb : b ∈ a :: D := h.mem_iff.mpr List.mem_cons_self
      have e1 : a ≤ b := by
        rcases List.mem_cons.mp ha with z | z
        · omega
        · exact (List.pairwise_cons.mp h2).1 a z
      have e2 : b ≤ a := by
        rcases List.mem_cons.mp hb with z | z
        · omega
        · exact (List.pairwise_cons.mp h1).1 b z
      omega
    subst hab
    rw [desc_uniq (List.pairwise_cons.mp h1).2 (List.pairwise_cons.mp h2).2 h.cons_inv]
/-- some loads have it -/
theorem span_has {w n : Nat} {ts D : List Nat} (hw : 1 ≤ w) (hn : ts.length = n) (hD : D.Perm ts) (hs : Desc D) {k : Nat} (h1 : n ≤ k * w) (h2 : k = 0 ∨ (k - 1) * w < n) : ∃ P, OkP w (List.range n) P ∧ (P.map (tOf ts)).sum = strd w k D := by
  have e : ts = (List.range n).map (tm ts) := by
    apply List.ext_getElem
    · simp [hn]
    · intro i h1 h2
      simp [tm, List.getD_eq_getElem?_getD, List.getElem?_eq_getElem h1]
  have pI : ((List.range n).mergeSort fun a b => decide (tm ts b ≤ tm ts a)).Perm (List.range n) := List.mergeSort_perm _ _
  have sI : ((List.range n).mergeSort fun a b => decide (tm ts b ≤ tm ts a)).Pairwise fun a b => tm ts b ≤ tm ts a :=
    (List.pairwise_mergeSort (le := fun a b => decide (tm ts b ≤ tm ts a)) (fun a b c h1 h2 => by simp only [decide_eq_true_eq] at *; omega) (fun a b => by simp only [Bool.or_eq_true, decide_eq_true_eq]; omega) _).imp fun z => by simpa using z
  generalize (List.range n).mergeSort (fun a b => decide (tm ts b ≤ tm ts a)) = I at pI sI
  have hI : I.length = n := by rw [pI.length_eq, List.length_range]
  obtain ⟨P, p1, p2, p3⟩ := chunks hw ts k I sI (pI.nodup_iff.mpr List.nodup_range) (by omega) (by rw [hI]; exact h2)
  have eD : I.map (tm ts) = D := by
    refine desc_uniq (List.pairwise_map.mpr sI) hs ?_
    have q := pI.map (tm ts)
    rw [← e] at q
    exact q.trans hD.symm
  exact ⟨P, ⟨p1, p2.trans pI⟩, by rw [p3, eD]⟩
end Lk70
end
section
namespace Lk70
open PySem PySem.Spec PyProof.Rows L2 DL
def isNum (v : PyData) (lo hi : Int) : Bool := match v with
  | .int i => decide (lo ≤ i) && decide (i ≤ hi)
  | _ => false
theorem F_is_number_eq (v : PyData) (lo hi : Int) : F_is_number [.pure v, .pure (.int lo), .pure (.int hi)] [] = .ok (.bool (isNum v lo hi), []) := by
  cases v <;> simp [F_is_number, runF, b_is_number, envOf_eq, isiB, endF, isNum]
  rename_i i
  cases decide (lo ≤ i) <;> simp
def takeR (zs : List Int) (b : Int) : Int × List Int := match zs.getLast? with
  | none => (0, [])
  | some z => (z % b, zs.dropLast)
theorem takeR_bound (zs : List Int) {b : Int} (hb : 0 < b) : 0 ≤ (takeR zs b).1 ∧ (takeR zs b).1 < b := by
  unfold takeR
  split
  · exact ⟨Int.le_refl _, hb⟩
  · exact ⟨Int.emod_nonneg _ (by omega), Int.emod_lt_of_pos _ hb⟩
theorem F_take (zs : List Int) {b : Int} (hb : 0 < b) : F__law_take [.obj 0, .pure (.int b)] [.lst (zs.map .int)] = .ok (.int (takeR zs b).1, [.lst ((takeR zs b).2.map .int)]) := by
  rcases List.eq_nil_or_concat zs with rfl | ⟨l, z, rfl⟩
  · simp [F__law_take, DL.runF, b__law_take, ev_seq, envOf_eq, endF, curE, takeR]
  · have h0 : ¬ ((l.length : Int) + 1 = 0) := by omega
    simp [F__law_take, DL.runF, b__law_take, ev_seq, envOf_eq, endF, curE, popE, objAt, takeR, modD_int hb, h0]
/-- a list of draws, whatever it is -/
def dSt (ns : List Int) (a b c d e : Option SV) (zs : List Int) : S := ⟨[some (.scr (ns.map .int)), some (.obj 0), a, b, c, d, e], [.lst (zs.map .int)]⟩
theorem len_int (ds : List Int) : (ds.map PyData.int).length = ds.length := List.length_map ..
theorem app_ok {i j : Nat} {zs : List Int} {x : Int} {env : List (Option SV)} {st : Sto} {fe : EvD} (h1 : env[i]? = some (some (.obj j))) (h2 : st[j]? = some (.lst (zs.map .int))) (hf : fe ⟨env, st⟩ = .ok (.int x, st)) (hl : zs.length < 16777216) :
    appE i fe ⟨env, st⟩ = .ok (.none, st.set j (.lst ((zs ++ [x]).map .int))) := by
  simp [appE, objAt, h1, h2, hf, isLst, hl]
theorem pow18 : powD (.int 10) (.int 18) = some (.int 1000000000000000000) := by
  unfold powD
  simp
theorem F_draws (ns : List Int) (hl : ns.length ≤ 63) : ∃ zs : List Int, F__law_draws [.scr (ns.map .int)] [] = .ok (.list (zs.map .int), []) := by
  refine runN_ok (P := fun r => ∃ zs : List Int, r = .ok (.list (zs.map .int), [])) ?_
  simp only [envOf_eq, b__law_draws]
  refine okS_seq ?_
  simp [lstV, newL]
  refine okS_seq ?_
  refine okS_for (ds := ns.map .int) (fun k s => ∃ c zs, s = dSt ns none none none none c zs ∧ (∀ n, keepSV n c = c) ∧ zs.length ≤ 62 * k) rfl (items_seq _ _) ⟨none, [], rfl, fun _ => rfl, by simp⟩ ?_ ?_
  · rintro k d s hk ⟨c0, zs, rfl, hc0, hz⟩
    have hk1 : k < ns.length := by
      have := (List.getElem?_eq_some_iff.mp hk).1
      simpa using this
    obtain ⟨z, rfl⟩ : ∃ z, d = .int z := by
      rw [List.getElem?_map] at hk
      cases h : ns[k]? with
      | none => rw [h] at hk; cases hk
      | some z => rw [h] at hk; exact ⟨z, (Option.some.inj hk).symm⟩
    refine ⟨_, rfl, ?_⟩
    refine okS_seq ?_
    simp [dSt]
    generalize (if z < 0 then -z else z) = n
    refine okS_seq ?_
    refine OkS.mono (Q := fun fl s => fl = .next ∧ ∃ b c zs', s = dSt ns (some (.pure (.int z))) none none (some (.pure (.int b))) c zs' ∧ (∀ n, keepSV n c = c) ∧ zs'.length ≤ zs.length + 2) ?_ ?_
    · simp [pow18]
      split
      · have hz1 : zs.length < 16777216 := by omega
        have hz2 : zs.length + 1 < 16777216 := by omega
        refine okS_seq ?_
        simp [mulD_int, modD_int]
        refine okS_seq ?_
        simp [mulD_int, modD_int, appE, objAt, isLst, hz1]
        refine okS_seq ?_
        simp [mulD_int, modD_int, fdivD_int, appE, objAt, isLst, hz2]
        exact ⟨0, _, zs ++ [_, _], by simp [dSt]; exact ⟨rfl, rfl, rfl⟩, fun _ => rfl, by simp⟩
      · simp
        exact ⟨n, c0, zs, by simp [dSt], hc0, by omega⟩
    · rintro fl s ⟨rfl, b, c, zs', rfl, hc, hz'⟩
      simp
      refine okS_for (ds := intsFrom 0 60) (fun i s => ∃ b e zs'', s = dSt ns (some (.pure (.int z))) none e (some (.pure (.int b))) c zs'' ∧ zs''.length ≤ zs'.length + i) (range1_nat (n := 60) rfl (by omega)) (items_range 0 60) ⟨b, none, zs', rfl, by omega⟩ ?_ ?_
      · rintro i d s hi ⟨b, e, zs'', rfl, hz''⟩
        have hi1 : i < 60 := by
          have := (List.getElem?_eq_some_iff.mp hi).1
          rw [intsFrom_len] at this
          exact this
        have hz1 : zs''.length < 16777216 := by omega
        refine ⟨_, rfl, ?_⟩
        simp [dSt]
        split
        · refine okS_seq ?_
          simp [modD_int, appE, objAt, isLst, hz1]
          simp [fdivD_int]
          exact ⟨_, none, zs'' ++ [_], by simp [wipeS, wipeE, dSt, hc]; exact ⟨rfl, rfl⟩, by simp; omega⟩
        · simp
          exact ⟨b, none, zs'', by simp [wipeS, wipeE, dSt, hc], by omega⟩
      · rintro s ⟨b, e, zs'', rfl, hz''⟩
        rw [intsFrom_len] at hz''
        exact ⟨c, zs'', by simp [wipeS, wipeE, dSt, hc], hc, by omega⟩
  · rintro s ⟨c, zs, rfl, hc, hz⟩
    have hz0 : zs.length ≤ 62 * 63 := by simp at hz; omega
    simp [dSt]
    refine okS_seq ?_
    simp
    refine okS_seq ?_
    refine OkS.mono (Q := fun fl s => fl = .next ∧ ∃ b, s = dSt ns none (some (.pure (.int b))) none none c zs) ?_ ?_
    · cases ns with
      | nil => simp [curE, dSt]
      | cons z r =>
        have h0 : (0 : Int) < (r.length : Int) + 1 := by omega
        have h1 : itemD (.list (.int z :: r.map .int)) (.int 0) = some (.int z) := by simpa using itemD_list (ds := .int z :: r.map .int) (i := 0)
        simp [curE, h0, h1, dSt]
    · rintro fl s ⟨rfl, b, rfl⟩
      simp [dSt]
      refine okS_seq ?_
      refine okS_for (ds := intsFrom 0 900) (fun i s => ∃ b zs'', s = dSt ns none (some (.pure (.int b))) none none c zs'' ∧ zs''.length ≤ zs.length + i) (range1_nat (n := 900) rfl (by omega)) (items_range 0 900) ⟨b, zs, rfl, by omega⟩ ?_ ?_
      · rintro i d s hi ⟨b, zs'', rfl, hz''⟩
        have hi1 : i < 900 := by
          have := (List.getElem?_eq_some_iff.mp hi).1
          rw [intsFrom_len] at this
          exact this
        have hz1 : zs''.length < 16777216 := by omega
        refine ⟨_, rfl, ?_⟩
        refine okS_seq ?_
        simp [dSt, mulD_int, modD_int]
        simp [fdivD_int, appE, objAt, isLst, hz1]
        exact ⟨_, zs'' ++ [_], by simp [wipeS, wipeE, dSt, hc]; exact ⟨rfl, rfl⟩, by simp; omega⟩
      · rintro s ⟨b, zs'', rfl, hz''⟩
        simp [dSt, ownR, revC, newL, endN]
        exact ⟨zs''.reverse, by rw [List.map_reverse]⟩
end Lk70
end
section
set_option maxRecDepth 100000
namespace Lk70
open PySem PySem.Spec PyProof.Rows L2 DL
theorem alike_bool (n : Nat) (a b : Bool) : F__law_alike (n + 1) [.pure (.bool a), .pure (.bool b)] [] = .ok (.bool (a == b), []) := by
  simp [F__law_alike, DL.runF, b__law_alike, ev_seq, envOf_eq, endF, isiB, isD, isNoneD]
theorem alike_int (n : Nat) (a b : Int) : F__law_alike (n + 1) [.pure (.int a), .pure (.int b)] [] = .ok (.bool (decide (a = b)), []) := by
  simp [F__law_alike, DL.runF, b__law_alike, ev_seq, envOf_eq, endF, isiB, isD, isNoneD]
theorem alike_tup (n : Nat) (xs : List Int) (hl : xs.length ≤ 1000) : F__law_alike (n + 2) [.pure (.tuple (xs.map .int)), .pure (.tuple (xs.map .int))] [] = .ok (.bool true, []) := by
  rw [F__law_alike]
  refine runF_ok ?_
  show OkS (b__law_alike _ 0 ⟨[some (.pure (.tuple (xs.map .int))), some (.pure (.tuple (xs.map .int))), none], []⟩) _
  refine okS_seq (okS_ifT (st := []) (by simp [isiB]) (okS_not (st := []) (by simp [isiB]) ?_))
  refine okS_ret (sv := .pure (.bool true)) (st := []) ?_ rfl
  have h3 : compC (range1I (un1 lenD (slotE 1))) [2] (nameG 2) (notT (valT (callE 2 (F__law_alike (n + 1)) (consA (bin2 itemD (slotE 0) (slotE 2)) (consA (bin2 itemD (slotE 1) (slotE 2)) nilA))))) (slotE 2)
      ⟨[some (.pure (.tuple (xs.map .int))), some (.pure (.tuple (xs.map .int))), none], []⟩ = .ok ([], []) := by
    rw [comp_range (n := xs.length) (st := []) (fun d => [some (.pure (.tuple (xs.map .int))), some (.pure (.tuple (xs.map .int))), some (.pure d)]) (fun _ => false) (fun d => d) (by simp) (by omega)]
    · simp
    · intro i hi
      refine ⟨rfl, ?_, fun z => by cases z⟩
      have h1 : itemD (.tuple (xs.map .int)) (.int (i : Int)) = some (.int xs[i]) := by
        rw [itemD_tuple, List.getElem?_map, List.getElem?_eq_getElem hi]; rfl
      simp [h1, call2 (alike_int n _ _)]
  exact o_pure (env := [some (.pure (.tuple (xs.map .int))), some (.pure (.tuple (xs.map .int))), none]) (o_andT (st1 := []) (o_bin (a := .int xs.length) (b := .int xs.length) (st1 := []) (by simp) (by simp) (by simp)) (o_bin (o_list h3) o_nil (by simp)))
/-- a draw from a list of draws in slot i's object j -/
theorem take_at {i j : Nat} {zs : List Int} {env : List (Option SV)} {st : Sto} {fb : EvD} {b : Int} (hb : 0 < b) (h1 : env[i]? = some (some (.obj j))) (h2 : st[j]? = some (.lst (zs.map .int))) (hf : fb ⟨env, st⟩ = .ok (.int b, st)) :
    callE 2 F__law_take (consSlotA i (consA fb nilA)) ⟨env, st⟩ = .ok (.int (takeR zs b).1, st.set j (.lst ((takeR zs b).2.map .int))) := by
  simp [h1, hf, callO2 h2 (F_take zs hb)]
theorem take_at2 {i i2 j : Nat} {zs : List Int} {env : List (Option SV)} {st : Sto} {b : Int} (hb : 0 < b) (h1 : env[i]? = some (some (.obj j))) (h2 : st[j]? = some (.lst (zs.map .int))) (h3 : env[i2]? = some (some (.pure (.int b)))) :
    callE 2 F__law_take (consSlotA i (consSlotA i2 nilA)) ⟨env, st⟩ = .ok (.int (takeR zs b).1, st.set j (.lst ((takeR zs b).2.map .int))) := by
  simp [h1, h3, callO2 h2 (F_take zs hb)]
end Lk70
end
section
set_option linter.all false
set_option maxRecDepth 100000
set_option maxHeartbeats 20000000
open PySem PySem.Spec PyProof.Rows L2 DL
local macro_rules | `(tactic| walk_at "y") => `(tactic| first | with_reducible assumption | with_reducible exact y_bool_none | with_reducible exact y_bool_bool | with_reducible exact y_bool_int | with_reducible exact y_bool_str | with_reducible exact y_bool_list | with_reducible exact y_bool_tuple | with_reducible exact y_int_none | with_reducible exact y_int_bool | with_reducible exact y_int_int | with_reducible exact y_int_str | with_reducible exact y_int_list | with_reducible exact y_int_tuple | with_reducible exact y_str_none | with_reducible exact y_str_bool | with_reducible exact y_str_int | with_reducible exact y_str_str | with_reducible exact y_str_list | with_reducible exact y_str_tuple | with_reducible exact y_list_none | with_reducible exact y_list_bool | with_reducible exact y_list_int | with_reducible exact y_list_str | with_reducible exact y_list_list | with_reducible exact y_list_tuple | with_reducible exact y_tuple_none | with_reducible exact y_tuple_bool | with_reducible exact y_tuple_int | with_reducible exact y_tuple_str | with_reducible exact y_tuple_list | with_reducible exact y_tuple_tuple | exact rfl)
local macro_rules | `(tactic| walk_at "b") => `(tactic| first | with_reducible assumption | with_reducible rfl | with_reducible exact Bool.not_false | with_reducible exact Bool.not_true)
local macro_rules | `(tactic| walk_at "i") => `(tactic| first | with_reducible exact set_0 | (apply set_s; walk_at "i") | exact rfl)
local macro_rules | `(tactic| walk_at "len") => `(tactic| first | omega | (simp only [List.length_cons, List.length_nil]; omega) | (simp only [List.length_map, List.length_append, List.length_cons, List.length_nil]; omega) | (simp; omega))
local macro_rules | `(tactic| walk_at "o") => `(tactic| first | with_reducible assumption | with_reducible exact ltD_nat _ _ | with_reducible exact leD_nat _ _ | with_reducible exact gtD_nat _ _ | with_reducible exact geD_nat _ _ | with_reducible exact eqD_nat _ _ | with_reducible exact neD_nat _ _ | with_reducible exact gtD_nat0 _ | with_reducible exact eqD_nat0 _ | with_reducible exact addD_nat _ _ | with_reducible exact addD_nat1 _ | with_reducible exact iaddD_nat _ _ | with_reducible exact iaddD_nat1 _ | with_reducible exact iaddD_int _ _ | with_reducible exact addD_int _ _ | with_reducible exact subD_int _ _ | with_reducible exact ltD_int _ _ | with_reducible exact leD_int _ _ | with_reducible exact gtD_int _ _ | with_reducible exact geD_int _ _ | with_reducible exact eqD_int _ _ | with_reducible exact neD_int _ _ | with_reducible exact lenD_tuple _ | with_reducible exact lenD_list _ | with_reducible exact intD_int _ | with_reducible exact intD_bool _ | with_reducible exact absD_int _ | with_reducible exact tupleD_list _ | with_reducible exact tupleD_tuple _ | with_reducible exact revD_tuple _ | with_reducible exact revD_list _ | with_reducible exact listD_tuple _ | with_reducible exact listD_list _ | with_reducible exact sum_nat _ _ | with_reducible exact isD_bool _ _ | with_reducible exact isNotD_bool _ _ | with_reducible exact isD_none _ | with_reducible exact isNotD_none _ | with_reducible exact sum_int _ _ | with_reducible exact eqD_list0 _ | with_reducible exact neD_list0 _ | with_reducible exact eqD_bool _ _ | with_reducible exact neD_bool _ _ | exact rfl)
local macro_rules | `(tactic| walk_at "c") => `(tactic| first | with_reducible assumption | with_reducible apply_assumption)
local macro_rules | `(tactic| walk_at "n") => `(tactic| first | with_reducible exact n_0 | with_reducible exact n_1 | with_reducible exact n_2 | with_reducible exact n_3 | with_reducible exact n_4 | exact rfl)
local macro_rules | `(tactic| walk_at "j") => `(tactic| first | with_reducible exact p_0 | ((with_reducible apply p_1); walk_at "j") | exact rfl)
local macro_rules | `(tactic| walk_at "p") => `(tactic| first | with_reducible exact p_nil | ((with_reducible apply p_cons); walk_at "p") | ((with_reducible apply p_star); walk_at "p") | with_reducible exact p_all)
local macro_rules | `(tactic| walk_at "k") => `(tactic| (intro hk; (try simp only [bq_t, bq_f, beq_self_eq_true, List.isEmpty_nil, List.isEmpty_cons, Bool.not_true, Bool.not_false, Bool.or_true, Bool.true_or, Bool.or_false, Bool.false_or, Bool.and_true, Bool.true_and, Bool.and_false, Bool.false_and, reduceCtorEq, Bool.false_eq_true, decide_eq_true_eq, decide_eq_false_iff_not, Bool.and_eq_true, Bool.not_eq_true', Bool.not_eq_false', Bool.or_eq_true, Bool.or_eq_false_iff, Bool.and_eq_false_iff, Bool.not_eq_true, Bool.not_eq_false] at hk)))
local macro_rules | `(tactic| walk_at "W") => `(tactic| first | with_reducible exact wp_nil | ((with_reducible apply wp_cons); (focus (walk_at "W")); (focus (walk_at "i"))))
local macro_rules | `(tactic| walk_at "e") => `(tactic| first
  | with_reducible assumption
  | with_reducible exact e_const
  | ((with_reducible apply e_slot); exact rfl)
  | ((with_reducible apply e_bin); (focus (walk_at "e")); (focus (walk_at "e")); (focus (walk_at "o")))
  | ((with_reducible apply e_un); (focus (walk_at "e")); (focus (walk_at "o")))
  | ((with_reducible apply e_cur); (focus (exact rfl)); (focus (exact rfl)))
  | ((with_reducible apply e_curS); (focus (exact rfl)))
  | ((with_reducible apply e_isi); (focus (walk_at "e")); (focus (walk_at "y")))
  | ((with_reducible apply e_call); (focus (walk_at "a")); (focus (walk_at "c")))
  | ((with_reducible apply e_chain); (focus (walk_at "e")); (focus (walk_at "e")); (focus (walk_at "o")); (focus (walk_at "e")); (focus (walk_at "o")))
  | ((with_reducible apply e_not); (focus (walk_at "e")))
  | ((with_reducible apply e_orX); (focus (walk_at "e")); (focus (first | ((with_reducible apply x_t); (focus (walk_at "b"))) | ((with_reducible apply x_orf); (focus (walk_at "b")); (focus (walk_at "e"))) | ((with_reducible apply x_orge); (focus (walk_at "k" <;> walk_at "e"))))))
  | ((with_reducible apply e_andX); (focus (walk_at "e")); (focus (first | ((with_reducible apply x_t); (focus (walk_at "b"))) | ((with_reducible apply x_andt); (focus (walk_at "b")); (focus (walk_at "e"))) | ((with_reducible apply x_andge); (focus (walk_at "k" <;> walk_at "e"))))))
  | ((with_reducible apply e_neg); (focus (walk_at "e")))
  | ((with_reducible apply e_tup); (focus (walk_at "a")); (focus (walk_at "p")); (focus (walk_at "len")))
  | ((with_reducible apply e_lstE); (focus (walk_at "a")); (focus (walk_at "p")); (focus (walk_at "len")))
  | ((with_reducible apply e_ite); (focus (walk_at "t")); (focus (walk_at "k" <;> walk_at "e")); (focus (walk_at "k" <;> walk_at "e")))
  | ((with_reducible apply e_slice); (focus (walk_at "e")); (focus (walk_at "e")); (focus (walk_at "e")); (focus (walk_at "o")))
  | with_reducible exact o_none'
  | ((with_reducible apply o_some'); (focus (walk_at "e")))
  | ((with_reducible apply e_lst); (focus (walk_at "e")))
  | ((with_reducible apply e_app); (focus (exact rfl)); (focus (exact rfl)); (focus (walk_at "e")); (focus (exact rfl)); (focus (walk_at "len")); (focus (walk_at "i")))
  | ((with_reducible apply e_rem); (focus (exact rfl)); (focus (exact rfl)); (focus (walk_at "e")); (focus (exact rfl)); (focus (walk_at "o")); (focus (walk_at "i")))
  | ((with_reducible apply e_rg1); (focus (walk_at "e")); (focus (walk_at "len")))
  | ((with_reducible apply e_mget); (focus (exact rfl)); (focus (walk_at "e")); (focus (exact rfl)); (focus (walk_at "o")); (focus (walk_at "o")))
  | ((with_reducible apply e_callVE); (focus (walk_at "a")); (focus (walk_at "c")); (focus (exact rfl)))
  | ((with_reducible apply e_dict0M); (focus (walk_at "n")); (focus (walk_at "j")))
  | ((with_reducible apply e_pop); (focus (exact rfl)); (focus (exact rfl)); (focus (walk_at "o")); (focus (walk_at "i")))
  | ((with_reducible apply e_dget); (focus (exact rfl)); (focus (walk_at "e")); (focus (exact rfl)); (focus (exact rfl)); (focus (walk_at "o")))
  | ((with_reducible apply e_pure); (focus (walk_at "e")))
  | ((with_reducible apply e_slotV); exact rfl)
  | ((with_reducible apply e_own); (focus (walk_at "e")); (focus (walk_at "n")); (focus (walk_at "j")))
  | ((with_reducible apply e_lstV); (focus (walk_at "a")); (focus (walk_at "p")); (focus (walk_at "len")); (focus (walk_at "n")); (focus (walk_at "j")))
  | ((with_reducible apply e_binV); (focus (walk_at "e")); (focus (walk_at "e")); (focus (walk_at "o")); (focus (walk_at "n")); (focus (walk_at "j")))
  | ((with_reducible apply e_un1V); (focus (walk_at "e")); (focus (walk_at "o")); (focus (walk_at "n")); (focus (walk_at "j")))
  | ((with_reducible apply e_dict0); (focus (walk_at "n")); (focus (walk_at "j")))
  | ((with_reducible apply e_dict1); (focus (walk_at "e")); (focus (walk_at "e")); (focus (exact rfl)); (focus (walk_at "n")); (focus (walk_at "j")))
  | ((with_reducible apply e_callC); (focus (walk_at "a")); (focus (walk_at "c")))
  | ((with_reducible apply c_allN); (focus (walk_at "W")); (focus (walk_at "w")); (focus (walk_at "len")); (focus (intro x hx; refine ⟨?_, ?_, ?_⟩; (focus (walk_at "g")); (focus (with_reducible exact t_yes)); (focus (walk_at "e")))))
  | ((with_reducible apply c_pureN); (focus (walk_at "W")); (focus (walk_at "w")); (focus (walk_at "len")); (focus (intro x hx; refine ⟨?_, ?_, ?_⟩; (focus (walk_at "g")); (focus (walk_at "t")); (focus (walk_at "e")))))
  | ((with_reducible apply q_allN); (focus (walk_at "W")); (focus (walk_at "w")); (focus (intro x hx; refine ⟨?_, ?_, ?_⟩; (focus (walk_at "g")); (focus (with_reducible exact t_yes)); (focus (walk_at "e")))))
  | ((with_reducible apply q_anyN); (focus (walk_at "W")); (focus (walk_at "w")); (focus (intro x hx; refine ⟨?_, ?_, ?_⟩; (focus (walk_at "g")); (focus (with_reducible exact t_yes)); (focus (walk_at "e")))))
  | ((with_reducible apply c_allI); (focus (walk_at "W")); (focus (walk_at "w")); (focus (walk_at "len")); (focus (intro x hx; refine ⟨?_, ?_, ?_⟩; (focus (walk_at "g")); (focus (with_reducible exact t_yes)); (focus (walk_at "e")))))
  | ((with_reducible apply c_pureI); (focus (walk_at "W")); (focus (walk_at "w")); (focus (walk_at "len")); (focus (intro x hx; refine ⟨?_, ?_, ?_⟩; (focus (walk_at "g")); (focus (walk_at "t")); (focus (walk_at "e")))))
  | ((with_reducible apply q_allI); (focus (walk_at "W")); (focus (walk_at "w")); (focus (intro x hx; refine ⟨?_, ?_, ?_⟩; (focus (walk_at "g")); (focus (with_reducible exact t_yes)); (focus (walk_at "e")))))
  | ((with_reducible apply q_anyI); (focus (walk_at "W")); (focus (walk_at "w")); (focus (intro x hx; refine ⟨?_, ?_, ?_⟩; (focus (walk_at "g")); (focus (with_reducible exact t_yes)); (focus (walk_at "e")))))
  | ((with_reducible apply e_ext); (focus (exact rfl)); (focus (exact rfl)); (focus (walk_at "e")); (focus (exact rfl)); (focus (walk_at "len")); (focus (walk_at "i"))))
local macro_rules | `(tactic| walk_at "a") => `(tactic| first
  | with_reducible exact a_nil
  | ((with_reducible apply a_cons); (focus (walk_at "e")); (focus (walk_at "a")))
  | ((with_reducible apply a_consV); (focus (walk_at "e")); (focus (walk_at "a")))
  | ((with_reducible apply a_slot); (focus (exact rfl)); (focus (walk_at "a")))
  | ((with_reducible apply a_starT); (focus (walk_at "e")); (focus (walk_at "a")))
  | ((with_reducible apply a_starL); (focus (walk_at "e")); (focus (walk_at "a"))))
local macro_rules | `(tactic| walk_at "t") => `(tactic| first
  | with_reducible assumption
  | with_reducible exact t_yes
  | ((with_reducible apply t_cmp); (focus (walk_at "e")); (focus (walk_at "e")); (focus (walk_at "o")))
  | ((with_reducible apply t_val); (focus (walk_at "e")))
  | ((with_reducible apply t_not); (focus (walk_at "t")))
  | ((with_reducible apply t_min); (focus (exact rfl)); (focus (walk_at "e")); (focus (exact rfl)); (focus (walk_at "o")))
  | ((with_reducible apply t_orX); (focus (walk_at "t")); (focus (first | ((with_reducible apply x_t); (focus (walk_at "b"))) | ((with_reducible apply x_orf); (focus (walk_at "b")); (focus (walk_at "t"))) | ((with_reducible apply x_org); (focus (walk_at "k" <;> walk_at "t"))))))
  | ((with_reducible apply t_andX); (focus (walk_at "t")); (focus (first | ((with_reducible apply x_t); (focus (walk_at "b"))) | ((with_reducible apply x_andt); (focus (walk_at "b")); (focus (walk_at "t"))) | ((with_reducible apply x_andg); (focus (walk_at "k" <;> walk_at "t")))))))
local macro_rules | `(tactic| walk_at "g") => `(tactic| first
  | with_reducible exact g_nil
  | ((with_reducible apply g_name); (focus (walk_at "i")))
  | ((with_reducible apply g_tup); (focus (exact rfl)); (focus (walk_at "g")))
  | ((with_reducible apply g_cons); (focus (walk_at "g")); (focus (walk_at "g"))))
local macro_rules | `(tactic| walk_at "w") => `(tactic| first
  | ((with_reducible apply w_range1); (focus (walk_at "e")); (focus (walk_at "len")))
  | ((with_reducible apply w_range2); (focus (walk_at "e")); (focus (walk_at "e")); (focus (walk_at "len")); (focus (walk_at "len")))
  | ((with_reducible apply w_seqT); (focus (walk_at "e")))
  | ((with_reducible apply w_seqL); (focus (walk_at "e")))
  | ((with_reducible apply w_scr); (focus (exact rfl))))
local macro_rules | `(tactic| walk_at "s") => `(tactic| first
  | ((with_reducible apply s_next); walk_at "s")
  | ((with_reducible apply okS_seq); walk_at "s")
  | ((with_reducible apply s_set); (focus (walk_at "e")); (focus (walk_at "i")); walk_at "s")
  | ((with_reducible apply s_par); (focus (walk_at "a")); (focus (walk_at "i")); (focus (walk_at "i")); walk_at "s")
  | ((with_reducible apply s_asg2); (focus (walk_at "a")); (focus (walk_at "i")); (focus (walk_at "i")); walk_at "s")
  | ((with_reducible apply s_par3); (focus (walk_at "a")); (focus (walk_at "i")); (focus (walk_at "i")); (focus (walk_at "i")); walk_at "s")
  | ((with_reducible apply s_unl); (focus (walk_at "e")); (focus (exact rfl)); (focus (walk_at "g")); walk_at "s")
  | ((with_reducible apply s_mput); (focus (walk_at "e")); (focus (exact rfl)); (focus (walk_at "e")); (focus (exact rfl)); (focus (walk_at "o")); (focus (walk_at "len")); (focus (walk_at "i")); walk_at "s")
  | ((with_reducible apply s_asg); (focus (walk_at "e")); (focus (walk_at "g")); walk_at "s")
  | ((with_reducible apply s_aug); (focus (exact rfl)); (focus (walk_at "e")); (focus (walk_at "o")); (focus (walk_at "i")); walk_at "s")
  | ((with_reducible apply s_drop); (focus (walk_at "e")); walk_at "s")
  | ((with_reducible apply s_nil); walk_at "s")
  | ((with_reducible apply s_ret); (focus (walk_at "e")); walk_at "s")
  | ((with_reducible apply s_ret'); walk_at "s")
  | ((with_reducible apply s_dput); (focus (walk_at "e")); (focus (exact rfl)); (focus (walk_at "e")); (focus (exact rfl)); (focus (exact rfl)); (focus (walk_at "len")); (focus (walk_at "i")); walk_at "s")
  | ((with_reducible apply s_sto); (focus (walk_at "e")); (focus (exact rfl)); (focus (walk_at "e")); (focus (exact rfl)); (focus (walk_at "o")); (focus (walk_at "i")); walk_at "s")
  | (focus ((with_reducible apply s_if); (focus (walk_at "t")); (all_goals (walk_at "k" <;> walk_at "s"))))
  | skip)
section
namespace Lk70
abbrev nD (n : Nat) : PyData := .int (n : Int)
abbrev loadE : Enc (List Nat) := Enc.tupL Enc.nat
abbrev rowE : Enc (List (List Nat)) := Enc.tupL loadE
def lD (l : List Nat) : PyData := .tuple (l.map nD)
def rD (L : List (List Nat)) : PyData := .tuple (L.map lD)
theorem item_pc {ts l : List Nat} {i : Nat} (h : ∀ i ∈ l, i < ts.length) (hi : i ∈ l) : itemD (lD ts) (.int (i : Nat)) = some (.int (tm ts i : Nat)) := by
  have hlt := h i hi
  show itemD (.tuple (ts.map nD)) (.int (i : Nat)) = _
  rw [itemD_tuple, List.getElem?_map, List.getElem?_eq_getElem hlt]
  simp [tm, List.getD_eq_getElem?_getD, List.getElem?_eq_getElem hlt]
theorem max_tm {ts l : List Nat} (hl : l ≠ []) : maxDD (.list (l.map fun i => PyData.int (tm ts i : Nat))) = some (.int (tOf ts l : Nat)) := by
  obtain ⟨m, h1, h2, h3⟩ := Enc.nat.maxL (by decide) (xs := l.map (tm ts)) (by simpa using hl)
  have e : (l.map (tm ts)).map Enc.nat.f = l.map fun i => PyData.int (tm ts i : Nat) := by rw [List.map_map]; rfl
  rw [e] at h1
  have em : tOf ts l = m := mx_eq h2 fun y hy => by have := h3 y hy; rw [Enc.lt_nat] at this; simpa using this
  rw [h1, em]
  rfl
local macro_rules | `(tactic| walk_at "o") => `(tactic| first | with_reducible exact item_pc (by assumption) (by assumption) | with_reducible exact max_tm (by assumption))
local macro_rules | `(tactic| walk_at "w") => `(tactic| first | ((with_reducible apply w_seqT); (focus (exact e_slot (d := .tuple (List.map nD _)) rfl))) | ((with_reducible apply w_seqT); (focus (exact e_slot (d := .tuple (List.map lD _)) rfl))))
theorem F_time {ts l : List Nat} (h : ∀ i ∈ l, i < ts.length) (hl : l ≠ []) (hn : l.length ≤ 1000) : F_time_of [.pure (lD ts), .pure (lD l)] [] = .ok (.int (tOf ts l : Nat), []) := by
  rw [F_time_of]
  refine f_run ?_
  show OkS (b_time_of 0 ⟨[some (.pure (lD ts)), some (.pure (lD l)), none], []⟩) _
  rw [b_time_of]
  walk_at "s"
  rfl
end Lk70
end
section
namespace Lk70
/-- loads of pieces -/
def GL (ts l : List Nat) : Prop := l ≠ [] ∧ l.length ≤ 1000 ∧ ∀ i ∈ l, i < ts.length
theorem C_time {ts : List Nat} {L : List (List Nat)} {l : List Nat} {env : List (Option SV)} {st : Sto} (hL : ∀ l ∈ L, GL ts l) (hl : l ∈ L) : callS 2 F_time_of [.pure (lD ts), .pure (lD l)] ⟨env, st⟩ = .ok (.int (tOf ts l : Nat), st) :=
  call2 (F_time (hL l hl).2.2 (hL l hl).1 (hL l hl).2.1)
local macro_rules | `(tactic| walk_at "o") => `(tactic| first | with_reducible exact item_pc (by assumption) (by assumption) | with_reducible exact max_tm (by assumption))
local macro_rules | `(tactic| walk_at "c") => `(tactic| first | with_reducible exact C_time (by assumption) (by assumption))
local macro_rules | `(tactic| walk_at "w") => `(tactic| first | ((with_reducible apply w_seqT); (focus (exact e_slot (d := .tuple (List.map nD _)) rfl))) | ((with_reducible apply w_seqT); (focus (exact e_slot (d := .tuple (List.map lD _)) rfl))))
theorem F_span {ts : List Nat} {L : List (List Nat)} (hL : ∀ l ∈ L, GL ts l) (hn : L.length ≤ 1000) : F_load_span [.pure (lD ts), .pure (rD L)] [] = .ok (.int ((L.map (tOf ts)).sum : Nat), []) := by
  rw [F_load_span]
  refine f_run ?_
  show OkS (b_load_span 0 ⟨[some (.pure (lD ts)), some (.pure (rD L)), none], []⟩) _
  rw [b_load_span]
  walk_at "s"
  rfl
def sumL (ts : List Nat) (L : List (List Nat)) : Nat := cst (tOf ts) List.length 0 L
theorem cst_fold (ts : List Nat) : ∀ (L : List (List Nat)) (f e : Nat), (L.foldl (fun (p : Nat × Nat) l => (p.1 + (p.2 + tOf ts l) * l.length, p.2 + tOf ts l)) (f, e)).1 = f + cst (tOf ts) List.length e L
  | [], f, e => rfl
  | l :: L, f, e => by
    rw [List.foldl_cons, cst_fold ts L, cst]
    simp only
    omega
theorem end_fold (ts : List Nat) : ∀ (L : List (List Nat)) (f e : Nat), (L.foldl (fun (p : Nat × Nat) l => (p.1 + (p.2 + tOf ts l) * l.length, p.2 + tOf ts l)) (f, e)).2 = e + (L.map (tOf ts)).sum
  | [], f, e => rfl
  | l :: L, f, e => by
    rw [List.foldl_cons, end_fold ts L, List.map_cons, List.sum_cons]
    omega
theorem F_sum {ts : List Nat} {L : List (List Nat)} (hL : ∀ l ∈ L, GL ts l) : F_load_sum [.pure (lD ts), .pure (rD L)] [] = .ok (.int (sumL ts L : Nat), []) := by
  rw [F_load_sum]
  refine f_run ?_
  show OkS (b_load_sum 0 ⟨[some (.pure (lD ts)), some (.pure (rD L)), none, none, none], []⟩) _
  rw [b_load_sum]
  walk_at "s"
  refine s_fold L lD (fun p : Nat × Nat => ⟨[some (.pure (lD ts)), some (.pure (rD L)), some (.pure (.int (p.1 : Nat))), some (.pure (.int (p.2 : Nat))), none], []⟩) (fun p l => (p.1 + (p.2 + tOf ts l) * l.length, p.2 + tOf ts l)) (fun _ _ => True) (0, 0) (w_seqT (e_slot rfl)) rfl trivial (fun k hk p _ => ?_) fun _ => ?_
  · refine ⟨_, g_name rfl, ?_⟩
    have hm : L[k] ∈ L := List.getElem_mem hk
    have hl := hL _ hm
    generalize L[k] = l at hm hl
    have hlen : lenD (lD l) = some (.int (l.length : Nat)) := by
      show lenD (.tuple (l.map nD)) = _
      rw [lenD_tuple, List.length_map]
    have hmul : mulD (.int ((p.2 + tOf ts l : Nat) : Int)) (.int (l.length : Nat)) = some (.int (((p.2 + tOf ts l) * l.length : Nat) : Int)) := mulD_nat _ _ (.inr (by have := hl.2.1; omega))
    walk_at "s"
    exact ⟨rfl, rfl, trivial⟩
  · walk_at "s"
    have h0 := cst_fold ts L 0 0
    rw [Nat.zero_add] at h0
    show Res.ok (PyData.int ((L.foldl (fun (p : Nat × Nat) l => (p.1 + (p.2 + tOf ts l) * l.length, p.2 + tOf ts l)) (0, 0)).1 : Nat), ([] : Sto)) = _
    rw [h0]
    rfl
/-- the law's own sums -/
theorem F_both {ts : List Nat} {L : List (List Nat)} (hL : ∀ l ∈ L, GL ts l) : F__law_both [.pure (lD ts), .pure (rD L)] [] = .ok (.tuple [.int ((L.map (tOf ts)).sum : Nat), .int (sumL ts L : Nat)], []) := by
  rw [F__law_both]
  refine f_run ?_
  show OkS (b__law_both 0 ⟨[some (.pure (lD ts)), some (.pure (rD L)), none, none, none, none], []⟩) _
  rw [b__law_both]
  walk_at "s"
  refine s_fold L lD (fun p : Nat × Nat => ⟨[some (.pure (lD ts)), some (.pure (rD L)), some (.pure (.int (p.2 : Nat))), some (.pure (.int (p.1 : Nat))), none, none], []⟩) (fun p l => (p.1 + (p.2 + tOf ts l) * l.length, p.2 + tOf ts l)) (fun _ _ => True) (0, 0) (w_seqT (e_slot rfl)) rfl trivial (fun k hk p _ => ?_) fun _ => ?_
  · refine ⟨_, g_name rfl, ?_⟩
    have hm : L[k] ∈ L := List.getElem_mem hk
    obtain ⟨h1, h2, h3⟩ := hL _ hm
    generalize L[k] = l at hm h1 h2 h3
    have hsum : sumD (.list (l.map fun _ => PyData.int ((p.2 + tOf ts l : Nat) : Int))) = some (.int (((p.2 + tOf ts l) * l.length : Nat) : Int)) := by
      rw [sum_nat, List.map_const', List.sum_replicate_nat, Nat.mul_comm]
    walk_at "s"
    exact ⟨rfl, rfl, trivial⟩
  · walk_at "s"
    have h0 := cst_fold ts L 0 0
    have h1 := end_fold ts L 0 0
    rw [Nat.zero_add] at h0 h1
    show Res.ok (PyData.tuple [.int ((L.foldl (fun (p : Nat × Nat) l => (p.1 + (p.2 + tOf ts l) * l.length, p.2 + tOf ts l)) (0, 0)).2 : Nat), .int ((L.foldl (fun (p : Nat × Nat) l => (p.1 + (p.2 + tOf ts l) * l.length, p.2 + tOf ts l)) (0, 0)).1 : Nat)], ([] : Sto)) = _
    rw [h0, h1]
    rfl
/-! ### the least span -/
def dsc (ts : List Nat) : List Nat := ts.mergeSort fun a b => !Enc.nat.lt a b
theorem dsc_perm (ts : List Nat) : (dsc ts).Perm ts := List.mergeSort_perm _ _
theorem dsc_desc (ts : List Nat) : Desc (dsc ts) := by
  have := List.pairwise_mergeSort (le := fun a b => !Enc.nat.lt a b) (fun a b c h1 h2 => by simp only [Enc.lt_nat, Bool.not_eq_true', decide_eq_false_iff_not] at *; omega) (fun a b => by simp only [Enc.lt_nat, Bool.or_eq_true, Bool.not_eq_true', decide_eq_false_iff_not]; omega) ts
  exact this.imp fun {a b} z => by
    simp only [Enc.lt_nat, Bool.not_eq_true', decide_eq_false_iff_not] at z
    omega
def leastS (ts : List Nat) (w : Nat) : Nat := strd w (if 0 < ts.length then (ts.length - 1) / w + 1 else 0) (dsc ts)
theorem F_least_span_eq {ts : List Nat} {w : Nat} (hw : 1 ≤ w) (hw2 : w ≤ 100) (hn : ts.length ≤ 100) : F_least_span [.pure (lD ts), .pure (.int (w : Nat))] [] = .ok (.int (leastS ts w : Nat), []) := by
  rw [F_least_span]
  refine f_run ?_
  show OkS (b_least_span 0 ⟨[some (.pure (lD ts)), some (.pure (.int (w : Nat))), none, none], []⟩) _
  rw [b_least_span]
  have h1 : sortedRDD (lD ts) = some (.list ((dsc ts).map nD)) := sortedRT Enc.nat (by decide) (.inr fun d hd => by
    obtain ⟨x, _, rfl⟩ := List.mem_map.mp hd
    exact ⟨fun z => (by cases z), fun xs z => (by cases z)⟩)
  have hlen : (dsc ts).length = ts.length := (dsc_perm ts).length_eq
  have h2 : lenD (.list ((dsc ts).map nD)) = some (.int (ts.length : Nat)) := by rw [lenD_list, List.length_map, hlen]
  have hk : (if 0 < ts.length then (ts.length - 1) / w + 1 else 0) ≤ 1000 := by
    split
    · have := Nat.div_le_self (ts.length - 1) w; omega
    · omega
  have h3 : ∀ i ∈ List.range (if 0 < ts.length then (ts.length - 1) / w + 1 else 0), itemD (.list ((dsc ts).map nD)) (.int ((i * w : Nat) : Int)) = some (.int ((dsc ts).getD (i * w) 0 : Nat)) := fun i hi => by
    have hi := List.mem_range.mp hi
    have hlt : i * w < (dsc ts).length := by
      rw [hlen]
      split at hi
      · have h4 : i ≤ (ts.length - 1) / w := by omega
        have := Nat.mul_le_of_le_div w i _ h4
        omega
      · omega
    rw [itemD_list, List.getElem?_map, List.getElem?_eq_getElem hlt]
    simp [List.getD_eq_getElem?_getD, List.getElem?_eq_getElem hlt]
  refine okS_seq (s_set (e_pure (e_un (e_slot rfl) h1)) rfl (s_next ?_))
  refine s_ret (e_pure (e_un (e_lst (c_allN (List.range (if 0 < ts.length then (ts.length - 1) / w + 1 else 0)) (fun i => PyData.int ((i * w : Nat) : Int)) _ _ (fun i => PyData.int ((dsc ts).getD (i * w) 0 : Nat)) rfl (w_rangeS e_const (e_un (e_slot rfl) h2) (e_slot rfl) hw (by omega) (by omega)) (by rw [List.length_range]; omega) fun i hi => ⟨g_name rfl, t_yes, e_bin (e_slot rfl) (e_slot rfl) (h3 i hi)⟩)) (sum_nat _ _))) ?_
  rw [strd_sum]
  rfl
end Lk70
end
section
namespace Lk70
theorem adL (a b : List PyData) (h : a.length + b.length ≤ 1000000) : addD (.list a) (.list b) = some (.list (a ++ b)) := by
  simp only [addD]
  rw [if_pos (by omega)]
theorem lD_snoc (l : List Nat) (a : Nat) : PyData.tuple (l.map nD ++ [nD a]) = lD (l ++ [a]) := by
  unfold lD; rw [List.map_append]; rfl
theorem star_len {F : List (List Nat)} {l : List Nat} {x : PyData} (h : ∀ l ∈ F, l.length ≤ 1000) (hl : l ∈ F) : (l.map nD ++ [x]).length ≤ 16777216 := by
  have := h l hl
  simp; omega
theorem len_lD (l : List Nat) : lenD (lD l) = some (.int (l.length : Nat)) := by
  show lenD (.tuple (l.map nD)) = _
  rw [lenD_tuple, List.length_map]
local macro_rules | `(tactic| walk_at "len") => `(tactic| first | with_reducible exact star_len (by assumption) (by assumption))
local macro_rules | `(tactic| walk_at "o") => `(tactic| first | with_reducible exact len_lD _)
local macro_rules | `(tactic| walk_at "w") => `(tactic| first | ((with_reducible apply w_seqT); (focus (exact e_slot (d := .tuple (List.map nD _)) rfl))) | ((with_reducible apply w_seqT); (focus (exact e_slot (d := .tuple (List.map lD _)) rfl))))
theorem with_len (w first : Nat) : ∀ (others : List Nat) (F : List (List Nat)), (others.foldl (fun found one => found ++ (found.filter fun load => decide (load.length < w)).map fun load => load ++ [one]) F).length ≤ F.length * 2 ^ others.length
  | [], F => by simp
  | x :: others, F => by
    rw [List.foldl_cons]
    refine Nat.le_trans (with_len w first others _) ?_
    have : ((F.filter fun load => decide (load.length < w)).map fun load => load ++ [x]).length ≤ F.length := by rw [List.length_map]; exact List.length_filter_le _ _
    rw [List.length_append, List.length_cons, Nat.pow_succ, Nat.mul_comm (2 ^ others.length) 2, ← Nat.mul_assoc]
    exact Nat.mul_le_mul_right _ (by omega)
theorem F_with {w first : Nat} {others : List Nat} (hn : others.length ≤ 6) : F_loads_with [.pure (nD first), .pure (lD others), .pure (nD w)] [] = .ok (.list ((withL w first others).map lD), []) := by
  rw [F_loads_with]
  refine f_run ?_
  show OkS (b_loads_with 0 ⟨[some (.pure (nD first)), some (.pure (lD others)), some (.pure (nD w)), none, none, none], []⟩) _
  rw [b_loads_with]
  walk_at "s"
  refine s_fold others nD (fun F : List (List Nat) => ⟨[some (.pure (nD first)), some (.pure (lD others)), some (.pure (nD w)), some (.pure (.list (F.map lD))), none, none], []⟩) (fun found one => found ++ (found.filter fun load => decide (load.length < w)).map fun load => load ++ [one]) (fun k F => F.length ≤ 2 ^ k ∧ ∀ l ∈ F, l.length ≤ k + 1) [[first]] (w_seqT (e_slot rfl)) rfl ⟨by simp, fun l hl => by rw [List.mem_singleton.mp hl]; simp⟩ (fun k hk F hF => ?_) fun _ => ?_
  · refine ⟨_, g_name rfl, ?_⟩
    obtain ⟨hF1, hF2⟩ := hF
    have hk6 : 2 ^ k ≤ 2 ^ 6 := Nat.pow_le_pow_right (by decide) (by omega)
    have hF3 : ∀ l ∈ F, l.length ≤ 1000 := fun l hl => by have := hF2 l hl; omega
    have hFl : F.length ≤ 64 := by omega
    generalize others[k] = one
    have hadd : addD (.list (F.map lD)) (.list ((F.filter fun load => decide (load.length < w)).map fun load => PyData.tuple (load.map nD ++ [nD one]))) = some (.list ((F ++ (F.filter fun load => decide (load.length < w)).map fun load => load ++ [one]).map lD)) := by
      rw [adL _ _ (by
        have : (F.filter fun load => decide (load.length < w)).length ≤ F.length := List.length_filter_le _ _
        rw [List.length_map, List.length_map]; omega), List.map_append, List.map_map]
      congr 3
      apply List.map_congr_left
      intro l _
      exact lD_snoc l one
    walk_at "s"
    refine ⟨rfl, rfl, ?_, fun l hl => ?_⟩
    · have : ((F.filter fun load => decide (load.length < w)).map fun load => load ++ [one]).length ≤ F.length := by rw [List.length_map]; exact List.length_filter_le _ _
      rw [List.length_append, Nat.pow_succ]; omega
    · rcases List.mem_append.mp hl with z | z
      · have := hF2 l z; omega
      · obtain ⟨l', y, rfl⟩ := List.mem_map.mp z
        have := hF2 l' (List.mem_filter.mp y).1
        rw [List.length_append, List.length_singleton]; omega
  · walk_at "s"
    rfl
def bnd : Nat → Nat
  | 0 => 1
  | n + 1 => 2 ^ n * bnd n
theorem bnd_pos : ∀ n, 1 ≤ bnd n
  | 0 => Nat.le_refl _
  | n + 1 => Nat.mul_pos (Nat.pow_pos (by decide)) (bnd_pos n)
theorem bnd_mono {m n : Nat} (h : m ≤ n) : bnd m ≤ bnd n := by
  induction h with
  | refl => exact Nat.le_refl _
  | step h ih => exact Nat.le_trans ih (Nat.le_mul_of_pos_left _ (Nat.pow_pos (by decide)))
theorem flat_le {α β : Type} {f : α → List β} {B : Nat} : ∀ (l : List α), (∀ a ∈ l, (f a).length ≤ B) → (l.flatMap f).length ≤ l.length * B
  | [], _ => by simp
  | a :: l, h => by
    have ih := flat_le l fun b hb => h b (List.mem_cons_of_mem _ hb)
    have h1 := h a List.mem_cons_self
    rw [List.flatMap_cons, List.length_append, List.length_cons, Nat.succ_mul]
    omega
theorem part_len {w : Nat} (hw : 1 ≤ w) : ∀ (d : Nat) (left : List Nat), left.Pairwise (· < ·) → (partL w d left).length ≤ bnd left.length
  | 0, left, _ => by rw [partL]; exact Nat.zero_le _
  | d + 1, [], _ => by rw [partL]; exact Nat.le_refl _
  | d + 1, f :: others, asc => by
    rw [partL, List.length_cons, bnd]
    refine Nat.le_trans (flat_le (B := bnd others.length) _ fun l hl => ?_) (Nat.mul_le_mul_right _ (by have := with_len w f others [[f]]; simpa [withL] using this))
    obtain ⟨s, hs, rfl, _⟩ := (mem_with hw).mp hl
    rw [List.length_map]
    have hsub : (f :: s).Sublist (f :: others) := .cons_cons _ hs
    have hlt := less_len (asc_nodup asc) (asc_nodup (List.Pairwise.sublist hsub asc)) (fun x hx => hsub.subset hx) (by simp)
    exact Nat.le_trans (part_len hw d _ (less_asc asc)) (bnd_mono (by simpa using hlt))
theorem fold_flat {α β : Type} (g : α → List β) : ∀ (xs : List α) (acc : List β), xs.foldl (fun acc x => acc ++ g x) acc = acc ++ xs.flatMap g
  | [], acc => by simp
  | x :: xs, acc => by rw [List.foldl_cons, fold_flat g xs, List.flatMap_cons, List.append_assoc]
theorem notin_lD (x : Nat) (l : List Nat) : notInD (nD x) (lD l) = some (.bool (!decide (x ∈ l))) := Enc.nat.notInT (by decide) x l
theorem rD_cons (l : List Nat) (P : List (List Nat)) : PyData.tuple (lD l :: (P.map lD ++ [])) = rD (l :: P) := by
  rw [List.append_nil]; rfl
end Lk70
end
section
namespace Lk70
theorem tup_len {P : List (List Nat)} {Ps : List (List (List Nat))} {x : PyData} (h : ∀ P ∈ Ps, P.length ≤ 1000) (hP : P ∈ Ps) : (x :: (P.map lD ++ [])).length ≤ 16777216 := by
  have := h P hP
  simp; omega
theorem okP_len {w : Nat} : ∀ {left : List Nat} {P : List (List Nat)}, left.Pairwise (· < ·) → OkP w left P → P.length ≤ left.length
  | left, [], _, _ => Nat.zero_le _
  | left, l :: P, asc, o => by
    obtain ⟨⟨a1, _, a3⟩, o⟩ := (okP_cons asc).mp o
    have := okP_len (less_asc asc) o
    have := less_len (asc_nodup asc) (asc_nodup (List.Pairwise.sublist a3 asc)) (fun x hx => a3.subset hx) a1
    rw [List.length_cons]
    omega
local macro_rules | `(tactic| walk_at "len") => `(tactic| first | with_reducible exact tup_len (by assumption) (by assumption))
local macro_rules | `(tactic| walk_at "o") => `(tactic| first | with_reducible exact len_lD _ | with_reducible exact notin_lD _ _)
theorem F_part {w : Nat} (hw : 1 ≤ w) : ∀ {d : Nat} {left : List Nat}, left.Pairwise (· < ·) → left.length ≤ 6 → left.length < d → F_partings d [.pure (lD left), .pure (nD w)] [] = .ok (.list ((partL w d left).map rD), [])
  | 0, left, _, _, h => absurd h (Nat.not_lt_zero _)
  | d + 1, [], asc, h6, h => by
    rw [F_partings]
    refine f_run ?_
    show OkS (b_partings (F_partings d) 0 ⟨[some (.pure (lD [])), some (.pure (nD w)), none, none, none, none, none], []⟩) _
    rw [b_partings]
    refine okS_seq (s_ifT (t_cmp (e_un (e_slot rfl) (len_lD [])) e_const (eqD_nat0 0)) (s_ret (e_pure (e_lstE (a_cons (e_tup a_nil p_nil (by simp)) a_nil) (p_cons p_nil) (by simp))) (s_ret' ?_)))
    rfl
  | d + 1, f :: others, asc, h6, h => by
    rw [List.length_cons] at h6 h
    rw [F_partings]
    refine f_run ?_
    show OkS (b_partings (F_partings d) 0 ⟨[some (.pure (lD (f :: others))), some (.pure (nD w)), none, none, none, none, none], []⟩) _
    rw [b_partings]
    have hT : lenD (lD (f :: others)) = some (.int ((others.length + 1 : Nat) : Int)) := len_lD _
    have hit : itemD (lD (f :: others)) (.int 0) = some (nD f) := itemD_tuple (i := 0)
    have hsl : sliceD (lD (f :: others)) (some 1) none = some (lD others) := slice_from_t nD (f :: others) 1
    refine okS_seq (s_ifF (t_cmp (e_un (e_slot rfl) hT) e_const ((eqD_nat0 _).trans (by rw [decide_eq_false (by omega)]))) (s_nil (s_next ?_)))
    refine okS_seq (s_set (e_lstV a_nil p_nil (by simp) rfl rfl) rfl (s_next ?_))
    have hW : ((withL w f others)).length ≤ 64 := by
      have := with_len w f others [[f]]
      have h2 : 2 ^ others.length ≤ 2 ^ 6 := Nat.pow_le_pow_right (by decide) (by omega)
      simp only [withL]
      simp at this
      omega
    refine okS_seq (s_fold (withL w f others) lD (fun acc : List (List (List Nat)) => ⟨[some (.pure (lD (f :: others))), some (.pure (nD w)), some (.obj 0), none, none, none, none], [.lst (acc.map rD)]⟩) (fun acc load => acc ++ (partL w d (less (f :: others) load)).map fun more => load :: more) (fun k acc => acc.length ≤ k * bnd others.length) []
      (w_seqL (e_call (a_cons (e_bin (e_slot rfl) e_const hit) (a_cons (e_slice (e_slot rfl) (o_some' e_const) o_none' hsl) (a_slot rfl a_nil))) (call3 (F_with (by omega))))) rfl (by simp) (fun k hk acc hacc => ?_) fun _ => ?_)
    · refine ⟨_, g_name rfl, ?_⟩
      have hm : (withL w f others)[k] ∈ withL w f others := List.getElem_mem hk
      generalize (withL w f others)[k] = load at hm
      obtain ⟨s, hs, rfl, _⟩ := (mem_with hw).mp hm
      have hsub : (f :: s).Sublist (f :: others) := .cons_cons _ hs
      have hlt := less_len (asc_nodup asc) (asc_nodup (List.Pairwise.sublist hsub asc)) (fun x hx => hsub.subset hx) (by simp)
      rw [List.length_cons] at hlt
      have asc' := less_asc (l := f :: s) asc
      have ih := F_part hw (d := d) asc' (by omega) (by omega)
      have hpl := part_len hw d _ asc'
      have hb := bnd_mono (m := (less (f :: others) (f :: s)).length) (n := others.length) (by omega)
      have hb6 : bnd others.length ≤ bnd 5 := bnd_mono (by omega)
      have hb5 : bnd 5 = 1024 := by decide
      have hmul : k * bnd others.length ≤ 64 * 1024 := Nat.mul_le_mul (by omega) (by omega)
      have hP : ∀ P ∈ partL w d (less (f :: others) (f :: s)), P.length ≤ 1000 := fun P hP => by
        have := okP_len asc' (part_ok hw asc' hP); omega
      have eless : ((f :: others).filter fun x => !decide (x ∈ f :: s)) = less (f :: others) (f :: s) := rfl
      have etup : tupleD (.list (((f :: others).filter fun x => !decide (x ∈ f :: s)).map nD)) = some (lD (less (f :: others) (f :: s))) := by rw [tupleD_list, eless]; rfl
      generalize less (f :: others) (f :: s) = rest at *
      generalize partL w d rest = Ps at *
      generalize f :: s = load at *
      have c1 : ∀ env st, callS 2 (F_partings d) [.pure (lD rest), .pure (nD w)] ⟨env, st⟩ = .ok (.list (Ps.map rD), st) := fun env st => call2 ih
      refine okS_seq (s_set (e_pure (e_un (e_lst (c_pureN (f :: others) nD _ _ (fun x => !decide (x ∈ load)) nD rfl (w_seqT (e_slot rfl)) (by rw [List.length_cons]; omega) fun x hx => ⟨g_name rfl, t_cmp (e_slot rfl) (e_slot rfl) (notin_lD _ _), e_slot rfl⟩)) etup)) rfl (s_next ?_))
      have hl : (Ps.map fun P => PyData.tuple (lD load :: (P.map lD ++ []))).length = Ps.length := List.length_map ..
      refine s_drop (e_ext rfl rfl (c_allN Ps rD _ _ (fun P => PyData.tuple (lD load :: (P.map lD ++ []))) rfl (w_seqL (e_call (a_slot rfl (a_slot rfl a_nil)) (c1 _ _))) (by omega) fun P hP' => ⟨g_name rfl, t_yes, e_tup (a_cons (e_slot rfl) (a_starT (e_slot rfl) a_nil)) (p_cons (p_star p_nil)) (tup_len hP hP')⟩) rfl (by rw [List.length_map, hl]; omega) rfl) ?_
      refine ⟨rfl, ?_, ?_⟩
      · have em : (Ps.map fun P => PyData.tuple (lD load :: (P.map lD ++ []))) = (Ps.map fun more => load :: more).map rD := by
          rw [List.map_map]
          apply List.map_congr_left
          intro P _
          exact rD_cons load P
        rw [em, ← List.map_append]
        rfl
      · rw [List.length_append, List.length_map, Nat.succ_mul]
        omega
    · refine s_next (s_ret (e_slotV rfl) ?_)
      rw [fold_flat, List.nil_append]
      show Res.ok (PyData.list _, ([] : Sto)) = _
      rw [partL]
end Lk70
end
section
namespace Lk70
abbrev keyE : Enc (Nat × List Nat) := Enc.tup2 Enc.nat loadE
abbrev pairE : Enc (Nat × List (List Nat)) := Enc.tup2 Enc.nat rowE
def key (ts l : List Nat) : Nat × List Nat := (tOf ts l * 60 / l.length, l)
def srt (ts : List Nat) (P : List (List Nat)) : List (List Nat) := P.mergeSort fun a b => !keyE.lt (key ts b) (key ts a)
theorem srt_perm (ts : List Nat) (P : List (List Nat)) : (srt ts P).Perm P := List.mergeSort_perm _ _
theorem smith {T T' n n' : Nat} (h1 : 1 ≤ n) (h2 : n ≤ 5) (h1' : 1 ≤ n') (h2' : n' ≤ 5) (h : T * 60 / n ≤ T' * 60 / n') : T * n' ≤ T' * n := by
  have e1 : n = 1 ∨ n = 2 ∨ n = 3 ∨ n = 4 ∨ n = 5 := by omega
  have e2 : n' = 1 ∨ n' = 2 ∨ n' = 3 ∨ n' = 4 ∨ n' = 5 := by omega
  rcases e1 with rfl | rfl | rfl | rfl | rfl <;> rcases e2 with rfl | rfl | rfl | rfl | rfl <;> omega
theorem srt_smith {ts : List Nat} {P : List (List Nat)} (hP : ∀ l ∈ P, l ≠ [] ∧ l.length ≤ 5) : (srt ts P).Pairwise fun a b => tOf ts a * b.length ≤ tOf ts b * a.length := by
  have h := List.pairwise_mergeSort (le := fun a b : List Nat => !keyE.lt (key ts b) (key ts a)) (fun a b c h1 h2 => by
    simp only [Bool.not_eq_true'] at *
    exact keyE.le_trans h1 h2) (fun a b => by
    simp only [Bool.or_eq_true, Bool.not_eq_true']
    cases z : keyE.lt (key ts b) (key ts a) with
    | false => exact .inl rfl
    | true => exact .inr (keyE.asymm z)) P
  refine List.Pairwise.imp_of_mem (fun {a b} ha hb hab => ?_) h
  have ha := hP a ((srt_perm ts P).mem_iff.mp ha)
  have hb := hP b ((srt_perm ts P).mem_iff.mp hb)
  simp only [Bool.not_eq_true'] at hab
  rw [Enc.lt_tup2, Enc.lt_nat] at hab
  simp only [Bool.or_eq_false_iff, decide_eq_false_iff_not] at hab
  have pa := List.length_pos_iff.mpr ha.1
  have pb := List.length_pos_iff.mpr hb.1
  exact smith (T := tOf ts a) (T' := tOf ts b) (n := a.length) (n' := b.length) pa ha.2 pb hb.2 (by have := hab.1; unfold key at this; simp only at this; omega)
theorem okP_GL {w : Nat} {ts : List Nat} {P : List (List Nat)} (hw : w ≤ 5) (o : OkP w (List.range ts.length) P) : ∀ l ∈ P, GL ts l := fun l hl => by
  obtain ⟨h1, h2, _⟩ := o.1 l hl
  refine ⟨h1, by omega, fun i hi => ?_⟩
  exact List.mem_range.mp (o.2.mem_iff.mp (List.mem_flatten.mpr ⟨l, hl, hi⟩))
theorem sum_srt {w : Nat} {ts : List Nat} {P Q : List (List Nat)} (hw : w ≤ 5) (o : OkP w (List.range ts.length) P) (hp : Q.Perm P) : sumL ts (srt ts Q) ≤ sumL ts P :=
  cst_least _ _ P 0 (srt_smith fun l hl => by
    have := o.1 l (hp.mem_iff.mp hl)
    exact ⟨this.1, by omega⟩) ((srt_perm ts Q).trans hp)
theorem div_nat (x n : Nat) (h : 0 < n) (h2 : n < 1073741824) : fdivD (.int (x : Int)) (.int (n : Int)) = some (.int ((x / n : Nat) : Int)) := by
  rw [fdivD_int (by omega) (by omega)]
  congr 2
theorem mul60 (x : Nat) : mulD (.int (x : Int)) (.int 60) = some (.int ((x * 60 : Nat) : Int)) := mulD_nat x 60 (.inr (by decide))
theorem fold_map {α β : Type} (g : α → β) : ∀ (xs : List α) (acc : List β), xs.foldl (fun acc x => acc ++ [g x]) acc = acc ++ xs.map g
  | [], acc => by simp
  | x :: xs, acc => by rw [List.foldl_cons, fold_map g xs, List.map_cons, List.append_assoc]; rfl
theorem one_by_one {w : Nat} (hw : 1 ≤ w) (left : List Nat) : OkP w left (left.map fun i => [i]) := by
  refine ⟨fun l hl => ?_, ?_⟩
  · obtain ⟨i, _, rfl⟩ := List.mem_map.mp hl
    exact ⟨by simp, by simpa using hw, by simp⟩
  · have : (left.map fun i => [i]).flatten = left := by
      induction left with
      | nil => rfl
      | cons x l ih => rw [List.map_cons, List.flatten_cons, ih]; rfl
    rw [this]
theorem F_best {ts : List Nat} {w : Nat} (hw : 1 ≤ w) (hw5 : w ≤ 5) (hn1 : 1 ≤ ts.length) (hn : ts.length ≤ 6) : ∃ L, OkP w (List.range ts.length) L ∧ (∀ P, OkP w (List.range ts.length) P → sumL ts L ≤ sumL ts P) ∧ F_best_loads [.pure (lD ts), .pure (nD w)] [] = .ok (rD L, []) := by
  have asc : (List.range ts.length).Pairwise (· < ·) := List.pairwise_lt_range
  have hlr : (List.range ts.length).length = ts.length := List.length_range
  have hpl := part_len hw 7 (List.range ts.length) asc
  have hok : ∀ P ∈ partL w 7 (List.range ts.length), OkP w (List.range ts.length) P := fun P hP => part_ok hw asc hP
  have hall : ∀ P, OkP w (List.range ts.length) P → ∃ Q ∈ partL w 7 (List.range ts.length), Q.Perm P := fun P o => part_all hw asc (by omega) o
  have hF := F_part hw (d := 7) asc (by omega) (by omega)
  have hbn : (partL w 7 (List.range ts.length)).length ≤ 32768 := by
    have h6 := bnd_mono (m := (List.range ts.length).length) (n := 6) (by omega)
    have : bnd 6 = 32768 := by decide
    omega
  generalize partL w 7 (List.range ts.length) = Ps at *
  have hne : (Ps.map fun P => (sumL ts (srt ts P), srt ts P)) ≠ [] := by
    intro z
    rw [List.map_eq_nil_iff] at z
    obtain ⟨Q, hQ, _⟩ := hall _ (one_by_one hw (List.range ts.length))
    rw [z] at hQ
    cases hQ
  obtain ⟨m, m1, m2, m3⟩ := pairE.minL (by decide) hne
  obtain ⟨P0, hP0, rfl⟩ := List.mem_map.mp m2
  refine ⟨srt ts P0, (hok P0 hP0).perm (srt_perm ts P0), fun P o => ?_, ?_⟩
  · obtain ⟨Q, hQ, hp⟩ := hall P o
    have h1 := sum_srt hw5 o hp
    have h2 := m3 _ (List.mem_map.mpr ⟨Q, hQ, rfl⟩)
    rw [Enc.lt_tup2, Enc.lt_nat] at h2
    simp only [Bool.or_eq_false_iff, decide_eq_false_iff_not] at h2
    have := h2.1
    omega
  · rw [F_best_loads]
    refine f_run ?_
    show OkS (b_best_loads 0 ⟨[some (.pure (lD ts)), some (.pure (nD w)), none, none, none, none], []⟩) _
    rw [b_best_loads]
    refine okS_seq (s_set (e_lstV a_nil p_nil (by simp) rfl rfl) rfl (s_next ?_))
    refine okS_seq (s_fold Ps rD (fun acc : List (Nat × List (List Nat)) => ⟨[some (.pure (lD ts)), some (.pure (nD w)), some (.obj 0), none, none, none], [.lst (acc.map pairE.f)]⟩) (fun acc P => acc ++ [(sumL ts (srt ts P), srt ts P)]) (fun k acc => acc.length = k) []
      (w_seqL (e_call (a_cons (e_rg1 (e_un (e_slot rfl) (len_lD ts)) (by omega)) (a_slot rfl a_nil)) (call2 hF))) rfl rfl (fun k hk acc hacc => ?_) fun _ => ?_)
    · refine ⟨_, g_name rfl, ?_⟩
      have hm : Ps[k] ∈ Ps := List.getElem_mem hk
      generalize Ps[k] = P at hm
      have hgl := okP_GL hw5 (hok P hm)
      have hgs : ∀ l ∈ srt ts P, GL ts l := fun l hl => hgl l ((srt_perm ts P).mem_iff.mp hl)
      have hsort : PySem.W.Sortable ((P.map (key ts)).map keyE.f) := .inl fun d hd => by
        obtain ⟨x, _, rfl⟩ := List.mem_map.mp hd
        exact ⟨_, _, rfl⟩
      refine okS_seq (s_set (e_pure (e_un (e_sortK keyE (by decide) P lD (key ts) rfl (e_slot rfl) (fun l hl => e_tup (a_cons (e_bin (e_bin (e_call (a_slot rfl (a_slot rfl a_nil)) (C_time hgl hl)) e_const (mul60 _)) (e_un (e_slot rfl) (len_lD l)) (div_nat _ _ (List.length_pos_iff.mpr (hgl l hl).1) (by have := (hgl l hl).2.1; omega))) (a_cons (e_slot rfl) a_nil)) (p_cons (p_cons p_nil)) (by simp)) hsort) (tupleD_list _))) rfl (s_next ?_))
      have cs : ∀ env st, callS 2 F_load_sum [.pure (lD ts), .pure (rD (srt ts P))] ⟨env, st⟩ = .ok (.int (sumL ts (srt ts P) : Nat), st) := fun env st => call2 (F_sum hgs)
      refine s_drop (e_app rfl rfl (e_tup (a_cons (e_call (a_slot rfl (a_slot rfl a_nil)) (cs _ _)) (a_cons (e_slot rfl) a_nil)) (p_cons (p_cons p_nil)) (by simp)) rfl (by rw [List.length_map]; omega) rfl) ?_
      refine ⟨rfl, ?_, by rw [List.length_append, List.length_singleton, hacc]⟩
      rw [List.map_append]
      rfl
    · refine s_next ?_
      have ef : Ps.foldl (fun acc P => acc ++ [(sumL ts (srt ts P), srt ts P)]) [] = Ps.map fun P => (sumL ts (srt ts P), srt ts P) := by
        rw [fold_map, List.nil_append]
      rw [ef]
      refine s_ret (e_pure (e_bin (e_un (e_cur rfl rfl) m1) e_const (itemD_tuple (i := 1)))) ?_
      rfl
end Lk70
end
section
namespace Lk70
theorem adL2 (a b : List PyData) (h : a.length + b.length ≤ 16777216) : addD (.list a) (.list b) = some (.list (a ++ b)) := by
  simp only [addD]
  rw [if_pos h]
theorem adT (a b : List PyData) (h : a.length + b.length ≤ 1000000) : addD (.tuple a) (.tuple b) = some (.tuple (a ++ b)) := by
  simp only [addD]
  rw [if_pos (by omega)]
theorem ad_lD {F : List (List Nat)} {l : List Nat} {a : Nat} (h : ∀ l ∈ F, l.length ≤ 1000) (hl : l ∈ F) : addD (lD l) (.tuple [nD a]) = some (lD (l ++ [a])) := by
  have := h l hl
  rw [lD, adT _ _ (by simp; omega), lD_snoc]
theorem F_least_sum_eq {ts : List Nat} {w : Nat} {L : List (List Nat)} (hw5 : w ≤ 5) (o : OkP w (List.range ts.length) L) (h : F_best_loads [.pure (lD ts), .pure (nD w)] [] = .ok (rD L, [])) : F_least_sum [.pure (lD ts), .pure (nD w)] [] = .ok (.int (sumL ts L : Nat), []) := by
  rw [F_least_sum]
  refine f_run ?_
  show OkS (b_least_sum 0 ⟨[some (.pure (lD ts)), some (.pure (nD w))], []⟩) _
  rw [b_least_sum]
  refine s_ret (e_pure (e_call (a_slot rfl (a_cons (e_call (a_slot rfl (a_slot rfl a_nil)) (call2 h)) a_nil)) (call2 (F_sum (okP_GL hw5 o))))) ?_
  rfl
theorem sets_len (items : List Nat) : ∀ (F : List (List Nat)), (items.foldl (fun found it => found ++ found.map fun one => one ++ [it]) F).length = F.length * 2 ^ items.length := by
  induction items with
  | nil => intro F; simp
  | cons x items ih =>
    intro F
    rw [List.foldl_cons, ih, List.length_append, List.length_map, List.length_cons, Nat.pow_succ, ← Nat.mul_two, Nat.mul_assoc, Nat.mul_comm 2]
theorem F_sets {items : List Nat} (hn : items.length ≤ 6) : F__law_sets [.pure (lD items)] [] = .ok (.list ((setsL items).map lD), []) := by
  rw [F__law_sets]
  refine f_run ?_
  show OkS (b__law_sets 0 ⟨[some (.pure (lD items)), none, none, none], []⟩) _
  rw [b__law_sets]
  refine okS_seq (s_set (e_pure (e_lstE (a_cons (e_tup a_nil p_nil (by simp)) a_nil) (p_cons p_nil) (by simp))) rfl (s_next ?_))
  refine okS_seq (s_fold items nD (fun F : List (List Nat) => ⟨[some (.pure (lD items)), some (.pure (.list (F.map lD))), none, none], []⟩) (fun found it => found ++ found.map fun one => one ++ [it]) (fun k F => F.length ≤ 2 ^ k ∧ ∀ l ∈ F, l.length ≤ k) [[]] (w_seqT (e_slot rfl)) rfl ⟨by simp, fun l hl => by rw [List.mem_singleton.mp hl]; simp⟩ (fun k hk F hF => ?_) fun _ => ?_)
  · refine ⟨_, g_name rfl, ?_⟩
    obtain ⟨hF1, hF2⟩ := hF
    have hk6 : 2 ^ k ≤ 2 ^ 6 := Nat.pow_le_pow_right (by decide) (by omega)
    have hF3 : ∀ l ∈ F, l.length ≤ 1000 := fun l hl => by have := hF2 l hl; omega
    generalize items[k] = one
    have hadd : addD (.list (F.map lD)) (.list (F.map fun l => lD (l ++ [one]))) = some (.list ((F ++ F.map fun l => l ++ [one]).map lD)) := by
      rw [adL2 _ _ (by rw [List.length_map, List.length_map]; omega), List.map_append, List.map_map]
      rfl
    refine s_set (e_pure (e_bin (e_slot rfl) (e_lst (c_allN F lD _ _ (fun l => lD (l ++ [one])) rfl (w_seqL (e_slot rfl)) (by omega) fun l hl => ⟨g_name rfl, t_yes, e_bin (e_slot rfl) (e_tup (a_cons (e_slot rfl) a_nil) (p_cons p_nil) (by simp)) (ad_lD hF3 hl)⟩)) hadd)) rfl ?_
    refine ⟨rfl, rfl, ?_, fun l hl => ?_⟩
    · rw [List.length_append, List.length_map, Nat.pow_succ]; omega
    · rcases List.mem_append.mp hl with z | z
      · have := hF2 l z; omega
      · obtain ⟨l', y, rfl⟩ := List.mem_map.mp z
        have := hF2 l' y
        rw [List.length_append, List.length_singleton]; omega
  · exact s_next (s_ret (e_slotV rfl) rfl)
def bn2 : Nat → Nat
  | 0 => 1
  | n + 1 => 2 ^ (n + 1) * bn2 n
theorem bn2_mono {m n : Nat} (h : m ≤ n) : bn2 m ≤ bn2 n := by
  induction h with
  | refl => exact Nat.le_refl _
  | step h ih => exact Nat.le_trans ih (Nat.le_mul_of_pos_left _ (Nat.pow_pos (by decide)))
theorem ad_rD {l : List Nat} {P : List (List Nat)} (h : P.length ≤ 1000) : addD (.tuple [lD l]) (rD P) = some (rD (l :: P)) := by
  rw [rD, adT _ _ (by simp; omega)]
  rfl
theorem eq_nil (l : List Nat) : eqD (lD l) (.tuple []) = some (.bool (decide (l = []))) := by
  have := loadE.eqD_e (by decide) l []
  exact this
theorem chain_len {w : Nat} {l : List Nat} : (decide ((0 : Int) < (l.length : Nat)) && decide (((l.length : Nat) : Int) ≤ (w : Nat))) = decide (0 < l.length ∧ l.length ≤ w) := by
  rw [Bool.eq_iff_iff]
  simp only [Bool.and_eq_true, decide_eq_true_eq]
  omega
theorem F_rows {w : Nat} : ∀ {d : Nat} {left : List Nat}, left.Pairwise (· < ·) → left.length ≤ 6 → left.length < d → F__law_loads d [.pure (lD left), .pure (nD w)] [] = .ok (.list ((rowsL w d left).map rD), []) ∧ (rowsL w d left).length ≤ bn2 left.length
  | 0, left, _, _, h => absurd h (Nat.not_lt_zero _)
  | d + 1, left, asc, h6, h => by
    rw [F__law_loads]
    suffices hs : OkS (b__law_loads (F__law_loads d) 0 ⟨[some (.pure (lD left)), some (.pure (nD w)), none, none, none, none, none], []⟩) fun fl s' => endF 0 (.ok (fl, s')) = .ok (.list ((rowsL w (d + 1) left).map rD), []) ∧ (rowsL w (d + 1) left).length ≤ bn2 left.length by
      obtain ⟨fl, s', e, h1, h2⟩ := hs.get
      exact ⟨f_run (hs.mono fun fl s' h => h.1), h2⟩
    rw [b__law_loads]
    by_cases e : left = []
    · subst e
      refine okS_seq (s_ifT (t_cmp (e_slot rfl) (e_tup a_nil p_nil (by simp)) (eq_nil [])) (s_ret (e_pure (e_lstE (a_cons (e_tup a_nil p_nil (by simp)) a_nil) (p_cons p_nil) (by simp))) (s_ret' ?_)))
      exact ⟨rfl, by rw [rowsL, if_pos rfl]; exact Nat.le_refl _⟩
    · refine okS_seq (s_ifF (t_cmp (e_slot rfl) (e_tup a_nil p_nil (by simp)) ((eq_nil left).trans (by rw [decide_eq_false e]))) (s_nil (s_next ?_)))
      refine okS_seq (s_set (e_pure (e_lstE a_nil p_nil (by simp))) rfl (s_next ?_))
      obtain ⟨n', hn'⟩ : ∃ n', left.length = n' + 1 := ⟨left.length - 1, by have := List.length_pos_iff.mpr e; omega⟩
      have hsl : (setsL left).length = 2 ^ left.length := by have := sets_len left [[]]; simpa [setsL] using this
      refine okS_seq (s_fold (setsL left) lD (fun acc : List (List (List Nat)) => ⟨[some (.pure (lD left)), some (.pure (nD w)), some (.pure (.list (acc.map rD))), none, none, none, none], []⟩) (fun found some => if 0 < some.length ∧ some.length ≤ w then found ++ (rowsL w d (less left some)).map fun more => some :: more else found) (fun k acc => acc.length ≤ k * bn2 n') []
        (w_seqL (e_call (a_slot rfl a_nil) (call1 (F_sets h6)))) rfl (by simp) (fun k hk acc hacc => ?_) fun hq => ?_)
      · refine ⟨_, g_name rfl, ?_⟩
        have hm : (setsL left)[k] ∈ setsL left := List.getElem_mem hk
        generalize (setsL left)[k] = l at hm
        have hsub := mem_sets.mp hm
        refine s_if (t_val (e_chain e_const (e_un (e_slot rfl) (len_lD l)) (ltD_int _ _) (e_slot rfl) (leD_int _ _))) (fun hk2 => ?_) (fun hk2 => ?_)
        · rw [chain_len, decide_eq_true_eq] at hk2
          have hln : l ≠ [] := List.length_pos_iff.mp hk2.1
          have hlt := less_len (asc_nodup asc) (asc_nodup (List.Pairwise.sublist hsub asc)) (fun x hx => hsub.subset hx) hln
          have asc' := less_asc (l := l) asc
          obtain ⟨ih, ihl⟩ := F_rows (w := w) (d := d) asc' (by omega) (by omega)
          have hb := bn2_mono (m := (less left l).length) (n := n') (by omega)
          have hb5 : bn2 n' ≤ bn2 5 := bn2_mono (by omega)
          have e5 : bn2 5 = 32768 := by decide
          have h64 : k ≤ 64 := by
            have h2 : 2 ^ left.length ≤ 2 ^ 6 := Nat.pow_le_pow_right (by decide) (by omega)
            omega
          have hmul : k * bn2 n' ≤ 64 * 32768 := Nat.mul_le_mul h64 (by omega)
          have hP : ∀ P ∈ rowsL w d (less left l), P.length ≤ 1000 := fun P hP => by
            have := okP_len asc' ((mem_rows asc' (by omega)).mp hP); omega
          have eless : (left.filter fun x => !decide (x ∈ l)) = less left l := rfl
          have etup : tupleD (.list ((left.filter fun x => !decide (x ∈ l)).map nD)) = some (lD (less left l)) := by rw [tupleD_list, eless]; rfl
          rw [if_pos hk2]
          generalize less left l = rest at *
          generalize rowsL w d rest = Ps at *
          refine okS_seq (s_set (e_pure (e_un (e_lst (c_pureN left nD _ _ (fun x => !decide (x ∈ l)) nD rfl (w_seqT (e_slot rfl)) (by omega) fun x hx => ⟨g_name rfl, t_cmp (e_slot rfl) (e_slot rfl) (notin_lD _ _), e_slot rfl⟩)) etup)) rfl (s_next ?_))
          have hadd : addD (.list (acc.map rD)) (.list (Ps.map fun P => rD (l :: P))) = some (.list ((acc ++ Ps.map fun more => l :: more).map rD)) := by
            rw [adL2 _ _ (by rw [List.length_map, List.length_map]; omega), List.map_append, List.map_map]
            rfl
          refine s_set (e_pure (e_bin (e_slot rfl) (e_lst (c_allN Ps rD _ _ (fun P => rD (l :: P)) rfl (w_seqL (e_call (a_slot rfl (a_slot rfl a_nil)) (call2 ih))) (by omega) fun P hP' => ⟨g_name rfl, t_yes, e_bin (e_tup (a_cons (e_slot rfl) a_nil) (p_cons p_nil) (by simp)) (e_slot rfl) (ad_rD (hP P hP'))⟩)) hadd)) rfl ?_
          exact ⟨rfl, rfl, by rw [List.length_append, List.length_map, Nat.succ_mul]; omega⟩
        · rw [chain_len, decide_eq_false_iff_not] at hk2
          rw [if_neg hk2]
          exact s_nil ⟨rfl, rfl, by rw [Nat.succ_mul]; omega⟩
      · refine s_next (s_ret (e_slotV rfl) ?_)
        have er : rowsL w (d + 1) left = (setsL left).foldl (fun found some => if 0 < some.length ∧ some.length ≤ w then found ++ (rowsL w d (less left some)).map fun more => some :: more else found) [] := by rw [rowsL, if_neg e]
        rw [er]
        refine ⟨rfl, ?_⟩
        rw [hsl, hn'] at hq
        rw [hn', bn2]
        exact hq
end Lk70
end
section
namespace Lk70
theorem isNum_int {v : PyData} {lo hi : Int} (h : isNum v lo hi = true) : ∃ i, v = .int i ∧ lo ≤ i ∧ i ≤ hi := by
  cases v <;> simp [isNum] at h
  exact ⟨_, rfl, h.1, h.2⟩
theorem C_num (v : PyData) (lo hi : Int) {env : List (Option SV)} {st : Sto} : callS 3 F_is_number [.pure v, .pure (.int lo), .pure (.int hi)] ⟨env, st⟩ = .ok (.bool (isNum v lo hi), st) := call3 (F_is_number_eq v lo hi)
local macro_rules | `(tactic| walk_at "c") => `(tactic| first | with_reducible exact C_num _ _ _)
def piecesB : PyData → Bool
  | .tuple ds => decide ((1 : Int) ≤ (ds.length : Nat)) && decide (((ds.length : Nat) : Int) ≤ 7) && ds.all fun x => isNum x 1 50
  | _ => false
theorem F_pieces (v : PyData) : F_are_pieces [.pure v] [] = .ok (.bool (piecesB v), []) := by
  rw [F_are_pieces]
  refine f_run ?_
  show OkS (b_are_pieces 0 ⟨[some (.pure v), none], []⟩) _
  rw [b_are_pieces]
  cases v with
  | tuple ds =>
    have hl : lenD (.tuple ds) = some (.int (ds.length : Nat)) := lenD_tuple ds
    refine okS_seq (s_if (t_orF (t_not (t_val (e_isi (e_slot rfl) rfl))) rfl (t_not (t_val (e_chain e_const (e_un (e_slot rfl) hl) (leD_int _ _) e_const (leD_int _ _))))) (fun hk => ?_) (fun hk => ?_))
    · refine s_ret (e_pure e_const) (s_ret' ?_)
      simp only [Bool.not_eq_true'] at hk
      simp only [piecesB, hk, Bool.false_and]
      rfl
    · refine s_nil (s_next (s_ret (e_pure (q_allI ds _ _ _ rfl (w_seqT (e_slot rfl)) fun x hx => ⟨g_name rfl, t_yes, e_call (a_slot rfl (a_cons e_const (a_cons e_const a_nil))) (C_num _ _ _)⟩)) ?_))
      simp only [Bool.not_eq_false'] at hk
      simp only [piecesB, hk, Bool.true_and]
      rfl
  | _ =>
    refine okS_seq (s_ifT (t_orT (t_not (t_val (e_isi (e_slot rfl) rfl))) rfl) (s_ret (e_pure e_const) (s_ret' ?_)))
    rfl
/-! ### loads -/
theorem asc_chain : ∀ (l : List Nat), ((List.range (l.length - 1)).all fun i => decide (l.getD i 0 < l.getD (i + 1) 0)) = true ↔ l.Pairwise (· < ·)
  | [] => by simp
  | [a] => by simp
  | a :: b :: l => by
    have ih := asc_chain (b :: l)
    have e : (a :: b :: l).length - 1 = ((b :: l).length - 1) + 1 := by simp
    rw [e, List.range_succ_eq_map, List.all_cons, List.all_map, Bool.and_eq_true]
    have e2 : ((List.range ((b :: l).length - 1)).all ((fun i => decide ((a :: b :: l).getD i 0 < (a :: b :: l).getD (i + 1) 0)) ∘ Nat.succ)) = ((List.range ((b :: l).length - 1)).all fun i => decide ((b :: l).getD i 0 < (b :: l).getD (i + 1) 0)) := by
      congr 1
    rw [e2, ih]
    simp only [List.getD_cons_zero, List.getD_cons_succ, decide_eq_true_eq, List.pairwise_cons]
    constructor
    · rintro ⟨h1, h2, h3⟩
      exact ⟨fun x hx => by
        rcases List.mem_cons.mp hx with rfl | hx
        · exact h1
        · have := h2 x hx; omega, h2, h3⟩
    · rintro ⟨h1, h2, h3⟩
      exact ⟨h1 b List.mem_cons_self, h2, h3⟩
/-- a load of pieces below n -/
def LoadOk (n w : Nat) (l : List Nat) : Prop := l ≠ [] ∧ l.length ≤ w ∧ (∀ i ∈ l, i < n) ∧ l.Pairwise (· < ·)
theorem lD_inj {a b : List Nat} (h : lD a = lD b) : a = b := loadE.inj h
theorem nats_of {n : Nat} : ∀ (xs : List PyData), (xs.all fun x => isNum x 0 ((n : Int) - 1)) = true → ∃ l : List Nat, xs = l.map nD ∧ ∀ i ∈ l, i < n
  | [], _ => ⟨[], rfl, fun i hi => by cases hi⟩
  | x :: xs, h => by
    rw [List.all_cons, Bool.and_eq_true] at h
    obtain ⟨l, rfl, hl⟩ := nats_of xs h.2
    obtain ⟨i, rfl, h1, h2⟩ := isNum_int h.1
    obtain ⟨m, rfl⟩ := Int.eq_ofNat_of_zero_le h1
    refine ⟨m :: l, rfl, fun j hj => ?_⟩
    rcases List.mem_cons.mp hj with rfl | hj
    · omega
    · exact hl j hj
open Classical in
noncomputable def loadB (n w : Nat) (v : PyData) : Bool := decide (∃ l, v = lD l ∧ LoadOk n w l)
open Classical in
theorem loadB_t {n w : Nat} {v : PyData} (h : ∃ l, v = lD l ∧ LoadOk n w l) : loadB n w v = true := by
  unfold loadB; exact decide_eq_true h
open Classical in
theorem loadB_f {n w : Nat} {v : PyData} (h : ¬ ∃ l, v = lD l ∧ LoadOk n w l) : loadB n w v = false := by
  unfold loadB; exact decide_eq_false h
open Classical in
theorem loadB_ex {n w : Nat} {v : PyData} (h : loadB n w v = true) : ∃ l, v = lD l ∧ LoadOk n w l := by
  unfold loadB at h; exact of_decide_eq_true h
theorem item_at {l : List Nat} {i : Nat} (hi : i < l.length) : itemD (lD l) (.int (i : Nat)) = some (nD (l.getD i 0)) := by
  show itemD (.tuple (l.map nD)) (.int (i : Nat)) = _
  rw [itemD_tuple, List.getElem?_map, List.getElem?_eq_getElem hi]
  simp [List.getD_eq_getElem?_getD, List.getElem?_eq_getElem hi]
noncomputable def stepB : EvS := (seqS (ifS (orT (notT (valT (isiE .tuple (slotE 3)))) (notT (valT (chain2 leD leD (constE (.int 1)) (un1 lenD (slotE 3)) (slotE 1))))) (retS (pureV (constE (.bool false)))) nilS) 
    (seqS (ifS (notT (valT (quantE false (seqI (froR (slotE 3))) [4] (nameG 4) yesT (callE 3 F_is_number (consSlotA 4 (consA (constE (.int 0)) (consA (bin2 subD (un1 lenD (slotE 0)) (constE (.int 1))) nilA))))))) (retS (pureV (constE (.bool false)))) nilS) 
    (ifS (notT (valT (quantE false (range2I (constE (.int 1)) (un1 lenD (slotE 3))) [5] (nameG 5) yesT (bin2 ltD (bin2 itemD (slotE 3) (bin2 subD (slotE 5) (constE (.int 1)))) (bin2 itemD (slotE 3) (slotE 5)))))) (retS (pureV (constE (.bool false)))) nilS)))
theorem step_ok {ts : List Nat} {w : Nat} (hw : w ≤ 100) (v x : PyData) : OkS (stepB 0 ⟨[some (.pure (lD ts)), some (.pure (nD w)), some (.pure v), some (.pure x), none, none], []⟩) fun fl s' => if loadB ts.length w x = true then (fl = .next ∨ fl = .cont) ∧ wipeS [3] 0 s' = ⟨[some (.pure (lD ts)), some (.pure (nD w)), some (.pure v), none, none, none], []⟩ else fl = .ret (.pure (.bool false)) ∧ s'.st = [] := by
  have no : ¬ (∃ l, x = lD l ∧ LoadOk ts.length w l) → loadB ts.length w x = false := fun h => loadB_f h
  rw [stepB]
  cases x with
  | tuple xs =>
    have hl : lenD (.tuple xs) = some (.int (xs.length : Nat)) := lenD_tuple xs
    refine okS_seq (s_if (t_orF (t_not (t_val (e_isi (e_slot rfl) rfl))) rfl (t_not (t_val (e_chain e_const (e_un (e_slot rfl) hl) (leD_int _ _) (e_slot rfl) (leD_int _ _))))) (fun hk => ?_) (fun hk => s_nil (s_next ?_)))
    · refine s_ret (e_pure e_const) (s_ret' ?_)
      have h := no (by
        rintro ⟨l, e, h1, h2, _⟩
        have e' : xs = l.map nD := by
          unfold lD at e; injection e
        subst e'
        have := List.length_pos_iff.mpr h1
        simp only [Bool.not_eq_true', Bool.and_eq_false_iff, decide_eq_false_iff_not, List.length_map] at hk
        omega)
      rw [h]
      exact ⟨rfl, rfl⟩
    · simp only [Bool.not_eq_false', Bool.and_eq_true, decide_eq_true_eq] at hk
      have hq := q_allI (env := [some (.pure (lD ts)), some (.pure (nD w)), some (.pure v), some (.pure (.tuple xs)), none, none]) (st := []) (st1 := []) (fi := seqI (froR (slotE 3))) (vs := [4]) (gt := nameG 4) (ft := yesT) (fe := callE 3 F_is_number (consSlotA 4 (consA (constE (.int 0)) (consA (bin2 subD (un1 lenD (slotE 0)) (constE (.int 1))) nilA)))) xs _ _ (fun y => isNum y 0 ((ts.length : Int) - 1)) rfl (w_seqT (e_slot rfl)) fun y hy => ⟨g_name rfl, t_yes, e_call (a_slot rfl (a_cons e_const (a_cons (e_bin (e_un (e_slot rfl) (len_lD ts)) e_const (subD_int _ _)) a_nil))) (C_num _ _ _)⟩
      refine okS_seq (s_if (t_not (t_val hq)) (fun hk2 => ?_) (fun hk2 => s_nil (s_next ?_)))
      · refine s_ret (e_pure e_const) (s_ret' ?_)
        have h := no (by
          rintro ⟨l, e, _, _, h3, _⟩
          have e' : xs = l.map nD := by
            unfold lD at e; injection e
          subst e'
          simp only [Bool.not_eq_true'] at hk2
          rw [List.all_eq_false] at hk2
          obtain ⟨y, hy, h⟩ := hk2
          obtain ⟨i, hi, rfl⟩ := List.mem_map.mp hy
          have := h3 i hi
          apply h
          simp [isNum]; omega)
        rw [h]
        exact ⟨rfl, rfl⟩
      · simp only [Bool.not_eq_false'] at hk2
        obtain ⟨l, rfl, hlt⟩ := nats_of xs hk2
        rw [List.length_map] at hk hl
        have hr : Walks (range2I (constE (.int 1)) (un1 lenD (slotE 3))) ⟨[some (.pure (lD ts)), some (.pure (nD w)), some (.pure v), some (.pure (.tuple (l.map nD))), none, none], []⟩ ((List.range (l.length - 1)).map fun i => PyData.int ((1 + i : Nat) : Int)) [] := w_range2 (p := 1) (q := l.length) e_const (e_un (e_slot rfl) hl) (by omega) (by omega)
        have hq2 := q_allN (env := [some (.pure (lD ts)), some (.pure (nD w)), some (.pure v), some (.pure (.tuple (l.map nD))), none, none]) (st := []) (st1 := []) (fi := range2I (constE (.int 1)) (un1 lenD (slotE 3))) (vs := [5]) (gt := nameG 5) (ft := yesT) (fe := bin2 ltD (bin2 itemD (slotE 3) (bin2 subD (slotE 5) (constE (.int 1)))) (bin2 itemD (slotE 3) (slotE 5)))
          (List.range (l.length - 1)) (fun i => PyData.int ((1 + i : Nat) : Int)) _ _ (fun i => decide (l.getD i 0 < l.getD (i + 1) 0)) rfl hr fun i hi => ⟨g_name rfl, t_yes, by
            have hi := List.mem_range.mp hi
            have hsub : subD (.int ((1 + i : Nat) : Int)) (.int 1) = some (.int (i : Nat)) := by rw [subD_int]; congr 2; omega
            have hi1 : itemD (.tuple (l.map nD)) (.int ((1 + i : Nat) : Int)) = some (nD (l.getD (i + 1) 0)) := by rw [Nat.add_comm 1 i]; exact item_at (by omega)
            exact e_bin (e_bin (e_slot rfl) (e_bin (e_slot rfl) e_const hsub) (item_at (l := l) (by omega))) (e_bin (e_slot rfl) (e_slot rfl) hi1) (ltD_nat _ _)⟩
        refine s_if (t_not (t_val hq2)) (fun hk3 => ?_) (fun hk3 => s_nil ?_)
        · refine s_ret (e_pure e_const) ?_
          have h := no (by
            rintro ⟨l', e, _, _, _, h4⟩
            have e' : l = l' := lD_inj e
            subst e'
            simp only [Bool.not_eq_true'] at hk3
            rw [(asc_chain l).mpr h4] at hk3
            cases hk3)
          have e : PyData.tuple (l.map nD) = lD l := rfl
          rw [h]
          exact ⟨rfl, rfl⟩
        · simp only [Bool.not_eq_false'] at hk3
          have h : loadB ts.length w (.tuple (l.map nD)) = true := loadB_t ⟨l, rfl, List.length_pos_iff.mp (by omega), by omega, hlt, (asc_chain l).mp hk3⟩
          rw [if_pos h]
          exact ⟨.inl rfl, rfl⟩
  | _ =>
    refine okS_seq (s_ifT (t_orT (t_not (t_val (e_isi (e_slot rfl) rfl))) rfl) (s_ret (e_pure e_const) (s_ret' ?_)))
    rw [no (by rintro ⟨l, e, _⟩; cases e)]
    exact ⟨rfl, rfl⟩
end Lk70
end
section
namespace Lk70
theorem rows_of : ∀ (ls : List PyData) {n w : Nat}, (ls.all fun v => loadB n w v) = true → ∃ L : List (List Nat), ls = L.map lD ∧ ∀ l ∈ L, LoadOk n w l
  | [], n, w, _ => ⟨[], rfl, fun l hl => by cases hl⟩
  | x :: ls, n, w, h => by
    rw [List.all_cons, Bool.and_eq_true] at h
    obtain ⟨L, rfl, hL⟩ := rows_of ls h.2
    obtain ⟨l, rfl, hl⟩ := loadB_ex h.1
    refine ⟨l :: L, rfl, fun m hm => ?_⟩
    rcases List.mem_cons.mp hm with rfl | hm
    · exact hl
    · exact hL m hm
theorem rows_all {n w : Nat} {L : List (List Nat)} (h : ∀ l ∈ L, LoadOk n w l) : ((L.map lD).all fun v => loadB n w v) = true := by
  rw [List.all_eq_true]
  intro v hv
  obtain ⟨l, hl, rfl⟩ := List.mem_map.mp hv
  exact loadB_t ⟨l, rfl, h l hl⟩
theorem flat_small {L : List (List Nat)} {w : Nat} (h : ∀ l ∈ L, l.length ≤ w) : L.flatten.length ≤ L.length * w := by
  induction L with
  | nil => simp
  | cons l L ih =>
    have := ih fun m hm => h m (List.mem_cons_of_mem _ hm)
    have := h l List.mem_cons_self
    rw [List.flatten_cons, List.length_append, List.length_cons, Nat.succ_mul]
    omega
theorem flat_nD : ∀ L : List (List Nat), (L.flatMap fun l => (l.filter fun _ => true).map nD) = L.flatten.map nD
  | [] => rfl
  | l :: L => by rw [List.flatMap_cons, flat_nD L, List.flatten_cons, List.map_append, List.filter_eq_self.mpr (fun _ _ => rfl)]
theorem sort_range {l : List Nat} {n : Nat} : Enc.nat.srt l = List.range n ↔ l.Perm (List.range n) := by
  constructor
  · intro h
    rw [← h]
    exact (Enc.nat.srt_perm l).symm
  · intro h
    have h1 := Enc.nat.srt_sorted l
    have h2 := (Enc.nat.srt_perm l).trans h
    have h3 : (List.range n).Pairwise fun a b => Enc.nat.lt b a = false := List.pairwise_lt_range.imp fun z => by rw [Enc.lt_nat]; simp; omega
    have key : ∀ (a b : List Nat), (a.Pairwise fun x y => Enc.nat.lt y x = false) → (b.Pairwise fun x y => Enc.nat.lt y x = false) → a.Perm b → a = b := by
      intro a b ha hb hp
      have ha' : Desc a.reverse := List.pairwise_reverse.mpr (ha.imp fun {x y} z => by rw [Enc.lt_nat] at z; simpa using z)
      have hb' : Desc b.reverse := List.pairwise_reverse.mpr (hb.imp fun {x y} z => by rw [Enc.lt_nat] at z; simpa using z)
      have := desc_uniq ha' hb' ((List.reverse_perm a).trans (hp.trans (List.reverse_perm b).symm))
      exact List.reverse_inj.mp this
    exact key _ _ h1 h3 h2
theorem rD_inj {a b : List (List Nat)} (h : rD a = rD b) : a = b := rowE.inj h
theorem F_loads {ts : List Nat} {w : Nat} (hw : w ≤ 100) (hn : ts.length ≤ 100) (v : PyData) (hv : ∀ ls, v = .tuple ls → ls.length ≤ 10000) : ∃ b : Bool, F_are_loads [.pure (lD ts), .pure (nD w), .pure v] [] = .ok (.bool b, []) ∧ (b = true ↔ ∃ L, v = rD L ∧ OkP w (List.range ts.length) L) := by
  rw [F_are_loads]
  suffices hs : ∃ b : Bool, OkS (b_are_loads 0 ⟨[some (.pure (lD ts)), some (.pure (nD w)), some (.pure v), none, none, none], []⟩) (fun fl s' => endF 0 (.ok (fl, s')) = .ok (.bool b, [])) ∧ (b = true ↔ ∃ L, v = rD L ∧ OkP w (List.range ts.length) L) by
    obtain ⟨b, h1, h2⟩ := hs
    exact ⟨b, f_run h1, h2⟩
  rw [b_are_loads]
  have okl : ∀ {L : List (List Nat)}, OkP w (List.range ts.length) L → ∀ l ∈ L, LoadOk ts.length w l := fun {L} o l hl => by
    obtain ⟨h1, h2, h3⟩ := o.1 l hl
    exact ⟨h1, h2, fun i hi => List.mem_range.mp (o.2.mem_iff.mp (List.mem_flatten.mpr ⟨l, hl, hi⟩)), h3⟩
  cases v with
  | tuple ls =>
    have hlen := hv ls rfl
    cases hall : ls.all fun v => loadB ts.length w v with
    | false =>
      refine ⟨false, ?_, ?_⟩
      · refine okS_seq (s_ifF (t_not (k := true) (t_val (e_isi (e_slot rfl) rfl))) (s_nil (s_next ?_)))
        refine okS_seq (s_check ls id (fun v => loadB ts.length w v) (.pure (.bool false)) (by rw [List.map_id]; exact w_seqT (e_slot rfl)) (fun x hx => ⟨_, g_name rfl, step_ok hw _ x⟩) (fun h => by rw [hall] at h; cases h) fun _ env' => ?_)
        exact s_ret' rfl
      · constructor
        · intro z; cases z
        · rintro ⟨L, e, o⟩
          have e' : ls = L.map lD := by unfold rD at e; injection e
          rw [e', rows_all (okl o)] at hall
          cases hall
    | true =>
      obtain ⟨L, rfl, hL⟩ := rows_of ls hall
      rw [List.length_map] at hlen
      have hfl := flat_small (L := L) (w := w) fun l hl => (hL l hl).2.1
      have hfl2 : L.flatten.length ≤ 10000 * 100 := Nat.le_trans hfl (Nat.mul_le_mul hlen hw)
      refine ⟨decide (L.flatten.Perm (List.range ts.length)), ?_, ?_⟩
      · refine okS_seq (s_ifF (t_not (k := true) (t_val (e_isi (e_slot rfl) rfl))) (s_nil (s_next ?_)))
        refine okS_seq (s_check (L.map lD) id (fun v => loadB ts.length w v) (.pure (.bool false)) (by rw [List.map_id]; exact w_seqT (e_slot rfl)) (fun x hx => ⟨_, g_name rfl, step_ok hw _ x⟩) (fun _ => s_next ?_) fun h => by rw [hall] at h; cases h)
        have hfm := flat_nD L
        have hc := c2_pure (env := [some (.pure (lD ts)), some (.pure (nD w)), some (.pure (.tuple (L.map lD))), none, none, none]) (st := []) (st1 := []) (fi := seqI (froR (slotE 2))) (vs := [3, 4]) (gt := nameG 3) (ft := yesT) (fi1 := seqI (froR (slotE 3))) (vs1 := [4]) (gt1 := nameG 4) (ft1 := yesT) (fe := slotE 4)
          L lD _ _ (fun l => l) nD _ _ (fun _ _ => true) (fun _ i => nD i) rfl (w_seqT (e_slot rfl)) (by rw [List.flatMap_id']; omega) fun l hl => ⟨g_name rfl, t_yes, fun acc => w_seqT (e_slot rfl), rfl, fun i hi => ⟨g_name rfl, fun acc => ⟨t_yes, e_slot rfl⟩⟩⟩
        rw [hfm] at hc
        have hsd : sortedDD (.list (L.flatten.map nD)) = some (.list ((Enc.nat.srt L.flatten).map nD)) := Enc.nat.sortedL (by decide) (.inr fun d hd => by
          obtain ⟨x, _, rfl⟩ := List.mem_map.mp hd
          exact ⟨fun z => (by cases z), fun xs z => (by cases z)⟩)
        have heq : eqD (.list ((Enc.nat.srt L.flatten).map nD)) (.list ((List.range ts.length).map fun i => PyData.int (i : Nat))) = some (.bool (decide (L.flatten.Perm (List.range ts.length)))) := by
          have := (Enc.lstL Enc.nat).eqD_e (by decide) (Enc.nat.srt L.flatten) (List.range ts.length)
          refine Eq.trans this ?_
          congr 2
          exact decide_eq_decide.mpr sort_range
        refine s_ret (e_pure (e_bin (e_un (e_lst hc) hsd) (e_rg1 (e_un (e_slot rfl) (len_lD ts)) (by omega)) heq)) rfl
      · rw [decide_eq_true_eq]
        constructor
        · intro h
          exact ⟨L, rfl, fun l hl => ⟨(hL l hl).1, (hL l hl).2.1, (hL l hl).2.2.2⟩, h⟩
        · rintro ⟨M, e, o⟩
          have : L = M := rD_inj e
          subst this
          exact o.2
  | _ =>
    refine ⟨false, okS_seq (s_ifT (t_not (k := false) (t_val (e_isi (e_slot rfl) rfl))) (s_ret (e_pure e_const) (s_ret' rfl))), ?_, ?_⟩
    · intro z; cases z
    · rintro ⟨L, e, _⟩; cases e
end Lk70
end
section
namespace Lk70
noncomputable def tail3 : EvS := (seqS (setS 11 (pureV (bin2 itemD (slotE 7) (callE 2 F__law_take (consSlotA 1 (consA (un1 lenD (slotE 7)) nilA)))))) 
    (seqS (setS 5 (pureV (lstE (consA (constE .none) (consA (un1 listD (slotE 11)) (consA (bin2 addD (slotE 11) (sliceE (slotE 11) noneO (someO (constE (.int 1))))) (consA (sliceE (slotE 11) (someO (constE (.int 1))) noneO) (consA (bin2 addD (slotE 11) (tupE (consA (tupE nilA) nilA))) (consA (bin2 addD (sliceE (slotE 11) (someO (constE (.int 1))) noneO) (tupE (consA (un1 listD (bin2 itemD (slotE 11) (constE (.int 0)))) nilA))) (consA (constE (.str "loads")) (consA (constE (.int 0)) nilA))))))))))) 
    (seqS (setS 5 (pureV (bin2 addD (slotE 5) (lstOf (compC (seqI (froR (lstE (consA (constE .none) (consA (un1 lenD (slotE 3)) nilA))))) [13] (nameG 13) yesT (bin2 addD (sliceE (slotE 11) (someO (constE (.int 1))) noneO) (tupE (consA (bin2 addD (sliceE (bin2 itemD (slotE 11) (constE (.int 0))) noneO (someO (negE (constE (.int 1))))) (tupE (consA (slotE 13) nilA))) nilA)))))))) 
    (seqS (setS 5 (pureV (bin2 addD (bin2 addD (slotE 5) (bin2 mulD (lstE (consA (bin2 addD (sliceE (slotE 11) (someO (constE (.int 1))) noneO) (tupE (consA (un1 revD (bin2 itemD (slotE 11) (constE (.int 0)))) nilA))) nilA)) (un1 intD (bin2 gtD (un1 lenD (bin2 itemD (slotE 11) (constE (.int 0)))) (constE (.int 1)))))) (bin2 mulD (lstE (consA (tupE (consA (slotE 6) nilA)) nilA)) (un1 intD (bin2 gtD (un1 lenD (slotE 3)) (slotE 4))))))) 
    (retS (pureV (bin2 eqD (lstOf (compC (seqI (froR (slotE 5))) [14] (nameG 14) (cmpT isNotD (callE 3 F_are_loads (consSlotA 3 (consSlotA 4 (consSlotA 14 nilA)))) (constE (.bool false))) (slotE 14))) (lstE nilA))))))))
noncomputable def tail2 : EvS := (seqS (forS (range1I (constE (.int 3))) (nameG 10) (seqS (setS 12 (pureV (callE 2 F__law_take (consSlotA 1 (consA (un1 lenD (slotE 7)) nilA))))) 
    (ifS (orT (cmpT isNotD (callE 3 F_are_loads (consSlotA 3 (consSlotA 4 (consA (bin2 itemD (slotE 7) (slotE 12)) nilA)))) (constE (.bool true))) (notT (valT (callE 2 (F__law_alike 7) (consA (lstE (consA (callE 2 F_load_span (consSlotA 3 (consA (bin2 itemD (slotE 7) (slotE 12)) nilA))) (consA (callE 2 F_load_sum (consSlotA 3 (consA (bin2 itemD (slotE 7) (slotE 12)) nilA))) nilA))) (consA (un1 listD (bin2 itemD (slotE 8) (slotE 12))) nilA)))))) (retS (pureV (constE (.bool false)))) nilS)) [10, 12]) 
    tail3)
noncomputable def tail1 : EvS := (seqS (setS 5 (pureV (lstE (consA (constE .none) (consA (tupE nilA) (consA (un1 listD (slotE 3)) (consA (bin2 mulD (tupE (consA (constE (.int 1)) nilA)) (constE (.int 8))) (consA (bin2 addD (sliceE (slotE 3) noneO (someO (negE (constE (.int 1))))) (tupE (consA (constE (.int 0)) nilA))) (consA (bin2 addD (sliceE (slotE 3) noneO (someO (negE (constE (.int 1))))) (tupE (consA (constE (.int 51)) nilA))) (consA (bin2 addD (sliceE (slotE 3) noneO (someO (negE (constE (.int 1))))) (tupE (consA (constE .none) nilA))) (consA (bin2 addD (sliceE (slotE 3) noneO (someO (negE (constE (.int 1))))) (tupE (consA (constE (.bool true)) nilA))) (consA (constE (.str "pieces")) (consA (constE (.int 0)) nilA))))))))))))) 
    (seqS (ifS (orT (cmpT isNotD (callE 1 F_are_pieces (consSlotA 3 nilA)) (constE (.bool true))) (orT (cmpT isNotD (callE 1 F_are_pieces (consA (bin2 mulD (tupE (consA (constE (.int 50)) nilA)) (constE (.int 7))) nilA)) (constE (.bool true))) (cmpT neD (lstOf (compC (seqI (froR (slotE 5))) [14] (nameG 14) (cmpT isNotD (callE 1 F_are_pieces (consSlotA 14 nilA)) (constE (.bool false))) (slotE 14))) (lstE nilA)))) (retS (pureV (constE (.bool false)))) nilS) 
    (seqS (setS 6 (pureV (rg1E .tuple (un1 lenD (slotE 3))))) 
    (seqS (setS 7 (pureV (callE 2 (F__law_loads 7) (consSlotA 6 (consSlotA 4 nilA))))) 
    (seqS (setS 8 (pureV (lstOf (compC (seqI (froR (slotE 7))) [11] (nameG 11) yesT (callE 2 F__law_both (consSlotA 3 (consSlotA 11 nilA))))))) 
    (seqS (setS 9 (pureV (callE 2 F_best_loads (consSlotA 3 (consSlotA 4 nilA))))) 
    (seqS (ifS (notT (valT (callE 2 (F__law_alike 7) (consA (lstE (consA (callE 2 F_least_span (consSlotA 3 (consSlotA 4 nilA))) (consA (callE 2 F_least_sum (consSlotA 3 (consSlotA 4 nilA))) nilA))) (consA (lstE (consA (un1 minDD (lstOf (compC (seqI (froR (slotE 8))) [15, 16] (tupG 2 (consG (nameG 15) (consG (nameG 16) nilG))) yesT (slotE 15)))) (consA (un1 minDD (lstOf (compC (seqI (froR (slotE 8))) [15, 16] (tupG 2 (consG (nameG 15) (consG (nameG 16) nilG))) yesT (slotE 16)))) nilA))) nilA))))) (retS (pureV (constE (.bool false)))) nilS) 
    (seqS (ifS (orT (cmpT isNotD (callE 3 F_are_loads (consSlotA 3 (consSlotA 4 (consSlotA 9 nilA)))) (constE (.bool true))) (orT (cmpT notInD (slotE 9) (slotE 7)) (notT (valT (callE 2 (F__law_alike 7) (consA (callE 2 F_load_sum (consSlotA 3 (consSlotA 9 nilA))) (consA (callE 2 F_least_sum (consSlotA 3 (consSlotA 4 nilA))) nilA))))))) (retS (pureV (constE (.bool false)))) nilS) 
    tail2))))))))
theorem take_n (zs : List Int) (b : Nat) (hb : 0 < b) : ∃ (r : Nat) (zs' : List Int), r < b ∧ ∀ (env : List (Option SV)) (st : Sto) (j : Nat), st[j]? = some (.lst (zs.map .int)) → callS 2 F__law_take [.obj j, .pure (.int (b : Nat))] ⟨env, st⟩ = .ok (.int (r : Nat), st.set j (.lst (zs'.map .int))) := by
  have h1 := takeR_bound zs (b := (b : Int)) (by omega)
  obtain ⟨r, hr⟩ := Int.eq_ofNat_of_zero_le h1.1
  refine ⟨r, (takeR zs b).2, by omega, fun env st j hj => ?_⟩
  have := callO2 (env := env) hj (F_take zs (b := (b : Int)) (by omega))
  rw [hr] at this
  exact this
/-- what is no loads -/
def Bad (n w : Nat) (v : PyData) : Prop := (¬ ∃ L, v = rD L ∧ OkP w (List.range n) L) ∧ ∀ ls, v = .tuple ls → ls.length ≤ 10000
theorem C_bad {ts : List Nat} {w : Nat} (hw : w ≤ 100) (hn : ts.length ≤ 100) {v : PyData} (h : Bad ts.length w v) {env : List (Option SV)} {st : Sto} : callS 3 F_are_loads [.pure (lD ts), .pure (nD w), .pure v] ⟨env, st⟩ = .ok (.bool false, st) := by
  obtain ⟨b, h1, h2⟩ := F_loads hw hn v h.2
  have : b = false := by
    cases b with
    | false => rfl
    | true => exact absurd (h2.mp rfl) h.1
  subst this
  exact call3 h1
theorem C_good {ts : List Nat} {w : Nat} (hw : w ≤ 100) (hn : ts.length ≤ 100) {L : List (List Nat)} (o : OkP w (List.range ts.length) L) {env : List (Option SV)} {st : Sto} : callS 3 F_are_loads [.pure (lD ts), .pure (nD w), .pure (rD L)] ⟨env, st⟩ = .ok (.bool true, st) := by
  have hl := okP_len List.pairwise_lt_range o
  rw [List.length_range] at hl
  obtain ⟨b, h1, h2⟩ := F_loads hw hn (rD L) fun ls e => by
    have : ls = L.map lD := by unfold rD at e; injection e with e; exact e.symm
    rw [this, List.length_map]; omega
  have : b = true := h2.mpr ⟨L, rfl, o⟩
  subst this
  exact call3 h1
theorem okP_sum {w : Nat} {left : List Nat} {L : List (List Nat)} (o : OkP w left L) : L.flatten.length = left.length := o.2.length_eq
theorem bad_rD {n w : Nat} {L : List (List Nat)} (h : ¬ OkP w (List.range n) L) (hl : L.length ≤ 10000) : Bad n w (rD L) :=
  ⟨fun ⟨M, e, o⟩ => by rw [← rD_inj e] at o; exact h o, fun ls e => by
    have : ls = L.map lD := by unfold rD at e; injection e with e; exact e.symm
    rw [this, List.length_map]; exact hl⟩
/-- an item that is no load of numbers -/
theorem bad_item {n w : Nat} {ls : List PyData} {x : PyData} (hx : x ∈ ls) (hn : ∀ l, x ≠ lD l) (hl : ls.length ≤ 10000) : Bad n w (.tuple ls) :=
  ⟨fun ⟨M, e, o⟩ => by
    have e' : ls = M.map lD := by unfold rD at e; injection e
    rw [e'] at hx
    obtain ⟨l, _, h⟩ := List.mem_map.mp hx
    exact hn l h.symm, fun ls' e => by injection e with e; rw [← e]; exact hl⟩
theorem mul01 (v : PyData) (b : Bool) : mulD (.list [v]) (.int (if b = true then 1 else 0)) = some (.list (if b = true then [v] else [])) := by
  unfold mulD
  cases b with
  | true =>
    simp only [if_true]
    rw [if_pos ⟨by omega, by omega, by simp⟩]
    rfl
  | false =>
    simp only [Bool.false_eq_true, if_false]
    rw [if_pos ⟨by omega, by omega, by simp⟩]
    rfl
end Lk70
end
section
namespace Lk70
theorem nD_of_lD {l : List Nat} {ds : List PyData} (h : PyData.tuple ds = lD l) : ds = l.map nD := by
  unfold lD at h; injection h
/-- all the odd values -/
def oddsL (l0 : List Nat) (P : List (List Nat)) (n w : Nat) (num : PyData) : List PyData :=
  [.none, .list ((l0 :: P).map lD), .tuple ((l0 :: P).map lD ++ [lD l0]), .tuple (P.map lD), .tuple ((l0 :: P).map lD ++ [.tuple []]), .tuple (P.map lD ++ [.list (l0.map nD)]), .str "loads", .int 0] ++
    ([.none, nD n].map fun x => .tuple (P.map lD ++ [.tuple (l0.dropLast.map nD ++ [x])])) ++ (if decide (1 < l0.length) = true then [.tuple (P.map lD ++ [.tuple (l0.map nD).reverse])] else []) ++ (if decide (w < n) = true then [.tuple [num]] else [])
theorem odds_bad {l0 : List Nat} {P : List (List Nat)} {n w : Nat} (hn : n ≤ 100) (o : OkP w (List.range n) (l0 :: P)) : ∀ v ∈ oddsL l0 P n w (lD (List.range n)), Bad n w v := by
  have hlen := okP_len List.pairwise_lt_range o
  rw [List.length_range, List.length_cons] at hlen
  have hsum := okP_sum o
  rw [List.flatten_cons, List.length_append, List.length_range] at hsum
  obtain ⟨h01, h02, h03⟩ := o.1 l0 List.mem_cons_self
  have hpos := List.length_pos_iff.mpr h01
  have nt : ∀ v : PyData, (∀ ls, v ≠ .tuple ls) → Bad n w v := fun v h => ⟨fun ⟨L, e, _⟩ => h _ e, fun ls e => absurd e (h ls)⟩
  have lenE : ∀ {L : List (List Nat)}, L.flatten.length ≠ n → ¬ OkP w (List.range n) L := fun {L} h o => h (by rw [okP_sum o, List.length_range])
  intro v hv
  unfold oddsL at hv
  simp only [List.mem_append, List.mem_cons, List.not_mem_nil, or_false, List.mem_map, exists_eq_or_imp, exists_eq_left] at hv
  rcases hv with ((h | h) | h) | h
  · rcases h with rfl | rfl | rfl | rfl | rfl | rfl | rfl | rfl
    · exact nt _ fun ls z => by cases z
    · exact nt _ fun ls z => by cases z
    · have e : PyData.tuple ((l0 :: P).map lD ++ [lD l0]) = rD (l0 :: P ++ [l0]) := by unfold rD; rw [List.map_append]; rfl
      rw [e]
      exact bad_rD (lenE (by
        rw [List.flatten_append, List.flatten_cons, List.length_append, List.length_append]
        simp only [List.flatten_cons, List.flatten_nil, List.append_nil]
        omega)) (by simp; omega)
    · exact bad_rD (L := P) (lenE (by omega)) (by omega)
    · have e : PyData.tuple ((l0 :: P).map lD ++ [.tuple []]) = rD (l0 :: P ++ [[]]) := by unfold rD; rw [List.map_append]; rfl
      rw [e]
      exact bad_rD (fun o2 => (o2.1 [] (by simp)).1 rfl) (by simp; omega)
    · exact bad_item (x := .list (l0.map nD)) (by simp) (fun l z => by cases z) (by simp; omega)
    · exact nt _ fun ls z => by cases z
    · exact nt _ fun ls z => by cases z
  · rcases h with rfl | rfl
    · exact bad_item (x := .tuple (l0.dropLast.map nD ++ [.none])) (by simp) (fun l z => by
        have z := nD_of_lD z
        have : PyData.none ∈ l.map nD := by rw [← z]; simp
        obtain ⟨i, _, hi⟩ := List.mem_map.mp this
        cases hi) (by simp; omega)
    · have e : PyData.tuple (P.map lD ++ [.tuple (l0.dropLast.map nD ++ [nD n])]) = rD (P ++ [l0.dropLast ++ [n]]) := by
        unfold rD
        rw [List.map_append, List.map_singleton, lD_snoc]
      rw [e]
      refine bad_rD (fun o2 => ?_) (by simp; omega)
      have : n ∈ List.range n := o2.2.mem_iff.mp (List.mem_flatten.mpr ⟨l0.dropLast ++ [n], by simp, by simp⟩)
      exact absurd (List.mem_range.mp this) (Nat.lt_irrefl _)
  · by_cases h1 : 1 < l0.length
    · rw [if_pos (decide_eq_true h1), List.mem_singleton] at h
      subst h
      have e : PyData.tuple (P.map lD ++ [.tuple (l0.map nD).reverse]) = rD (P ++ [l0.reverse]) := by
        unfold rD
        rw [List.map_append, List.map_singleton, ← List.map_reverse]; rfl
      rw [e]
      refine bad_rD (fun o2 => ?_) (by simp; omega)
      have h4 := (o2.1 l0.reverse (by simp)).2.2
      rw [List.pairwise_reverse] at h4
      obtain ⟨a, b, l, rfl⟩ : ∃ a b l, l0 = a :: b :: l := by
        match l0, h1 with
        | a :: b :: l, _ => exact ⟨a, b, l, rfl⟩
      have h5 := (List.pairwise_cons.mp h4).1 b List.mem_cons_self
      have h6 := (List.pairwise_cons.mp h03).1 b List.mem_cons_self
      omega
    · rw [if_neg (by simpa using h1)] at h
      cases h
  · by_cases h1 : w < n
    · rw [if_pos (decide_eq_true h1), List.mem_singleton] at h
      subst h
      exact bad_rD (L := [List.range n]) (fun o2 => by
        have := (o2.1 (List.range n) (by simp)).2.1
        rw [List.length_range] at this
        omega) (by simp)
    · rw [if_neg (by simpa using h1)] at h
      cases h
theorem slT1 (x : PyData) (ds : List PyData) : sliceD (.tuple (x :: ds)) (some 1) none = some (.tuple ds) := by
  have := slice_from_t id (x :: ds) 1
  simpa using this
theorem slTo1 (x : PyData) (ds : List PyData) : sliceD (.tuple (x :: ds)) none (some 1) = some (.tuple [x]) := by
  have := slice_to_t id (x :: ds) 1
  simpa using this
theorem cut_last (ds : List PyData) : sliceD (.tuple ds) none (some (-1)) = some (.tuple ds.dropLast) := by
  have h0 : HT.sIx ds.length ds.length (some (-1)) = ds.length - 1 := by
    show (if (-1 : Int) < 0 then ((-1 : Int) + (ds.length : Int)).toNat else min (-1 : Int).toNat ds.length) = ds.length - 1
    rw [if_pos (by decide)]
    omega
  have h1 : DL.cutD ds none (some (-1)) = ds.dropLast := by
    unfold DL.cutD
    rw [h0, HT.sIx_none, List.drop_zero, List.dropLast_eq_take, Nat.sub_zero]
  show some (PyData.tuple (DL.cutD ds none (some (-1)))) = _
  rw [h1]
end Lk70
end
section
namespace Lk70
theorem item0 {x : PyData} {ds : List PyData} : itemD (.tuple (x :: ds)) (.int 0) = some x := itemD_tuple (i := 0)
theorem ite_len (b : Bool) (v : PyData) : (if b = true then [v] else []).length ≤ 1 := by cases b <;> simp
theorem tail3_ok {ts : List Nat} {w : Nat} {rows : List (List (List Nat))} (hn : ts.length ≤ 6) (hw5 : w ≤ 5) (hr : rows ≠ []) (hn1 : 1 ≤ ts.length) (hrow : ∀ P ∈ rows, OkP w (List.range ts.length) P) (zs : List Int) {a0 a2 a5 a8 a9 : Option SV} :
    OkS (tail3 0 ⟨[a0, some (.obj 0), a2, some (.pure (lD ts)), some (.pure (nD w)), a5, some (.pure (lD (List.range ts.length))), some (.pure (.list (rows.map rD))), a8, a9, none, none, none, none, none, none, none], [.lst (zs.map .int)]⟩) fun fl s' => endF 0 (.ok (fl, s')) = .ok (.bool true, []) := by
  rw [tail3]
  have hlr : lenD (.list (rows.map rD)) = some (.int (rows.length : Nat)) := by rw [lenD_list, List.length_map]
  obtain ⟨r, zs', hrl, hT⟩ := take_n zs rows.length (List.length_pos_iff.mpr hr)
  have hit : itemD (.list (rows.map rD)) (.int (r : Nat)) = some (rD rows[r]) := by
    have : (rows.map rD)[r]? = some (rD rows[r]) := by rw [List.getElem?_map, List.getElem?_eq_getElem hrl]; rfl
    exact (itemD_list (i := r)).trans this
  have hP := hrow _ (List.getElem_mem hrl)
  generalize rows[r] = P0 at hit hP
  refine okS_seq (s_set (e_pure (e_bin (e_slot rfl) (e_call (a_slot rfl (a_cons (e_un (e_slot rfl) hlr) a_nil)) (hT _ _ 0 rfl)) hit)) rfl (s_next ?_))
  obtain ⟨l0, P, rfl⟩ : ∃ l0 P, P0 = l0 :: P := by
    cases P0 with
    | nil =>
      have h := congrArg List.length (okP_nil.mp hP)
      rw [List.length_range, List.length_nil] at h
      omega
    | cons l P => exact ⟨l, P, rfl⟩
  have hbad := odds_bad (by omega) hP
  have hlen := okP_len List.pairwise_lt_range hP
  rw [List.length_range, List.length_cons] at hlen
  have hsum := okP_sum hP
  rw [List.flatten_cons, List.length_append, List.length_range] at hsum
  have hrd : rD (l0 :: P) = .tuple (lD l0 :: P.map lD) := rfl
  rw [hrd]
  have b1 : addD (.tuple (lD l0 :: P.map lD)) (.tuple [lD l0]) = some (.tuple ((l0 :: P).map lD ++ [lD l0])) := adT _ _ (by simp; omega)
  have b2 : addD (.tuple (lD l0 :: P.map lD)) (.tuple [.tuple []]) = some (.tuple ((l0 :: P).map lD ++ [.tuple []])) := adT _ _ (by simp; omega)
  have b3 : addD (.tuple (P.map lD)) (.tuple [.list (l0.map nD)]) = some (.tuple (P.map lD ++ [.list (l0.map nD)])) := adT _ _ (by simp; omega)
  have b4 : ∀ x, addD (.tuple (P.map lD)) (.tuple [x]) = some (.tuple (P.map lD ++ [x])) := fun x => adT _ _ (by simp; omega)
  have b5 : ∀ x, addD (.tuple (l0.map nD).dropLast) (.tuple [x]) = some (.tuple ((l0.map nD).dropLast ++ [x])) := fun x => adT _ _ (by simp; omega)
  have l1 : listD (.tuple (lD l0 :: P.map lD)) = some (.list ((l0 :: P).map lD)) := rfl
  have l2 : listD (lD l0) = some (.list (l0.map nD)) := rfl
  refine okS_seq (s_set (e_pure (e_lstE (a_cons e_const (a_cons (e_un (e_slot rfl) l1) (a_cons (e_bin (e_slot rfl) (e_slice (e_slot rfl) o_none' (o_some' e_const) (slTo1 _ _)) b1) (a_cons (e_slice (e_slot rfl) (o_some' e_const) o_none' (slT1 _ _)) (a_cons (e_bin (e_slot rfl) (e_tup (a_cons (e_tup a_nil p_nil (by simp)) a_nil) (p_cons p_nil) (by simp)) b2) (a_cons (e_bin (e_slice (e_slot rfl) (o_some' e_const) o_none' (slT1 _ _)) (e_tup (a_cons (e_un (e_bin (e_slot rfl) e_const item0) l2) a_nil) (p_cons p_nil) (by simp)) b3) (a_cons e_const (a_cons e_const a_nil)))))))) (p_cons (p_cons (p_cons (p_cons (p_cons (p_cons (p_cons (p_cons p_nil)))))))) (by simp))) rfl (s_next ?_))
  have hneg : negE (constE (.int 1)) = negE (constE (.int 1)) := rfl
  have hlt : lenD (lD ts) = some (nD ts.length) := len_lD ts
  refine okS_seq (s_set (e_pure (e_bin (e_slot rfl) (e_lst (c_allI [.none, nD ts.length] _ _ (fun x => .tuple (P.map lD ++ [.tuple ((l0.map nD).dropLast ++ [x])])) rfl (w_seqL (e_lstE (a_cons e_const (a_cons (e_un (e_slot rfl) hlt) a_nil)) (p_cons (p_cons p_nil)) (by simp))) (by simp) fun x hx => ⟨g_name rfl, t_yes, e_bin (e_slice (e_slot rfl) (o_some' e_const) o_none' (slT1 _ _)) (e_tup (a_cons (e_bin (e_slice (e_bin (e_slot rfl) e_const item0) o_none' (o_some' (e_neg e_const)) (cut_last _)) (e_tup (a_cons (e_slot rfl) a_nil) (p_cons p_nil) (by simp)) (b5 _)) a_nil) (p_cons p_nil) (by simp)) (b4 _)⟩)) (adL2 _ _ (by simp)))) rfl (s_next ?_))
  have r1 : revD (lD l0) = some (.tuple (l0.map nD).reverse) := rfl
  have hl0 : lenD (lD l0) = some (nD l0.length) := len_lD l0
  have g1 : gtD (nD l0.length) (.int 1) = some (.bool (decide (1 < l0.length))) := gtD_nat l0.length 1
  have g2 : gtD (nD ts.length) (nD w) = some (.bool (decide (w < ts.length))) := gtD_nat _ _
  have i1 : ∀ b : Bool, DL.intD (PyData.bool b) = some (PyData.int (if b = true then 1 else 0)) := fun b => rfl
  refine okS_seq (s_set (e_pure (e_bin (e_bin (e_slot rfl) (e_bin (e_lstE (a_cons (e_bin (e_slice (e_slot rfl) (o_some' e_const) o_none' (slT1 _ _)) (e_tup (a_cons (e_un (e_bin (e_slot rfl) e_const item0) r1) a_nil) (p_cons p_nil) (by simp)) (b4 _)) a_nil) (p_cons p_nil) (by simp)) (e_un (e_bin (e_un (e_bin (e_slot rfl) e_const item0) hl0) e_const g1) (i1 _)) (mul01 _ _)) (adL2 _ _ ?_)) (e_bin (e_lstE (a_cons (e_tup (a_cons (e_slot rfl) a_nil) (p_cons p_nil) (by simp)) a_nil) (p_cons p_nil) (by simp)) (e_un (e_bin (e_un (e_slot rfl) hlt) (e_slot rfl) g2) (i1 _)) (mul01 _ _)) (adL2 _ _ ?_))) rfl (s_next ?_))
  · have := ite_len (decide (1 < l0.length)) (PyData.tuple (List.map lD P ++ [PyData.tuple (List.map nD l0).reverse]))
    simp only [List.length_append, List.length_cons, List.length_nil, List.length_map]
    omega
  · have := ite_len (decide (1 < l0.length)) (PyData.tuple (List.map lD P ++ [PyData.tuple (List.map nD l0).reverse]))
    have := ite_len (decide (w < ts.length)) (PyData.tuple [lD (List.range ts.length)])
    simp only [List.length_append, List.length_cons, List.length_nil, List.length_map]
    omega
  have eo : oddsL l0 P ts.length w (lD (List.range ts.length)) = ([PyData.none, PyData.list (List.map lD (l0 :: P)), PyData.tuple (List.map lD (l0 :: P) ++ [lD l0]), PyData.tuple (List.map lD P), PyData.tuple (List.map lD (l0 :: P) ++ [PyData.tuple []]), PyData.tuple (List.map lD P ++ [PyData.list (List.map nD l0)]), PyData.str "loads", PyData.int 0] ++
      ([PyData.none, nD ts.length].map fun x => PyData.tuple (List.map lD P ++ [PyData.tuple ((List.map nD l0).dropLast ++ [x])])) ++ (if decide (1 < l0.length) = true then [PyData.tuple (List.map lD P ++ [PyData.tuple (List.map nD l0).reverse])] else []) ++ (if decide (w < ts.length) = true then [PyData.tuple [lD (List.range ts.length)]] else [])) := by
    unfold oddsL
    rw [List.map_dropLast]
  rw [← eo]
  have holen : (oddsL l0 P ts.length w (lD (List.range ts.length))).length ≤ 1000 := by
    have := ite_len (decide (1 < l0.length)) (PyData.tuple (List.map lD P ++ [PyData.tuple (List.map nD l0).reverse]))
    have := ite_len (decide (w < ts.length)) (PyData.tuple [lD (List.range ts.length)])
    rw [oddsL]
    simp only [List.length_append, List.length_cons, List.length_nil, List.length_map]
    omega
  generalize oddsL l0 P ts.length w (lD (List.range ts.length)) = odds at *
  have hC : ∀ v ∈ odds, ∀ (env : List (Option SV)) (st : Sto), callS 3 F_are_loads [.pure (lD ts), .pure (nD w), .pure v] ⟨env, st⟩ = .ok (.bool false, st) := fun v hv env st => C_bad (by omega) (by omega) (hbad v hv)
  have hcc := fun v (hv : v ∈ odds) => hC v hv
  refine s_ret (e_pure (e_bin (e_lst (c_pureI odds _ _ (fun _ => false) (fun x => x) rfl (w_seqL (e_slot rfl)) (by omega) fun x hx => ⟨g_name rfl, t_cmp (e_call (a_slot rfl (a_slot rfl (a_slot rfl a_nil))) (hcc x hx _ _)) e_const rfl, e_slot rfl⟩)) (e_lstE a_nil p_nil (by simp)) (eqD_list0 _))) ?_
  have ef : odds.filter (fun _ => false) = [] := List.filter_eq_nil_iff.mpr fun a _ => by decide
  rw [ef]
  rfl
end Lk70
end
section
namespace Lk70
theorem alike_lst (n : Nat) (xs : List Int) (hl : xs.length ≤ 1000) : F__law_alike (n + 2) [.pure (.list (xs.map .int)), .pure (.list (xs.map .int))] [] = .ok (.bool true, []) := by
  rw [F__law_alike]
  refine f_run ?_
  show OkS (b__law_alike _ 0 ⟨[some (.pure (.list (xs.map .int))), some (.pure (.list (xs.map .int))), none], []⟩) _
  rw [b__law_alike]
  have hlen : lenD (.list (xs.map PyData.int)) = some (.int (xs.length : Nat)) := by rw [lenD_list, List.length_map]
  refine okS_seq (s_ifT (t_orT (t_val (e_isi (e_slot rfl) rfl)) rfl) (okS_seq (s_ifF (t_orF (t_cmp (e_isi (e_slot rfl) rfl) (e_isi (e_slot rfl) rfl) (neD_bool _ _)) rfl (t_cmp (e_isi (e_slot rfl) rfl) (e_isi (e_slot rfl) rfl) (neD_bool _ _))) (s_nil (s_next ?_)))))
  have h1 : ∀ i ∈ List.range xs.length, itemD (.list (xs.map .int)) (.int (i : Nat)) = some (.int (xs.getD i 0)) := fun i hi => by
    have hi' := List.mem_range.mp hi
    refine (itemD_list (i := i)).trans ?_
    rw [List.getElem?_map, List.getElem?_eq_getElem hi', List.getD_eq_getElem?_getD, List.getElem?_eq_getElem hi']; rfl
  refine s_ret (e_pure (e_andT (e_bin (e_un (e_slot rfl) hlen) (e_un (e_slot rfl) hlen) (eqD_nat _ _)) (by simp) (e_bin (e_lst (c_pureN (List.range xs.length) nD _ _ (fun i => !decide (xs.getD i 0 = xs.getD i 0)) nD rfl (w_range1 (e_un (e_slot rfl) hlen) (by omega)) (by rw [List.length_range]; omega) fun i hi => ⟨g_name rfl, t_not (t_val (e_call (a_cons (e_bin (e_slot rfl) (e_slot rfl) (h1 i hi)) (a_cons (e_bin (e_slot rfl) (e_slot rfl) (h1 i hi)) a_nil)) (call2 (alike_int n _ _)))), e_slot rfl⟩)) (e_lstE a_nil p_nil (by simp)) (eqD_list0 _)))) ?_
  have ef : (List.range xs.length).filter (fun i => !decide (xs.getD i 0 = xs.getD i 0)) = [] := List.filter_eq_nil_iff.mpr fun a _ => by simp
  rw [ef]
  rfl
end Lk70
end
section
namespace Lk70
def spanN (ts : List Nat) (P : List (List Nat)) : Nat := (P.map (tOf ts)).sum
def bothD (ts : List Nat) (P : List (List Nat)) : PyData := .tuple [.int (spanN ts P : Nat), .int (sumL ts P : Nat)]
theorem listD_both (ts : List Nat) (P : List (List Nat)) : listD (bothD ts P) = some (.list ([((spanN ts P : Nat) : Int), ((sumL ts P : Nat) : Int)].map .int)) := rfl
theorem okP_l {w : Nat} {ts : List Nat} {P : List (List Nat)} (hn : ts.length ≤ 6) (o : OkP w (List.range ts.length) P) : P.length ≤ 1000 := by
  have := okP_len List.pairwise_lt_range o
  rw [List.length_range] at this
  omega
theorem item_rows {α : Type} (f : α → PyData) {xs : List α} {r : Nat} (h : r < xs.length) : itemD (.list (xs.map f)) (.int (r : Nat)) = some (f xs[r]) := by
  refine (itemD_list (i := r)).trans ?_
  rw [List.getElem?_map, List.getElem?_eq_getElem h]; rfl
theorem tail2_ok {ts : List Nat} {w : Nat} {rows : List (List (List Nat))} (hn : ts.length ≤ 6) (hw5 : w ≤ 5) (hr : rows ≠ []) (hn1 : 1 ≤ ts.length) (hrow : ∀ P ∈ rows, OkP w (List.range ts.length) P) (zs : List Int) {ns : List PyData} {d2 d5 d9 : PyData} :
    OkS (tail2 0 ⟨[some (.scr ns), some (.obj 0), some (.pure d2), some (.pure (lD ts)), some (.pure (nD w)), some (.pure d5), some (.pure (lD (List.range ts.length))), some (.pure (.list (rows.map rD))), some (.pure (.list (rows.map (bothD ts)))), some (.pure d9), none, none, none, none, none, none, none], [.lst (zs.map .int)]⟩) fun fl s' => endF 0 (.ok (fl, s')) = .ok (.bool true, []) := by
  rw [tail2]
  have hlr : lenD (.list (rows.map rD)) = some (.int (rows.length : Nat)) := by rw [lenD_list, List.length_map]
  refine okS_seq (s_for (List.range 3) (fun i => PyData.int (i : Nat)) (fun k s => ∃ zs : List Int, s = ⟨[some (.scr ns), some (.obj 0), some (.pure d2), some (.pure (lD ts)), some (.pure (nD w)), some (.pure d5), some (.pure (lD (List.range ts.length))), some (.pure (.list (rows.map rD))), some (.pure (.list (rows.map (bothD ts)))), some (.pure d9), none, none, none, none, none, none, none], [.lst (zs.map .int)]⟩) (w_range1 e_const (by omega)) ⟨zs, rfl⟩ ?_ ?_)
  · rintro k hk s ⟨zs, rfl⟩
    refine ⟨_, g_name rfl, ?_⟩
    obtain ⟨r, zs', hrl, hT⟩ := take_n zs rows.length (List.length_pos_iff.mpr hr)
    have hit := item_rows rD hrl
    have hit2 := item_rows (bothD ts) hrl
    have hP := hrow _ (List.getElem_mem hrl)
    generalize rows[r] = P at hit hit2 hP
    refine okS_seq (s_set (e_pure (e_call (a_slot rfl (a_cons (e_un (e_slot rfl) hlr) a_nil)) (hT _ _ 0 rfl))) rfl (s_next ?_))
    refine s_ifF (t_orF (t_cmp (e_call (a_slot rfl (a_slot rfl (a_cons (e_bin (e_slot rfl) (e_slot rfl) hit) a_nil))) (C_good (by omega) (by omega) hP)) e_const (isNotD_bool _ _)) rfl (t_not (k := true) (t_val (e_call (a_cons (e_lstE (a_cons (e_call (a_slot rfl (a_cons (e_bin (e_slot rfl) (e_slot rfl) hit) a_nil)) (call2 (F_span (okP_GL hw5 hP) (okP_l hn hP)))) (a_cons (e_call (a_slot rfl (a_cons (e_bin (e_slot rfl) (e_slot rfl) hit) a_nil)) (call2 (F_sum (okP_GL hw5 hP)))) a_nil)) (p_cons (p_cons p_nil)) (by simp)) (a_cons (e_un (e_bin (e_slot rfl) (e_slot rfl) hit2) (listD_both ts P)) a_nil)) (call2 (alike_lst 5 [((spanN ts P : Nat) : Int), ((sumL ts P : Nat) : Int)] (by simp))))))) (s_nil ?_)
    exact ⟨zs', rfl⟩
  · rintro s ⟨zs, rfl⟩
    exact s_next (tail3_ok hn hw5 hr hn1 hrow zs)
end Lk70
end
section
namespace Lk70
theorem mul_t8 (x : PyData) : mulD (.tuple [x]) (.int 8) = some (.tuple (List.replicate 8 x)) := by
  unfold mulD
  simp only
  rw [if_pos ⟨by simp, by omega, by omega, by simp⟩]
  rfl
theorem mul_t7 (x : PyData) : mulD (.tuple [x]) (.int 7) = some (.tuple (List.replicate 7 x)) := by
  unfold mulD
  simp only
  rw [if_pos ⟨by simp, by omega, by omega, by simp⟩]
  rfl
def oddP (ts : List Nat) : List PyData :=
  [.none, .tuple [], .list (ts.map nD), .tuple (List.replicate 8 (.int 1)), .tuple ((ts.map nD).dropLast ++ [.int 0]), .tuple ((ts.map nD).dropLast ++ [.int 51]), .tuple ((ts.map nD).dropLast ++ [.none]), .tuple ((ts.map nD).dropLast ++ [.bool true]), .str "pieces", .int 0]
theorem bad_snoc {dl : List PyData} {x : PyData} (h : isNum x 1 50 = false) : piecesB (.tuple (dl ++ [x])) = false := by
  show (decide _ && decide _ && (dl ++ [x]).all _) = false
  rw [List.all_append, List.all_cons, h, Bool.false_and, Bool.and_false, Bool.and_false]
theorem oddP_bad (ts : List Nat) : ∀ v ∈ oddP ts, piecesB v = false := by
  intro v hv
  unfold oddP at hv
  simp only [List.mem_cons, List.not_mem_nil, or_false] at hv
  rcases hv with rfl | rfl | rfl | rfl | rfl | rfl | rfl | rfl | rfl | rfl
  · rfl
  · rfl
  · rfl
  · rfl
  · exact bad_snoc rfl
  · exact bad_snoc rfl
  · exact bad_snoc rfl
  · exact bad_snoc rfl
  · rfl
  · rfl
theorem good_pieces {ts : List Nat} (hn1 : 1 ≤ ts.length) (hn : ts.length ≤ 6) (ht : ∀ x ∈ ts, 1 ≤ x ∧ x ≤ 50) : piecesB (lD ts) = true := by
  unfold lD piecesB
  simp only [List.length_map, Bool.and_eq_true, decide_eq_true_eq, List.all_eq_true, List.mem_map, forall_exists_index, and_imp]
  refine ⟨⟨by omega, by omega⟩, ?_⟩
  rintro v x hx rfl
  have := ht x hx
  simp only [isNum, Bool.and_eq_true, decide_eq_true_eq]
  omega
theorem C_pc {v : PyData} {b : Bool} (h : piecesB v = b) {env : List (Option SV)} {st : Sto} : callS 1 F_are_pieces [.pure v] ⟨env, st⟩ = .ok (.bool b, st) := by
  subst h; exact call1 (F_pieces v)
theorem min_of {xs : List Nat} {m : Nat} (hm : m ∈ xs) (h : ∀ y ∈ xs, m ≤ y) : minDD (.list (xs.map nD)) = some (nD m) := by
  obtain ⟨a, h1, h2, h3⟩ := Enc.nat.minL (by decide) (xs := xs) (fun z => by rw [z] at hm; cases hm)
  have h4 := h3 m hm
  rw [Enc.lt_nat] at h4
  have h5 := h a h2
  have : a = m := by simp at h4; omega
  subst this
  exact h1
theorem span_k {ts : List Nat} {w : Nat} (hw : 1 ≤ w) (hn1 : 1 ≤ ts.length) : ts.length ≤ ((ts.length - 1) / w + 1) * w ∧ ((ts.length - 1) / w + 1 - 1) * w < ts.length := by
  have h1 := Nat.div_add_mod (ts.length - 1) w
  have h2 := Nat.mod_lt (ts.length - 1) hw
  have h3 : w * ((ts.length - 1) / w) = (ts.length - 1) / w * w := Nat.mul_comm _ _
  rw [Nat.add_sub_cancel, Nat.succ_mul]
  omega
theorem tail1_ok {ts : List Nat} {w : Nat} (hn1 : 1 ≤ ts.length) (hn : ts.length ≤ 6) (ht : ∀ x ∈ ts, 1 ≤ x ∧ x ≤ 50) (hw : 1 ≤ w) (hw5 : w ≤ 5) (zs : List Int) {ns : List PyData} {d2 : PyData} :
    OkS (tail1 0 ⟨[some (.scr ns), some (.obj 0), some (.pure d2), some (.pure (lD ts)), some (.pure (nD w)), none, none, none, none, none, none, none, none, none, none, none, none], [.lst (zs.map .int)]⟩) fun fl s' => endF 0 (.ok (fl, s')) = .ok (.bool true, []) := by
  rw [tail1]
  have l1 : listD (lD ts) = some (.list (ts.map nD)) := rfl
  have b1 : ∀ x, addD (.tuple (ts.map nD).dropLast) (.tuple [x]) = some (.tuple ((ts.map nD).dropLast ++ [x])) := fun x => adT _ _ (by simp; omega)
  refine okS_seq (s_set (e_pure (e_lstE (a_cons e_const (a_cons (e_tup a_nil p_nil (by simp)) (a_cons (e_un (e_slot rfl) l1) (a_cons (e_bin (e_tup (a_cons e_const a_nil) (p_cons p_nil) (by simp)) e_const (mul_t8 _)) (a_cons (e_bin (e_slice (e_slot rfl) o_none' (o_some' (e_neg e_const)) (cut_last _)) (e_tup (a_cons e_const a_nil) (p_cons p_nil) (by simp)) (b1 _)) (a_cons (e_bin (e_slice (e_slot rfl) o_none' (o_some' (e_neg e_const)) (cut_last _)) (e_tup (a_cons e_const a_nil) (p_cons p_nil) (by simp)) (b1 _)) (a_cons (e_bin (e_slice (e_slot rfl) o_none' (o_some' (e_neg e_const)) (cut_last _)) (e_tup (a_cons e_const a_nil) (p_cons p_nil) (by simp)) (b1 _)) (a_cons (e_bin (e_slice (e_slot rfl) o_none' (o_some' (e_neg e_const)) (cut_last _)) (e_tup (a_cons e_const a_nil) (p_cons p_nil) (by simp)) (b1 _)) (a_cons e_const (a_cons e_const a_nil)))))))))) (p_cons (p_cons (p_cons (p_cons (p_cons (p_cons (p_cons (p_cons (p_cons (p_cons p_nil)))))))))) (by simp))) rfl (s_next ?_))
  have hbad := oddP_bad ts
  have eo : oddP ts = [PyData.none, .tuple [], .list (ts.map nD), .tuple (List.replicate 8 (.int 1)), .tuple ((ts.map nD).dropLast ++ [.int 0]), .tuple ((ts.map nD).dropLast ++ [.int 51]), .tuple ((ts.map nD).dropLast ++ [.none]), .tuple ((ts.map nD).dropLast ++ [.bool true]), .str "pieces", .int 0] := rfl
  rw [← eo]
  have hol : (oddP ts).length ≤ 1000 := by simp [oddP]
  generalize oddP ts = odds at *
  have ef : odds.filter (fun _ => false) = [] := List.filter_eq_nil_iff.mpr fun a _ => by decide
  refine okS_seq (s_ifF (t_orF (t_cmp (e_call (a_slot rfl a_nil) (C_pc (good_pieces hn1 hn ht))) e_const (isNotD_bool _ _)) rfl (t_orF (t_cmp (e_call (a_cons (e_bin (e_tup (a_cons e_const a_nil) (p_cons p_nil) (by simp)) e_const (mul_t7 _)) a_nil) (C_pc (b := true) rfl)) e_const (isNotD_bool _ _)) rfl (t_cmp (e_lst (c_pureI odds _ _ (fun _ => false) (fun x => x) rfl (w_seqL (e_slot rfl)) (by omega) fun x hx => ⟨g_name rfl, t_cmp (e_call (a_slot rfl a_nil) (C_pc (hbad x hx))) e_const rfl, e_slot rfl⟩)) (e_lstE a_nil p_nil (by simp)) (by rw [ef]; exact neD_list0 _)))) (s_nil (s_next ?_)))
  have hlt : lenD (lD ts) = some (.int (ts.length : Nat)) := len_lD ts
  refine okS_seq (s_set (e_pure (e_rg1 (e_un (e_slot rfl) hlt) (by omega))) rfl (s_next ?_))
  obtain ⟨hR, hRl⟩ := F_rows (w := w) (d := 7) (left := List.range ts.length) List.pairwise_lt_range (by rw [List.length_range]; exact hn) (by rw [List.length_range]; omega)
  have hmem : ∀ P, P ∈ rowsL w 7 (List.range ts.length) ↔ OkP w (List.range ts.length) P := fun P => mem_rows List.pairwise_lt_range (by rw [List.length_range]; omega)
  have hRb : (rowsL w 7 (List.range ts.length)).length ≤ 16777216 := by
    have h1 := bn2_mono (m := (List.range ts.length).length) (n := 6) (by rw [List.length_range]; exact hn)
    have h2 : bn2 6 = 2097152 := by decide
    omega
  generalize rowsL w 7 (List.range ts.length) = rows at *
  have hrow := fun P => (hmem P).mp
  refine okS_seq (s_set (e_pure (e_call (a_slot rfl (a_slot rfl a_nil)) (call2 hR))) rfl (s_next ?_))
  refine okS_seq (s_set (e_pure (e_lst (c_allN rows rD _ _ (bothD ts) rfl (w_seqL (e_slot rfl)) hRb fun P hP => ⟨g_name rfl, t_yes, e_call (a_slot rfl (a_slot rfl a_nil)) (call2 (F_both (okP_GL hw5 (hrow P hP))))⟩))) rfl (s_next ?_))
  obtain ⟨L, hL, hLm, hB⟩ := F_best hw hw5 hn1 hn
  refine okS_seq (s_set (e_pure (e_call (a_slot rfl (a_slot rfl a_nil)) (call2 hB))) rfl (s_next ?_))
  have hr : rows ≠ [] := List.ne_nil_of_mem ((hmem L).mpr hL)
  have hk := span_k (ts := ts) hw hn1
  have hS : leastS ts w = strd w ((ts.length - 1) / w + 1) (dsc ts) := by unfold leastS; rw [if_pos (by omega)]
  have m1 : minDD (.list (rows.map fun P => PyData.int (spanN ts P : Nat))) = some (.int (leastS ts w : Nat)) := by
    have h1 := min_of (xs := rows.map (spanN ts)) (m := leastS ts w) (by
      obtain ⟨P, hP, e⟩ := span_has hw rfl (dsc_perm ts) (dsc_desc ts) hk.1 (.inr hk.2)
      refine List.mem_map.mpr ⟨P, (hmem P).mpr hP, ?_⟩
      rw [hS]; exact e) (by
      intro y hy
      obtain ⟨P, hP, rfl⟩ := List.mem_map.mp hy
      rw [hS]
      exact span_low rfl (dsc_perm ts) (dsc_desc ts) (hrow P hP) _)
    rw [List.map_map] at h1
    exact h1
  have m2 : minDD (.list (rows.map fun P => PyData.int (sumL ts P : Nat))) = some (.int (sumL ts L : Nat)) := by
    have h1 := min_of (xs := rows.map (sumL ts)) (m := sumL ts L) (List.mem_map.mpr ⟨L, (hmem L).mpr hL, rfl⟩) (by
      intro y hy
      obtain ⟨P, hP, rfl⟩ := List.mem_map.mp hy
      exact hLm P (hrow P hP))
    rw [List.map_map] at h1
    exact h1
  have hLS := F_least_sum_eq hw5 hL hB
  have hLP := F_least_span_eq (ts := ts) hw (by omega) (by omega)
  refine okS_seq (s_ifF (t_not (k := true) (t_val (e_call (a_cons (e_lstE (a_cons (e_call (a_slot rfl (a_slot rfl a_nil)) (call2 hLP)) (a_cons (e_call (a_slot rfl (a_slot rfl a_nil)) (call2 hLS)) a_nil)) (p_cons (p_cons p_nil)) (by simp)) (a_cons (e_lstE (a_cons (e_un (e_lst (c_allN rows (bothD ts) _ _ (fun P => .int (spanN ts P : Nat)) rfl (w_seqL (e_slot rfl)) hRb fun P hP => ⟨g_tup rfl (g_cons (g_name rfl) (g_cons (g_name rfl) g_nil)), t_yes, e_slot rfl⟩)) m1) (a_cons (e_un (e_lst (c_allN rows (bothD ts) _ _ (fun P => .int (sumL ts P : Nat)) rfl (w_seqL (e_slot rfl)) hRb fun P hP => ⟨g_tup rfl (g_cons (g_name rfl) (g_cons (g_name rfl) g_nil)), t_yes, e_slot rfl⟩)) m2) a_nil)) (p_cons (p_cons p_nil)) (by simp)) a_nil)) (call2 (alike_lst 5 [((leastS ts w : Nat) : Int), ((sumL ts L : Nat) : Int)] (by simp)))))) (s_nil (s_next ?_)))
  have hin : notInD (rD L) (.list (rows.map rD)) = some (.bool false) := by
    refine (rowE.notInL (by decide) L rows).trans ?_
    have hd := (hmem L).mpr hL
    simp only [hd, decide_true, Bool.not_true]
  refine okS_seq (s_ifF (t_orF (t_cmp (e_call (a_slot rfl (a_slot rfl (a_slot rfl a_nil))) (C_good (by omega) (by omega) hL)) e_const (isNotD_bool _ _)) rfl (t_orF (t_cmp (e_slot rfl) (e_slot rfl) hin) rfl (t_not (k := true) (t_val (e_call (a_cons (e_call (a_slot rfl (a_slot rfl a_nil)) (call2 (F_sum (okP_GL hw5 hL)))) (a_cons (e_call (a_slot rfl (a_slot rfl a_nil)) (call2 hLS)) a_nil)) (call2 ((alike_int 6 _ _).trans (by rw [decide_eq_true rfl])))))))) (s_nil (s_next ?_)))
  exact tail2_ok hn hw5 hr hn1 hrow zs
end Lk70
end
section
namespace Lk70
theorem callScr1 {F : FSem} {ds : List PyData} {env : List (Option SV)} {d : PyData} (hF : F [.scr ds] [] = .ok (d, [])) : callS 1 F [.scr ds] ⟨env, []⟩ = .ok (d, []) := by
  unfold callS
  rw [if_pos ⟨rfl, by simp [idsOf]⟩]
  simp only [idsOf, gather, List.map_cons, List.map_nil, renum, hF]
  rfl
theorem law_true (ns : List Int) (hl : ns.length ≤ 63) (hb : ∀ z ∈ ns, PySem.Builtin.Int.intBits z ≤ 1048576) : F_law [.scr (ns.map .int)] [] = .ok (.bool true, []) := by
  rw [F_law]
  refine f_run ?_
  show OkS (b_law 0 ⟨[some (.scr (ns.map .int)), none, none, none, none, none, none, none, none, none, none, none, none, none, none, none, none], []⟩) _
  rw [b_law]
  obtain ⟨zs, hz⟩ := F_draws ns hl
  refine okS_seq (s_set (e_own (e_callC (a_slot rfl a_nil) (callScr1 hz)) rfl rfl) rfl (s_next ?_))
  obtain ⟨r, zs1, hr, hT⟩ := take_n zs 3 (by omega)
  obtain ⟨top, htop, h1, h2⟩ : ∃ top : Nat, itemD (.list [.int 3, .int 12, .int 50]) (.int (r : Nat)) = some (.int (top : Nat)) ∧ 1 ≤ top ∧ top ≤ 50 := by
    match r, hr with
    | 0, _ => exact ⟨3, (itemD_list (i := 0)).trans rfl, by omega, by omega⟩
    | 1, _ => exact ⟨12, (itemD_list (i := 1)).trans rfl, by omega, by omega⟩
    | 2, _ => exact ⟨50, (itemD_list (i := 2)).trans rfl, by omega, by omega⟩
  refine okS_seq (s_set (e_pure (e_bin (e_lstE (a_cons e_const (a_cons e_const (a_cons e_const a_nil))) (p_cons (p_cons (p_cons p_nil))) (by simp)) (e_call (a_slot rfl (a_cons e_const a_nil)) (hT _ _ 0 rfl)) htop)) rfl (s_next ?_))
  obtain ⟨r2, zs2, hr2, hT2⟩ := take_n zs1 6 (by omega)
  have hn : addD (.int 1) (.int (r2 : Nat)) = some (.int ((1 + r2 : Nat) : Int)) := by rw [addD_int]; simp
  have HC := c_inv (env := [some (.scr (ns.map .int)), some (.obj 0), some (.pure (.int (top : Nat))), none, none, none, none, none, none, none, none, none, none, none, none, none, none]) (st := [.lst (zs1.map .int)]) (fi := range1I (bin2 addD (constE (.int 1)) (callE 2 F__law_take (consSlotA 1 (consA (constE (.int 6)) nilA))))) (vs := [12]) (gt := nameG 12) (ft := yesT) (fe := bin2 addD (constE (.int 1)) (callE 2 F__law_take (consSlotA 1 (consSlotA 2 nilA))))
    (List.range (1 + r2)) (fun i => PyData.int (i : Nat)) (fun k acc st => ∃ (zs : List Int) (l : List Nat), acc = l.map nD ∧ l.length = k ∧ (∀ x ∈ l, 1 ≤ x ∧ x ≤ 50) ∧ st = [.lst (zs.map .int)])
    (w_range1 (e_bin e_const (e_call (a_slot rfl (a_cons e_const a_nil)) (hT2 _ _ 0 rfl)) hn) (by omega)) (by rw [List.length_range]; omega) ⟨zs2, [], rfl, rfl, (fun x hx => by cases hx), rfl⟩ (by
      rintro k hk acc st ⟨zs, l, rfl, hll, hlb, rfl⟩
      obtain ⟨r3, zs4, hr3, hT3⟩ := take_n zs top (by omega)
      have hw : addD (.int 1) (.int (r3 : Nat)) = some (.int ((1 + r3 : Nat) : Int)) := by rw [addD_int]; simp
      refine ⟨_, g_name rfl, .inr ⟨_, _, _, t_yes, e_bin e_const (e_call (a_slot rfl (a_slot rfl a_nil)) (hT3 _ _ 0 rfl)) hw, zs4, l ++ [1 + r3], by rw [List.map_append]; rfl, by rw [List.length_append, List.length_singleton, hll], ?_, rfl⟩⟩
      intro x hx
      rcases List.mem_append.mp hx with hx | hx
      · exact hlb x hx
      · rw [List.mem_singleton.mp hx]; omega)
  obtain ⟨ys, st', hc, zs3, l, rfl, hll, hlb, rfl⟩ := HC
  rw [List.length_range] at hll
  obtain ⟨r3, zs4, hr3, hT3⟩ := take_n zs3 5 (by omega)
  have hw : addD (.int 1) (.int (r3 : Nat)) = some (.int ((1 + r3 : Nat) : Int)) := by rw [addD_int]; simp
  refine okS_seq (s_asg2 (a_consV (e_pure (e_un (e_lst hc) (tupleD_list _))) (a_consV (e_pure (e_bin e_const (e_call (a_slot rfl (a_cons e_const a_nil)) (hT3 _ _ 0 rfl)) hw)) a_nil)) rfl rfl (s_next ?_))
  exact tail1_ok (ts := l) (w := 1 + r3) (by omega) (by omega) hlb (by omega) (by omega) zs4
end Lk70
end
end
section
set_option Elab.async false
set_option linter.all false
set_option maxRecDepth 100000
set_option maxHeartbeats 0
/-! printed by gen.py: the head, the law. -/
namespace Lk70
open PySem PySem.Spec PyProof.Rows L2 DL
def dfs : List He.DefD := [⟨("is_number", none), "is_number", "is_number", defArgs (top 1), defBody (top 1), defScope (top 1), [], []⟩,
  ⟨("are_pieces", none), "are_pieces", "are_pieces", defArgs (top 6), defBody (top 6), defScope (top 6), [], []⟩,
  ⟨("are_loads", none), "are_loads", "are_loads", defArgs (top 7), defBody (top 7), defScope (top 7), [], []⟩,
  ⟨("time_of", none), "time_of", "time_of", defArgs (top 8), defBody (top 8), defScope (top 8), [], []⟩,
  ⟨("load_span", none), "load_span", "load_span", defArgs (top 9), defBody (top 9), defScope (top 9), [], []⟩,
  ⟨("load_sum", none), "load_sum", "load_sum", defArgs (top 10), defBody (top 10), defScope (top 10), [], []⟩,
  ⟨("least_span", none), "least_span", "least_span", defArgs (top 11), defBody (top 11), defScope (top 11), [], []⟩,
  ⟨("loads_with", none), "loads_with", "loads_with", defArgs (top 13), defBody (top 13), defScope (top 13), [], []⟩,
  ⟨("partings", none), "partings", "partings", defArgs (top 12), defBody (top 12), defScope (top 12), [], []⟩,
  ⟨("best_loads", none), "best_loads", "best_loads", defArgs (top 14), defBody (top 14), defScope (top 14), [], []⟩,
  ⟨("least_sum", none), "least_sum", "least_sum", defArgs (top 15), defBody (top 15), defScope (top 15), [], []⟩,
  ⟨("_law_draws", none), "_law_draws", "_law_draws", defArgs (top 17), defBody (top 17), defScope (top 17), [], []⟩,
  ⟨("_law_take", none), "_law_take", "_law_take", defArgs (top 18), defBody (top 18), defScope (top 18), [], []⟩,
  ⟨("_law_alike", none), "_law_alike", "_law_alike", defArgs (top 19), defBody (top 19), defScope (top 19), [], []⟩,
  ⟨("_law_sets", none), "_law_sets", "_law_sets", defArgs (top 21), defBody (top 21), defScope (top 21), [], []⟩,
  ⟨("_law_loads", none), "_law_loads", "_law_loads", defArgs (top 20), defBody (top 20), defScope (top 20), [], []⟩,
  ⟨("_law_both", none), "_law_both", "_law_both", defArgs (top 22), defBody (top 22), defScope (top 22), [], []⟩,
  ⟨("law", none), "law", "law", defArgs (top 23), defBody (top 23), defScope (top 23), [], []⟩]
def fas : List He.Fa := [.glo "is_number", .glo "are_pieces", .glo "are_loads", .glo "time_of", .glo "load_span", .glo "load_sum", .glo "least_span", .glo "loads_with", .glo "partings", .glo "best_loads", .glo "least_sum", .glo "_law_draws", .glo "_law_take", .glo "_law_alike", .glo "_law_sets", .glo "_law_loads", .glo "_law_both", .glo "law", .free "abs", .free "all", .free "bool", .free "int", .free "isinstance", .free "len", .free "list", .free "max", .free "min", .free "range", .free "reversed", .free "sorted", .free "str", .free "sum", .free "tuple"]
def tfs : List He.Defn := [("are_pieces", none), ("are_loads", none), ("best_loads", none)]
def exs (K : PySem.W.Frag) : Bool := conB K "EVERY" k_EVERY && (conB K "MOST_PIECES" k_MOST_PIECES && (conB K "MOST_TIME" k_MOST_TIME && (true)))
abbrev R : PySem.W.OpenRow := PySem.W.OpenLaw.row PySem.Challenge.rw_plantkept_k70_whole_ovens
abbrev hk : PySem.W.Hook := He.hookX 5 fas dfs [] tfs exs
def ob (s : PySem.W.SharedT) : He.AlX := He.obsX 5 fas dfs [] tfs exs (HandSHeadRun.getT s)
theorem ob_eq (s : PySem.W.SharedT) : ob s = hk.obs s.abs := He.obsX_eq (HandSHeadRun.getT_eq s)
def nm0 : List PySem.Str := ["is_number", "MOST_PIECES", "MOST_TIME", "EVERY", "are_pieces", "are_loads", "time_of", "load_span", "load_sum", "least_span", "partings", "loads_with", "best_loads", "least_sum", "_law_draws", "_law_take", "_law_alike", "_law_loads", "_law_sets", "_law_both"]
def nms : List PySem.Str := nm0
theorem run (w : World) : HandSHeadRun.RunEq R (PySem.W.view R.prog [23]) hk ob 2000 nms w := by
  intro os
  kernel_rfl
abbrev cfg (w : World) (K : PySem.W.Frag) : Cfg := ⟨tfs.map fun p => (He.cT K p).2, [], fun _ => .none, DK.hashD w⟩
theorem facts {h base : Heap} {mg : Str → Option Value} {w : World} {K : PySem.W.Frag} (X : K.In h) (G : h.Ns mainGlobals mg) (S : He.SaysX fas dfs [] tfs exs w h K) (tb : ∀ p ∈ tfs, GxR.TabB base mg (He.cT K p).1 (He.cT K p).2) : Facts w K mg base (cfg w K) := by
  have c : He.SaysD fas dfs K := congrArg (fun z : He.AlT => z.1) S.t
  have em := S.more
  unfold exs at em
  simp only [Bool.and_eq_true] at em
  have g0 := He.glo_ok X G (c.fact 0 (f := .glo "is_number") rfl)
  have g1 := He.glo_ok X G (c.fact 1 (f := .glo "are_pieces") rfl)
  have g2 := He.glo_ok X G (c.fact 2 (f := .glo "are_loads") rfl)
  have g3 := He.glo_ok X G (c.fact 3 (f := .glo "time_of") rfl)
  have g4 := He.glo_ok X G (c.fact 4 (f := .glo "load_span") rfl)
  have g5 := He.glo_ok X G (c.fact 5 (f := .glo "load_sum") rfl)
  have g6 := He.glo_ok X G (c.fact 6 (f := .glo "least_span") rfl)
  have g7 := He.glo_ok X G (c.fact 7 (f := .glo "loads_with") rfl)
  have g8 := He.glo_ok X G (c.fact 8 (f := .glo "partings") rfl)
  have g9 := He.glo_ok X G (c.fact 9 (f := .glo "best_loads") rfl)
  have g10 := He.glo_ok X G (c.fact 10 (f := .glo "least_sum") rfl)
  have g11 := He.glo_ok X G (c.fact 11 (f := .glo "_law_draws") rfl)
  have g12 := He.glo_ok X G (c.fact 12 (f := .glo "_law_take") rfl)
  have g13 := He.glo_ok X G (c.fact 13 (f := .glo "_law_alike") rfl)
  have g14 := He.glo_ok X G (c.fact 14 (f := .glo "_law_sets") rfl)
  have g15 := He.glo_ok X G (c.fact 15 (f := .glo "_law_loads") rfl)
  have g16 := He.glo_ok X G (c.fact 16 (f := .glo "_law_both") rfl)
  have g17 := He.glo_ok X G (c.fact 17 (f := .glo "law") rfl)
  obtain ⟨fd0, F0⟩ := c.def_ 0 rfl
  obtain ⟨fd1, F1⟩ := c.def_ 1 rfl
  obtain ⟨fd2, F2⟩ := c.def_ 2 rfl
  obtain ⟨fd3, F3⟩ := c.def_ 3 rfl
  obtain ⟨fd4, F4⟩ := c.def_ 4 rfl
  obtain ⟨fd5, F5⟩ := c.def_ 5 rfl
  obtain ⟨fd6, F6⟩ := c.def_ 6 rfl
  obtain ⟨fd7, F7⟩ := c.def_ 7 rfl
  obtain ⟨fd8, F8⟩ := c.def_ 8 rfl
  obtain ⟨fd9, F9⟩ := c.def_ 9 rfl
  obtain ⟨fd10, F10⟩ := c.def_ 10 rfl
  obtain ⟨fd11, F11⟩ := c.def_ 11 rfl
  obtain ⟨fd12, F12⟩ := c.def_ 12 rfl
  obtain ⟨fd13, F13⟩ := c.def_ 13 rfl
  obtain ⟨fd14, F14⟩ := c.def_ 14 rfl
  obtain ⟨fd15, F15⟩ := c.def_ 15 rfl
  obtain ⟨fd16, F16⟩ := c.def_ 16 rfl
  obtain ⟨fd17, F17⟩ := c.def_ 17 rfl
  exact {
    hsh := rfl
    b_abs := He.free_ok X G (c.fact 18 (f := .free "abs") rfl)
    b_all := He.free_ok X G (c.fact 19 (f := .free "all") rfl)
    b_bool := He.free_ok X G (c.fact 20 (f := .free "bool") rfl)
    b_int := He.free_ok X G (c.fact 21 (f := .free "int") rfl)
    b_isinstance := He.free_ok X G (c.fact 22 (f := .free "isinstance") rfl)
    b_len := He.free_ok X G (c.fact 23 (f := .free "len") rfl)
    b_list := He.free_ok X G (c.fact 24 (f := .free "list") rfl)
    b_max := He.free_ok X G (c.fact 25 (f := .free "max") rfl)
    b_min := He.free_ok X G (c.fact 26 (f := .free "min") rfl)
    b_range := He.free_ok X G (c.fact 27 (f := .free "range") rfl)
    b_reversed := He.free_ok X G (c.fact 28 (f := .free "reversed") rfl)
    b_sorted := He.free_ok X G (c.fact 29 (f := .free "sorted") rfl)
    b_str := He.free_ok X G (c.fact 30 (f := .free "str") rfl)
    b_sum := He.free_ok X G (c.fact 31 (f := .free "sum") rfl)
    b_tuple := He.free_ok X G (c.fact 32 (f := .free "tuple") rfl)
    c_EVERY := con_ok X G em.1
    c_MOST_PIECES := con_ok X G em.2.1
    c_MOST_TIME := con_ok X G em.2.2.1
    d_is_number := def_of F0 g0 (fun _ _ _ _ _ _ us hl => match us, hl with | [_, _, _], _ => rfl)
    d_are_pieces := def_ofG (p := ("are_pieces", none)) F1 g1 (fun _ _ _ _ _ _ us hl => match us, hl with | [_], _ => rfl) (tb ("are_pieces", none) (by decide)) (List.mem_map.mpr ⟨("are_pieces", none), by decide, rfl⟩)
    d_are_loads := def_ofG (p := ("are_loads", none)) F2 g2 (fun _ _ _ _ _ _ us hl => match us, hl with | [_, _, _], _ => rfl) (tb ("are_loads", none) (by decide)) (List.mem_map.mpr ⟨("are_loads", none), by decide, rfl⟩)
    d_time_of := def_of F3 g3 (fun _ _ _ _ _ _ us hl => match us, hl with | [_, _], _ => rfl)
    d_load_span := def_of F4 g4 (fun _ _ _ _ _ _ us hl => match us, hl with | [_, _], _ => rfl)
    d_load_sum := def_of F5 g5 (fun _ _ _ _ _ _ us hl => match us, hl with | [_, _], _ => rfl)
    d_least_span := def_of F6 g6 (fun _ _ _ _ _ _ us hl => match us, hl with | [_, _], _ => rfl)
    d_loads_with := def_of F7 g7 (fun _ _ _ _ _ _ us hl => match us, hl with | [_, _, _], _ => rfl)
    d_partings := def_of F8 g8 (fun _ _ _ _ _ _ us hl => match us, hl with | [_, _], _ => rfl)
    d_best_loads := def_ofG (p := ("best_loads", none)) F9 g9 (fun _ _ _ _ _ _ us hl => match us, hl with | [_, _], _ => rfl) (tb ("best_loads", none) (by decide)) (List.mem_map.mpr ⟨("best_loads", none), by decide, rfl⟩)
    d_least_sum := def_of F10 g10 (fun _ _ _ _ _ _ us hl => match us, hl with | [_, _], _ => rfl)
    d__law_draws := def_of F11 g11 (fun _ _ _ _ _ _ us hl => match us, hl with | [_], _ => rfl)
    d__law_take := def_of F12 g12 (fun _ _ _ _ _ _ us hl => match us, hl with | [_, _], _ => rfl)
    d__law_alike := def_of F13 g13 (fun _ _ _ _ _ _ us hl => match us, hl with | [_, _], _ => rfl)
    d__law_sets := def_of F14 g14 (fun _ _ _ _ _ _ us hl => match us, hl with | [_], _ => rfl)
    d__law_loads := def_of F15 g15 (fun _ _ _ _ _ _ us hl => match us, hl with | [_, _], _ => rfl)
    d__law_both := def_of F16 g16 (fun _ _ _ _ _ _ us hl => match us, hl with | [_, _], _ => rfl)
    d_law := def_of F17 g17 (fun _ _ _ _ _ _ us hl => match us, hl with | [_], _ => rfl) }
theorem law_at {h : Heap} {mg : Str → Option Value} {w : World} {K : PySem.W.Frag} {fa : Addr} (X : K.In h) (G : h.Ns mainGlobals mg) (S : He.SaysX fas dfs [] tfs exs w h K) (hmg : mg "law" = some (.ref fa)) : ∃ fd : FuncData, (∀ (s : Shared) (u : Value), BindsTo s fd ⟨[u], []⟩ [("script", u)]) ∧ L2.Fun K "law" "law" s_law fa fd := by
  have c : He.SaysD fas dfs K := congrArg (fun z : He.AlT => z.1) S.t
  obtain ⟨fd, F⟩ := c.def_ 17 rfl
  have e := hmg.symm.trans (He.glo_ok X G (c.fact 17 (f := .glo "law") rfl))
  cases e
  have b := FunD.bindsA (ps := ["script"]) F fun _ _ _ _ _ _ us hl => match us, hl with | [_], _ => rfl
  exact ⟨fd, fun s v => b s [v] rfl, fun_of F⟩
end Lk70
open PySem PySem.W PySem.Calls PyProof.Rows
theorem PySem.Challenge.cw_plantkept_k70_whole_ovens_holds : PySem.Challenge.rw_plantkept_k70_whole_ovens.Holds := by
  w_on; o_law
  refine HandSHeadRun.head_any (r := Lk70.R) (q := view Lk70.R.prog [23]) (H := Lk70.hk) (ob := Lk70.ob) (M := 2000) (loose := Lk70.nms) (d := HandSHeadRun.topDef Lk70.R.prog 23) (kwd := []) Lk70.ob_eq
    (by kernel_rfl) (fun s => by kernel_rfl) Lk70.run (by kernel_rfl) (by kernel_rfl) (by kernel_rfl) (by rfl) (by first | assumption | decide +kernel) (by decide +kernel) ⟨rfl, rfl, rfl, rfl, rfl, by decide +kernel⟩ ?hw ?hc
  case hw => w_witness2
  case hc =>
    refine LamX.walk_ofTsE (l := PySem.Challenge.rw_plantkept_k70_whole_ovens) (n := 63) (k := 11) (x := "script") (CX := fun w => L2.CX (PySem.Challenge.rw_plantkept_k70_whole_ovens).prog w) rfl (by decide) (by kernel_rfl) ⟨rfl, by decide, by decide⟩ ?F (fun _ _ _ _ _ z => by obtain ⟨_, _, _, _, _, _, _, _, _, _, _, _, q⟩ := z; exact q)
    intro w mg fa h Y G hmg0
    obtain ⟨K, KX, S⟩ := Y
    have hmg : mg ("law" : PySem.Str) = some (.ref fa) := by
      have e : (HandSHeadRun.topDef Lk70.R.prog 23).name = ("law" : PySem.Str) := by kernel_rfl
      rw [← e]
      exact hmg0
    refine ⟨K, KX, ?_⟩
    obtain ⟨fd, hb, FL⟩ := Lk70.law_at KX G S hmg
    refine ⟨fd, Lk70.tfs.map (He.cT K), DL.spD K (Lk70.cfg w K) Lk70.ps_law.length Lk70.F_law, fun p hp => ?_, fun p hp => ?_, fun p hp => ?_, fun s u => hb s u, fun H a ns hl hbits ht hS => ?_, fun base KB GB tb => ?_⟩
    · obtain ⟨q, hq, rfl⟩ := List.mem_map.mp hp
      exact S.empty q hq
    · obtain ⟨q, hq, rfl⟩ := List.mem_map.mp hp
      exact S.out q hq
    · obtain ⟨q, hq, rfl⟩ := List.mem_map.mp hp
      exact PySem.W.codeHd_of_K KX (S.hd q hq)
    · exact DL.law_sp rfl (Lk70.law_true ns hl hbits) (fun P hP => by
        obtain ⟨q, hq, rfl⟩ := List.mem_map.mp hP
        exact ht (He.cT K q) (List.mem_map.mpr ⟨q, hq, rfl⟩)) rfl hS
    · have C := Lk70.w_law (P := (PySem.Challenge.rw_plantkept_k70_whole_ovens).prog) (w := w) (Lk70.facts KX G S fun p hp => have z := tb _ (List.mem_map.mpr ⟨p, hp, rfl⟩); ⟨z.code, z.bm, z.gP⟩) FL
      exact C
end
